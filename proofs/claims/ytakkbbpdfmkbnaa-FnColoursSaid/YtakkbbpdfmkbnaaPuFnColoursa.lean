/- The plain part: what the functions compute, in lists and numbers. Nothing is assumed. -/
import Derived.Test.YtakkbbpdfmkbnaaFwd
import Derived.Lib.ItoaLen
import Derived.Lib.Join
noncomputable section
set_option linter.defProp false
set_option linter.unusedVariables false
namespace Go.Fw
def cn:List Int->List Int->Bool
 |[],[]=>false
 |[],_::_=>true
 |_::_,[]=>false
 |x::xs,y::ys=>if x=y then cn xs ys else decide (x<y)
def bX(n lo hi:Int):Bool:=decide (lo<=n)&&decide (n<=hi)
def eW{α:Type}(n j:Nat)(F G:Nat->α):List α:=(List.range n).map λi=>if i<j then F i else G i
section
variable {α : Type} {n j : Nat} {F G : Nat → α}
def nW:(eW n j F G).length=n:=by simp[eW]
def iI{i:Nat}(h:i<n)(d:α):((List.range n).map F).getD i d=F i:=by rw[List.getD_eq_getElem?_getD,List.getElem?_map,List.getElem?_range h];rfl
def xx{i:Nat}(h:i<n)(d:α):(eW n j F G).getD i d=if i<j then F i else G i:=iI h d
def xy(h:j<n):(eW n j F G).set j (F j)=eW n (j+1) F G:=by
 apply List.ext_getElem?;intro i;by_cases hi:i<n
 ·by_cases e:j=i;·subst e;rw[List.getElem?_set_self (by rw[nW];exact h)];simp[eW,List.getElem?_map,List.getElem?_range h]
  ·rw[List.getElem?_set_ne e];simp only[eW,List.getElem?_map,List.getElem?_range hi,Option.map_some];by_cases h1:i<j;·rw[if_pos h1,if_pos (by omega)]
   ·rw[if_neg h1,if_neg (by omega)]
 ·rw[List.getElem?_eq_none (by rw[List.length_set,nW];omega),List.getElem?_eq_none (by rw[nW];omega)]
def xz:eW n 0 F G=(List.range n).map G:=by simp[eW]
def xA:eW n n F G=(List.range n).map F:=by unfold eW;apply List.map_congr_left;intro i hi;rw[if_pos (List.mem_range.1 hi)]
def qj{l:List α}(d:α)(h:l.length=n):(List.range n).map (λi=>l.getD i d)=l:=by
 apply List.ext_getElem?;intro i;by_cases hi:i<n;·rw[List.getElem?_map,List.getElem?_range hi,Option.map_some,List.getD_eq_getElem?_getD,List.getElem?_eq_getElem (by omega),Option.getD_some]
 ·rw[List.getElem?_eq_none (by simp;omega),List.getElem?_eq_none (by omega)]
end
def B7(x y:Int)(n:Nat)(hy:y=(n:Int))(hn:n<2147483648):0<=eD .and .i64 x y/\eD .and .i64 x y<=n:=by
 subst hy;have e:eD .and .i64 x (n:Int)=IntKind.i64.wrap ((BitVec.ofInt 64 x &&& BitVec.ofInt 64 (n:Int)).toNat:Int):=rfl;have h1:(BitVec.ofInt 64 x &&& BitVec.ofInt 64 (n:Int)).toNat<=n:=by rw[BitVec.toNat_and];refine Nat.le_trans Nat.and_le_right ?_;rw[BitVec.toNat_ofInt];omega
 rw[e];generalize(BitVec.ofInt 64 x &&& BitVec.ofInt 64 (n:Int)).toNat=k at h1;have:IntKind.i64.wrap (k:Int)=(k:Int):=by simp[IntKind.wrap,IntKind.bits,IntKind.signed];omega
 rw[this];omega
def bU(b:List Int)(r:Int×Int):Bool:=decide (0<=r.1)&&(decide (r.1<=(b.length:Int))&&decide (b.length<=maxLen))
def xC{b:List Int}{r:Int×Int}:bU b r=true↔0<=r.1/\r.1<=(b.length:Int)/\b.length<=maxLen:=by simp[bU]
def nX(m:Int×Int×List Int)(i j:Int):Bool:=decide (0<=i)&&(decide (0<=j)&&(decide (0<=m.1)&&decide (i*m.1+j<(m.2.2.length:Int))))
def nY(m:Int×Int×List Int)(i j:Int):Int:=m.2.2.getD (i*m.1+j).toNat 0
def B8{m:Int×Int×List Int}{i j:Int}(hl:m.2.2.length<=maxLen)(h:nX m i j=true):ab (ab (i*m.1)+j)=i*m.1+j/\0<=i*m.1+j/\i*m.1+j<(m.2.2.length:Int):=by simp only[nX,Bool.and_eq_true,decide_eq_true_eq]at h;obtain⟨h1,h2,h3,h4⟩:=h;have h5:0<=i*m.1:=Int.mul_nonneg h1 h3;rw[bD]at hl;have e:ab (i*m.1)=i*m.1:=aL (by omega) (by omega);rw[e,aL (by omega) (by omega)];exact⟨rfl,by omega,h4⟩
def ae(m:Int×Int×List Int)(i j:Nat):Int:=m.2.2.getD (i*m.1.toNat+j) 0
def gA{m:Int×Int×List Int}(h:0<=m.1)(i j:Nat):nY m (i:Int) (j:Int)=ae m i j:=by unfold nY ae;congr 1;obtain⟨n,hn⟩:=Int.eq_ofNat_of_zero_le h;rw[hn];norm_cast
def az(m:Int×Int×List Int):Bool:=bX m.1 1 5&&(bX m.2.1 m.1 8&&decide ((m.2.2.length:Int)=m.1*m.2.1))
def gB(l:List Int):Bool:=l.all λx=>bX x (-99) 99
def bi(m:Int×Int×List Int):Bool:=az m&&gB m.2.2
def fk(a b:Int):Bool:=(decide (0<a) == decide (b<0))&&(decide (a=0) == decide (b=0))
def aS(m:Int×Int×List Int):Bool:=bi m&&(List.range m.1.toNat).all λi=>(List.range m.1.toNat).all λj=>fk (ae m i j) (ae m j i)
def cy{n lo hi:Int}:bX n lo hi=true↔lo<=n/\n<=hi:=by simp[bX]
def aN{m:Int×Int×List Int}(h:az m=true):∃n r:Nat,m.1=(n:Int)/\m.2.1=(r:Int)/\1<=n/\n<=5/\n<=r/\r<=8/\m.2.2.length=r*n:=by simp only[az,Bool.and_eq_true,cy,decide_eq_true_eq]at h;obtain⟨⟨h1,h2⟩,⟨h3,h4⟩,h5⟩:=h;obtain⟨n,hn⟩:=Int.eq_ofNat_of_zero_le (show 0<=m.1 by omega);obtain⟨r,hr⟩:=Int.eq_ofNat_of_zero_le (show 0<=m.2.1 by omega);refine⟨n,r,hn,hr,by omega,by omega,by omega,by omega, ?_⟩;rw[hn,hr,Int.mul_comm]at h5;exact_mod_cast h5
def fU{n r i j:Nat}(hi:i<r)(hj:j<n):i*n+j<r*n:=by have:=Nat.mul_le_mul_right n (show i+1<=r from hi);rw[Nat.add_mul]at this;omega
def gW{m:Int×Int×List Int}(h:az m=true){i j:Nat}(hi:i<m.2.1.toNat)(hj:j<m.1.toNat):nX m (i:Int) (j:Int)=true:=by obtain⟨n,r,hn,hr,_,_,_,_,hl⟩:=aN h;have:=fU (n:=n) (r:=r) (i:=i) (j:=j) (by omega) (by omega);simp only[nX,Bool.and_eq_true,decide_eq_true_eq,hn,hl];refine⟨by omega,by omega,by omega, ?_⟩;exact_mod_cast this
def J6{l:List Int}(h:gB l=true)(i:Nat):-99<=l.getD i 0/\l.getD i 0<=99:=by
 by_cases hi:i<l.length;·have:=(List.all_eq_true.1 h) _ (bF 0 hi);exact cy.1 this
 ·rw[List.getD_eq_getElem?_getD,List.getElem?_eq_none (by omega),Option.getD_none];omega
def kV{j n:Nat}(h:j<n):(List.range n).drop j=j::(List.range n).drop (j+1):=by rw[iH 0 (by simpa using h),List.getD_eq_getElem?_getD,List.getElem?_range h,Option.getD_some]
def fl(n:Int):ByteArray:=⟨(Lib.itoa n).toArray⟩
def eX(u:Nat):List Int:=(Lib.decDigits u).reverse.map λb=>(b.toNat:Int)
def B9{t:Nat}(h:t<10):((UInt8.ofNat (48+t)).toNat:Int)=48+(t:Int):=by rw[UInt8.toNat_ofNat'];omega
def Ca{u:Nat}(h:u<10):eX u=[48+(u:Int)]:=by rw[eX,Lib.decDigits,dif_pos h];simp only[List.reverse_cons,List.reverse_nil,List.nil_append,List.map_cons,List.map_nil];rw[B9 h]
def Cb{u:Nat}(h:¬ u<10):eX u=(48+((u%10:Nat):Int))::eX (u / 10):=by rw[eX,Lib.decDigits,dif_neg h,List.reverse_append];simp only[List.reverse_cons,List.reverse_nil,List.nil_append,List.singleton_append,List.map_cons];rw[B9 (Nat.mod_lt _ (by omega))];rfl
def Cc(l:List UInt8):strOfNums (l.map λb=>(b.toNat:Int))=⟨l.toArray⟩:=by
 unfold strOfNums;rw[List.map_map];congr 2;conv=>rhs;rw[<-List.map_id l]
 apply List.map_congr_left;intro b _;simp
def J7(u:Nat):strOfNums (eX u).reverse=⟨(Lib.decDigits u).toArray⟩:=by rw[eX,<-List.map_reverse,List.reverse_reverse,Cc]
def J8(u:Nat):strOfNums (45::(eX u).reverse)=⟨(45::Lib.decDigits u).toArray⟩:=by rw[eX,<-List.map_reverse,List.reverse_reverse];exact Cc (45::Lib.decDigits u)
def Cd(k:Int):Int.tmod k 10=if k<0 then -((k.natAbs%10:Nat):Int)else((k.natAbs%10:Nat):Int):=by
 split;·rename_i h;obtain⟨u,rfl⟩:∃u:Nat,k=-(u:Int):=⟨k.natAbs,by omega⟩;rw[Int.neg_tmod,Int.natAbs_neg,Int.natAbs_natCast];rfl
 ·rename_i h;obtain⟨u,rfl⟩:∃u:Nat,k=(u:Int):=⟨k.toNat,by omega⟩;rw[Int.natAbs_natCast];rfl
def J9(k:Int):Int.tdiv k 10=if k<0 then -((k.natAbs / 10:Nat):Int)else((k.natAbs / 10:Nat):Int):=by
 split;·rename_i h;obtain⟨u,rfl⟩:∃u:Nat,k=-(u:Int):=⟨k.natAbs,by omega⟩;rw[Int.neg_tdiv,Int.natAbs_neg,Int.natAbs_natCast];rfl
 ·rename_i h;obtain⟨u,rfl⟩:∃u:Nat,k=(u:Int):=⟨k.toNat,by omega⟩;rw[Int.natAbs_natCast];rfl
def Ce{n:Int}(h0:0<=n)(h1:n<256):w8 n=n:=by unfold w8;rw[IntKind.wrap_u8];omega
def Ka{k:Int}(h:¬ Int.tmod k 10<0):w8 (ab (48+Int.tmod k 10))=48+((k.natAbs%10:Nat):Int):=by
 have hm:k.natAbs%10<10:=Nat.mod_lt _ (by omega);have e:Int.tmod k 10=((k.natAbs%10:Nat):Int):=by
  rw[Cd]at h ⊢;split;·rename_i hk;rw[if_pos hk]at h;omega
  ·rfl
 rw[e,aL (by omega) (by omega),Ce (by omega) (by omega)]
def Kb{k:Int}(h:Int.tmod k 10<0):w8 (ab (48+ab (0-Int.tmod k 10)))=48+((k.natAbs%10:Nat):Int):=by
 have hm:k.natAbs%10<10:=Nat.mod_lt _ (by omega);have e:Int.tmod k 10=-((k.natAbs%10:Nat):Int):=by
  rw[Cd]at h ⊢;split;·rfl
  ·rename_i hk;rw[if_neg hk]at h;omega
 have e1:ab (0 - -((k.natAbs%10:Nat):Int))=((k.natAbs%10:Nat):Int):=by rw[aL (by omega) (by omega)];omega
 rw[e,e1,aL (by omega) (by omega),Ce (by omega) (by omega)]
def xD(k:Int):(Int.tdiv k 10).natAbs=k.natAbs / 10:=by rw[J9];split<;>omega
def iJ(l:List UInt8):ByteArray:=⟨l.toArray⟩
def Kh(l:List UInt8):(iJ l).size=l.length:=by simp[iJ,ByteArray.size]
def ce:List Int->Nat
 |[]=>0
 |x::xs=>Nat.gcd x.natAbs (ce xs)
def Kj(l m:List Int):ce (l++m)=Nat.gcd (ce l) (ce m):=by
 induction l with
 |nil=>simp[ce]
 |cons x xs ih=>rw[List.cons_append,ce,ih,ce,Nat.gcd_assoc]
def td(c:Int)(l:List Int):ce (l.map λx=>c*x)=c.natAbs*ce l:=by
 induction l with
 |nil=>simp[ce]
 |cons x xs ih=>rw[List.map_cons,ce,ih,ce,Int.natAbs_mul,Nat.gcd_mul_left]
def tf{l:List Int}{x:Int}(h:x∈l):((ce l:Nat):Int)∣x:=by
 induction l with
 |nil=>cases h
 |cons y ys ih =>
  rw[ce];rcases List.mem_cons.1 h with e|e;·subst e;exact Int.ofNat_dvd_left.2 (Nat.gcd_dvd_left _ _)
  ·exact Int.dvd_trans (Int.natCast_dvd_natCast.2 (Nat.gcd_dvd_right _ _)) (ih e)
def cz(n:Nat)(A:Nat->Nat->Int)(d:Nat->Int):Prop:=∀i,i<n->0<d i/\∀j,j<n->d i*A i j=-(d j*A j i)
def kW(n:Nat)(A:Nat->Nat->Int)(d:Nat->Int):Prop:=∀i,i<n->∃L:List Nat,(∀k∈L,k<n)/\ce (L.map d)=1/\∀e,cz n A e->∀k∈L,d i*e k=d k*e i
def xE{n:Nat}{A:Nat->Nat->Int}{d e:Nat->Int}(hd:cz n A d)(he:cz n A e)(pd:kW n A d){i:Nat}(hi:i<n):d i∣e i:=by
 obtain⟨L,h1,h2,h3⟩:=pd i hi;have h4:(L.map d).map (λx=>e i*x)=(L.map e).map (λx=>d i*x):=by rw[List.map_map,List.map_map];apply List.map_congr_left;intro k hk;show e i*d k=d i*e k;rw[h3 e he k hk,Int.mul_comm]
 have h5:(e i).natAbs*1=(d i).natAbs*ce (L.map e):=by rw[<-h2,<-td,<-td,h4]
 exact Int.natAbs_dvd_natAbs.1 ⟨ce (L.map e),by rw[<-h5,Nat.mul_one]⟩
def Kk{n:Nat}{A:Nat->Nat->Int}{d e:Nat->Int}(hd:cz n A d)(he:cz n A e)(pd:kW n A d)(pe:kW n A e){i:Nat}(hi:i<n):d i=e i:=by have h1:=xE hd he pd hi;have h2:=xE he hd pe hi;have:=(hd i hi).1;have:=(he i hi).1;exact Int.dvd_antisymm (by omega) (by omega) h1 h2
def tg{n:Nat}{A:Nat->Nat->Int}{e:Nat->Int}(he:cz n A e){i j:Nat}(hi:i<n)(hj:j<n)(h:A i j=0):A j i=0:=by
 have h1:=(he i hi).2 j hj;rw[h,Int.mul_zero]at h1;have h2:e j*A j i=0:=by omega
 rcases Int.mul_eq_zero.1 h2 with h3|h3;·have:=(he j hj).1;omega
 ·exact h3
def Cf{a b e f p q:Int}(he:0<e)(hf:0<f)(h:a*f=b*e)(hg:e*p=-(f*q)):a*p=-(b*q):=by
 have h1:f*(a*p)=f*(-(b*q)):=by
  calc f*(a*p)=(a*f)*p:=by rw[<-Int.mul_assoc,Int.mul_comm f a]
   _=b*(e*p):=by rw[h,Int.mul_assoc]
   _=f*(-(b*q)):=by rw[hg,Int.mul_neg,Int.mul_neg,Int.mul_left_comm]
 exact Int.eq_of_mul_eq_mul_left (by omega) h1
def Kl{a b e f p q:Int}(hp:p≠0)(he:0<e)(h:a*p=-(b*q))(hg:e*p=-(f*q))(hq:q≠0):a*f=b*e:=by
 have h1:q*(a*f)=q*(b*e):=by
  calc q*(a*f)=a*(f*q):=by rw[Int.mul_left_comm,Int.mul_comm q f]
   _=a * -(e*p):=by rw[hg,Int.neg_neg]
   _=e*(-(a*p)):=by rw[Int.mul_neg,Int.mul_neg,Int.mul_left_comm]
   _=q*(b*e):=by rw[h,Int.neg_neg,Int.mul_left_comm,Int.mul_comm e q,Int.mul_left_comm]
 exact Int.eq_of_mul_eq_mul_left hq h1
def Cg{a b c e f g:Int}(hf:f≠0)(h1:a*f=b*e)(h2:b*g=c*f):a*g=c*e:=by
 have h3:f*(a*g)=f*(c*e):=by
  calc f*(a*g)=(a*f)*g:=by rw[<-Int.mul_assoc,Int.mul_comm f a]
   _=e*(b*g):=by rw[h1,Int.mul_comm b e,Int.mul_assoc]
   _=f*(c*e):=by rw[h2,Int.mul_left_comm,Int.mul_comm e f,Int.mul_left_comm]
 exact Int.eq_of_mul_eq_mul_left hf h3
open Classical in
def be(m:Int×Int×List Int):List Int :=
 if h:∃l:List Int,l.length=m.1.toNat/\cz m.1.toNat (ae m) (λi=>l.getD i 0)/\kW m.1.toNat (ae m) (λi=>l.getD i 0)then Classical.choose h else[]
def xF{m:Int×Int×List Int}{l:List Int}(h1:l.length=m.1.toNat)(h2:cz m.1.toNat (ae m) (λi=>l.getD i 0))(h3:kW m.1.toNat (ae m) (λi=>l.getD i 0)):be m=l:=by
 have h:∃l:List Int,l.length=m.1.toNat/\cz m.1.toNat (ae m) (λi=>l.getD i 0)/\kW m.1.toNat (ae m) (λi=>l.getD i 0):=⟨l,h1,h2,h3⟩;have hc:=Classical.choose_spec h;rw[be,dif_pos h];generalize Classical.choose h=c at hc;obtain⟨c1,c2,c3⟩:=hc;apply List.ext_getElem?;intro i;by_cases hi:i<m.1.toNat;·have:=Kk c2 h2 c3 h3 hi;simp only[List.getD_eq_getElem?_getD]at this;rw[List.getElem?_eq_getElem (by omega),List.getElem?_eq_getElem (by omega)]at this ⊢;simpa using this
 ·rw[List.getElem?_eq_none (by omega),List.getElem?_eq_none (by omega)]
def Ch{m:Int×Int×List Int}(h:¬ ∃e,cz m.1.toNat (ae m) e):be m=[]:=by
 rw[be,dif_neg];rintro ⟨l,_,h2,_⟩
 exact h ⟨_,h2⟩
def nZ{m:Int×Int×List Int}(h:be m≠[]):(be m).length=m.1.toNat/\cz m.1.toNat (ae m) (λi=>(be m).getD i 0)/\kW m.1.toNat (ae m) (λi=>(be m).getD i 0):=by
 by_cases hx:∃l:List Int,l.length=m.1.toNat/\cz m.1.toNat (ae m) (λi=>l.getD i 0)/\kW m.1.toNat (ae m) (λi=>l.getD i 0)
 ·have:be m=Classical.choose hx:=by rw[be,dif_pos hx]
  rw[this];exact Classical.choose_spec hx
 ·exact absurd (by rw[be,dif_neg hx]) h
def n7{n:Nat}{A:Nat->Nat->Int}{e:Nat->Int}(he:cz n A e){i j:Nat}(hi:i<n)(hj:j<n):fk (A i j) (A j i)=true:=by
 have h1:=(he i hi).2 j hj;have h2:=(he i hi).1;have h3:=(he j hj).1;have e1:decide (0<A i j)=decide (A j i<0):=by
  rw[decide_eq_decide];constructor
  ·intro h;have:=Int.mul_pos h2 h;rcases Int.lt_or_le (A j i) 0 with h4|h4;·exact h4
   ·have:=Int.mul_nonneg (Int.le_of_lt h3) h4;omega
  ·intro h;have:=Int.mul_neg_of_pos_of_neg h3 h;rcases Int.lt_or_le 0 (A i j)with h4|h4;·exact h4
   ·have:=Int.mul_nonpos_of_nonneg_of_nonpos (Int.le_of_lt h2) h4;omega
 have e2:decide (A i j=0)=decide (A j i=0):=by rw[decide_eq_decide];exact⟨tg he hi hj,tg he hj hi⟩
 rw[fk,e1,e2];simp
def Km{m:Int×Int×List Int}(hs:bi m=true)(h:be m≠[]):aS m=true:=by obtain⟨h1,h2,h3⟩:=nZ h;rw[aS,hs,Bool.true_and,List.all_eq_true];intro i hi;rw[List.all_eq_true];intro j hj;exact n7 h2 (List.mem_range.1 hi) (List.mem_range.1 hj)
def aB(l:List Nat):List Int:=l.map λ(x:Nat)=>(x:Int)
def cv(l:List Nat):(aB l).length=l.length:=by simp[aB]
def gX(l:List Nat)(k:Nat):(aB l).getD k 0=((l.getD k 0:Nat):Int):=by simp only[aB,List.getD_eq_getElem?_getD,List.getElem?_map];cases l[k]?<;>rfl
def xG(l:List Nat)(x:Nat):aB l++[(x:Int)]=aB (l++[x]):=by simp[aB]
def Ci{l:List Nat}{x:Nat}:((x:Int)∈aB l)↔x∈l:=by
 simp only[aB,List.mem_map];constructor
 ·rintro ⟨a,h1,h2⟩
  rwa [<-Int.ofNat.inj h2]
 ·exact λh=>⟨x,h,rfl⟩
def th:∀(n:Nat) (l:List Nat),l.Nodup->(∀x∈l,x<n)->l.length<=n
 |0,l,_,h=>by
  cases l with
  |nil=>simp
  |cons x xs=>exact absurd (h x (by simp)) (by omega)
 |n+1,l,hn,h=>by have:=th n (l.erase n) (hn.erase n) (λx hx=>by have h1:=(hn.mem_erase_iff).1 hx;have:=h x h1.2;omega);rw[List.length_erase]at this;split at this<;>omega
def gY(A:Nat->Nat->Int)(x:Nat):List Nat->List Nat×List Nat->List Nat×List Nat
 |[],s=>s
 |j::js,s=>gY A x js (if A x j≠0/\j∉s.1 then(s.1++[j],s.2++[x])else s)
def jr(A:Nat->Nat->Int)(n:Nat):Nat->Nat->List Nat×List Nat->List Nat×List Nat
 |0,_,s=>s
 |f+1,p,s=>if p<s.1.length then jr A n f (p+1) (gY A (s.1.getD p 0) (List.range n) s)else s
def kX(m:Int×Int×List Int)(i:Nat):List Nat×List Nat:=jr (ae m) m.1.toNat m.1.toNat 0 ([i],[i])
structure dc(n:Nat)(A:Nat->Nat->Int)(i:Nat)(s:List Nat×List Nat):Prop where
 nd:s.1.Nodup
 lt:∀x∈s.1,x<n
 len:s.2.length=s.1.length
 hd:s.1.getD 0 0=i
 pos:0<s.1.length
 src:∀k,1<=k->k<s.1.length->∃k',k'<k/\s.2.getD k 0=s.1.getD k' 0/\A (s.2.getD k 0) (s.1.getD k 0)≠0
def dc.le{n:Nat}{A:Nat->Nat->Int}{i:Nat}{s:List Nat×List Nat}(h:dc n A i s):s.1.length<=n:=th n s.1 h.nd h.lt
def iK{α:Type}{l m:List α}{k:Nat}{d:α}(h:k<l.length):(l++m).getD k d=l.getD k d:=by simp only[List.getD_eq_getElem?_getD];rw[List.getElem?_append_left h]
def xH{α:Type}{l:List α}{x d:α}{k:Nat}(h:k=l.length):(l++[x]).getD k d=x:=by subst h;simp[List.getD_eq_getElem?_getD]
def dc.step{n:Nat}{A:Nat->Nat->Int}{i p j:Nat}{s:List Nat×List Nat}(h:dc n A i s)(hp:p<s.1.length)(hj:j<n)(ha:A (s.1.getD p 0) j≠0/\j∉s.1):dc n A i (s.1++[j],s.2++[s.1.getD p 0]):=by
 refine⟨?_, ?_, ?_, ?_, ?_, ?_⟩;·exact List.nodup_append.2 ⟨h.nd,by simp,λa ha' b hb e=>by rw[List.mem_singleton]at hb;subst hb;subst e;exact ha.2 ha'⟩
 ·intro x hx;rcases List.mem_append.1 hx with hx|hx;·exact h.lt x hx
  ·rw[List.mem_singleton]at hx;omega
 ·simp[h.len]
 ·exact(iK h.pos).trans h.hd
 ·simp
 ·intro k h1 h2;simp only[List.length_append,List.length_cons,List.length_nil]at h2;by_cases hk:k<s.1.length
  ·obtain⟨k',h3,h4,h5⟩:=h.src k h1 hk;refine⟨k',h3, ?_, ?_⟩;·show(s.2++_).getD k 0=(s.1++_).getD k' 0;rw[iK (by rw[h.len];exact hk),iK (by omega),h4]
   ·show A ((s.2++_).getD k 0) ((s.1++_).getD k 0)≠0;rw[iK (by rw[h.len];exact hk),iK hk];exact h5
  ·have e:k=s.1.length:=by omega
   refine⟨p,by omega, ?_, ?_⟩;·show(s.2++_).getD k 0=(s.1++_).getD p 0;rw[xH (by rw[h.len];exact e),iK hp]
   ·show A ((s.2++_).getD k 0) ((s.1++_).getD k 0)≠0;rw[xH (by rw[h.len];exact e),xH e];exact ha.1
def mD(s t:List Nat×List Nat):Prop:=∃u,t.1=s.1++u
def mD.getD{s t:List Nat×List Nat}(h:mD s t){k:Nat}(hk:k<s.1.length):t.1.getD k 0=s.1.getD k 0:=by obtain⟨u,h⟩:=h;rw[h,iK hk]
def mD.len{s t:List Nat×List Nat}(h:mD s t):s.1.length<=t.1.length:=by obtain⟨u,h⟩:=h;rw[h];simp
def mD.mem{s t:List Nat×List Nat}(h:mD s t){x:Nat}(hx:x∈s.1):x∈t.1:=by obtain⟨u,h⟩:=h;rw[h];exact List.mem_append_left _ hx
def tj{n:Nat}{A:Nat->Nat->Int}{i p:Nat}:∀(js:List Nat) (s:List Nat×List Nat),dc n A i s->p<s.1.length->(∀j∈js,j<n) ->
  dc n A i (gY A (s.1.getD p 0) js s)/\mD s (gY A (s.1.getD p 0) js s)/\∀j∈js,A (s.1.getD p 0) j≠0->j∈(gY A (s.1.getD p 0) js s).1
 |[],s,h,_,_=>⟨h,⟨[],by simp[gY]⟩,λj hj=>by cases hj⟩
 |j::js,s,h,hp,hl=>by
  by_cases ha:A (s.1.getD p 0) j≠0/\j∉s.1
  ·have e:(s.1++[j]).getD p 0=s.1.getD p 0:=iK hp;have:=tj (p:=p) js (s.1++[j],s.2++[s.1.getD p 0]) (h.step hp (hl j (by simp)) ha) (by simp;omega) (λx hx=>hl x (by simp[hx]));simp only[e]at this;obtain⟨h1,⟨u,h2⟩,h3⟩:=this;rw[gY,if_pos ha];refine⟨h1,⟨[j]++u,by rw[h2];simp⟩,λx hx hax=>?_⟩;rcases List.mem_cons.1 hx with hx|hx;·subst hx;rw[h2];simp
   ·exact h3 x hx hax
  ·have:=tj (p:=p) js s h hp (λx hx=>hl x (by simp[hx]));obtain⟨h1,h2,h3⟩:=this;rw[gY,if_neg ha];refine⟨h1,h2,λx hx hax=>?_⟩;rcases List.mem_cons.1 hx with hx|hx;·subst hx;exact h2.mem (Classical.byContradiction λhc=>ha ⟨hax,hc⟩)
   ·exact h3 x hx hax
def Cj{n:Nat}{A:Nat->Nat->Int}{i:Nat}:∀(f p:Nat) (s:List Nat×List Nat),dc n A i s->n<=f+p->p<=s.1.length->(∀k,k<p->∀j,j<n->A (s.1.getD k 0) j≠0->j∈s.1) ->
  dc n A i (jr A n f p s)/\∀x∈(jr A n f p s).1,∀j,j<n->A x j≠0->j∈(jr A n f p s).1
 |0,p,s,h,hf,hp,hc=>⟨h,λx hx j hj ha=>by change x∈s.1 at hx;show j∈s.1;obtain⟨k,hk,rfl⟩:=List.getElem_of_mem hx;have:=h.le;refine hc k (by omega) j hj ?_;rw[List.getD_eq_getElem?_getD,List.getElem?_eq_getElem hk];exact ha⟩
 |f+1,p,s,h,hf,hp,hc=>by
  rw[jr];by_cases hlt:p<s.1.length
  ·rw[if_pos hlt];obtain⟨h1,h2,h3⟩:=tj (p:=p) (List.range n) s h hlt (λx hx=>List.mem_range.1 hx);refine Cj f (p+1) _ h1 (by omega) (by have:=h2.len;omega) ?_;intro k hk j hj ha;by_cases e:k=p;·subst e;rw[h2.getD hlt]at ha;exact h3 j (List.mem_range.2 hj) ha
   ·rw[h2.getD (by omega)]at ha;exact h2.mem (hc k (by omega) j hj ha)
  ·rw[if_neg hlt];refine⟨h,λx hx j hj ha=>?_⟩;obtain⟨k,hk,rfl⟩:=List.getElem_of_mem hx;refine hc k (by omega) j hj ?_;rw[List.getD_eq_getElem?_getD,List.getElem?_eq_getElem hk];exact ha
def dc.first{n:Nat}{A:Nat->Nat->Int}{i:Nat}(h:i<n):dc n A i ([i],[i]) :=
 ⟨by simp,by simpa using h,rfl,rfl,by simp,λk h1 h2=>by simp at h2;omega⟩
def Kn{m:Int×Int×List Int}{i:Nat}(h:i<m.1.toNat):dc m.1.toNat (ae m) i (kX m i)/\∀x∈(kX m i).1,∀j,j<m.1.toNat->ae m x j≠0->j∈(kX m i).1 :=
 Cj m.1.toNat 0 _ (dc.first h) (by omega) (by simp) (λk hk=>by omega)
def cA{α:Type}{l:List α}{x y:Nat}{v d:α}(h:x<l.length):(l.set x v).getD y d=if x=y then v else l.getD y d:=by
 by_cases e:x=y;·subst e;rw[if_pos rfl,JU h]
 ·rw[if_neg e,List.getD_eq_getElem?_getD,List.getElem?_set_ne e,List.getD_eq_getElem?_getD]
def jt{l:List Nat}(h:l.Nodup){a b:Nat}(ha:a<l.length)(hb:b<l.length)(e:l.getD a 0=l.getD b 0):a=b:=by
 rw[List.getD_eq_getElem?_getD,List.getD_eq_getElem?_getD,List.getElem?_eq_getElem ha,List.getElem?_eq_getElem hb,Option.getD_some,Option.getD_some]at e;rcases Nat.lt_trichotomy a b with h1|h1|h1;·exact absurd e (List.pairwise_iff_getElem.1 h a b ha hb h1)
 ·exact h1
 ·exact absurd e.symm (List.pairwise_iff_getElem.1 h b a hb ha h1)
def mE{l:List Nat}{x:Nat}(h:x∈l):∃k,k<l.length/\l.getD k 0=x:=by obtain⟨k,hk,rfl⟩:=List.getElem_of_mem h;exact⟨k,hk,by rw[List.getD_eq_getElem?_getD,List.getElem?_eq_getElem hk,Option.getD_some]⟩
def Ck{α:Type}(l:List Nat)(f:Nat->α):(List.range l.length).map (λt=>f (l.getD t 0))=l.map f:=by
 have:=qj (n:=l.length) (l:=l) 0 rfl;conv=>rhs;rw[<-this]
 rw[List.map_map];rfl
def bG(a:Int):Int:=(a.natAbs:Int)
def n8{a:Int}(h:a≠0):0<bG a:=by unfold bG;omega
def qk{a:Int}(h:-99<=a/\a<=99):bG a<=99:=by unfold bG;omega
def Cm{e f p q:Int}(he:0<e)(hf:0<f)(h:e*p=-(f*q)):e*bG p=f*bG q:=by
 have h1:(e*p).natAbs=(f*q).natAbs:=by rw[h,Int.natAbs_neg]
 rw[Int.natAbs_mul,Int.natAbs_mul]at h1;have:((e.natAbs*p.natAbs:Nat):Int)=((f.natAbs*q.natAbs:Nat):Int):=by rw[h1]
 rw[Int.natCast_mul,Int.natCast_mul,Int.natAbs_of_nonneg (Int.le_of_lt he),Int.natAbs_of_nonneg (Int.le_of_lt hf)]at this;exact this
def cY(q:Nat->Int):Nat->Int
 |0=>1
 |k+1=>cY q k*q k
def Ko(q:Nat->Int){a b:Nat}(h:a<=b):cY q a∣cY q b:=by
 induction b with
 |zero=>rw[show a=0 by omega];exact Int.dvd_refl _
 |succ b ih =>
  by_cases e:a=b+1;·subst e;exact Int.dvd_refl _
  ·exact Int.dvd_trans (ih (by omega)) ⟨q b,rfl⟩
def qn{q:Nat->Int}{n:Nat}(h:∀k,k<n->0<q k/\q k<=99):∀k,k<=n->0<cY q k/\cY q k<=99 ^ k
 |0,_=>by simp[cY]
 |k+1,hk=>by obtain⟨h1,h2⟩:=qn h k (by omega);obtain⟨h3,h4⟩:=h k (by omega);refine⟨Int.mul_pos h1 h3, ?_⟩;rw[Int.pow_succ];exact Int.mul_le_mul h2 h4 (by omega) (Int.pow_nonneg (by omega))
def qo{k:Nat}(h:k<=8):(99:Int) ^ k<=9227446944279201:=by
 have h1:99 ^ k<=99 ^ 8:=Nat.pow_le_pow_right (by omega) h;have h2:(99:Int) ^ k=((99 ^ k:Nat):Int):=by rw[Int.natCast_pow];rfl
 rw[h2];omega
def Kp{H D Hk q p a:Int}(hH:0<Hk)(hq:0<q)(hp:0<p)(ha:0<a)(h1:Hk*q∣D)(h2:D∣a*Hk) :
  (Int.tdiv (a*p) q)*q=a*p/\0<Int.tdiv (a*p) q/\D∣Int.tdiv (a*p) q*(Hk*q):=by
 obtain⟨R,hR⟩:=h1;obtain⟨c,hc⟩:=h2;have e:a=q*(R*c):=by
  have:Hk*a=Hk*(q*(R*c)):=by rw[Int.mul_comm Hk a,hc,hR,<-Int.mul_assoc Hk q,Int.mul_assoc]
  exact Int.eq_of_mul_eq_mul_left (by omega) this
 have e2:Int.tdiv (a*p) q=R*c*p:=by rw[e,Int.mul_assoc,Int.mul_tdiv_cancel_left _ (by omega)]
 rw[e2];refine⟨by rw[e,Int.mul_comm (R*c*p) q,Int.mul_assoc q], ?_, ?_⟩
 ·have h3:0<q*(R*c*p):=by rw[<-Int.mul_assoc,<-e];exact Int.mul_pos ha hp
  rcases Int.lt_or_le 0 (R*c*p)with h|h;·exact h
  ·have:=Int.mul_nonpos_of_nonneg_of_nonpos (Int.le_of_lt hq) h;omega
 ·refine⟨c*p, ?_⟩;rw[hR,Int.mul_comm (R*c*p),Int.mul_assoc,Int.mul_assoc,Int.mul_assoc,Int.mul_assoc]
def Cn(g:Nat)(l:List Int)(x:Int)(hx:0<=x)(hg:g=ce l):(Int.gcd (g:Int) x:Int)=((ce (l++[x]):Nat):Int):=by subst hg;rw[Kj,ce,ce,Nat.gcd_zero_right];rfl
def qK(m:Int×Int×List Int)(s:List Nat×List Nat)(k:Nat):Int:=if k=0 then 1 else bG (ae m (s.1.getD k 0) (s.2.getD k 0))
def pK(m:Int×Int×List Int)(s:List Nat×List Nat)(k:Nat):Int:=bG (ae m (s.2.getD k 0) (s.1.getD k 0))
def tk{m:Int×Int×List Int}(h:aS m=true){i j:Nat}(hi:i<m.1.toNat)(hj:j<m.1.toNat):ae m i j=0↔ae m j i=0:=by rw[aS,Bool.and_eq_true,List.all_eq_true]at h;have h1:=List.all_eq_true.1 (h.2 i (List.mem_range.2 hi)) j (List.mem_range.2 hj);rw[fk,Bool.and_eq_true]at h1;have h2:=h1.2;rw[beq_iff_eq,decide_eq_decide]at h2;exact h2
def fV{m:Int×Int×List Int}(h:bi m=true)(i j:Nat):-99<=ae m i j/\ae m i j<=99:=by rw[bi,Bool.and_eq_true]at h;exact J6 h.2 _
def cR{m:Int×Int×List Int}(h:aS m=true):bi m=true:=by rw[aS,Bool.and_eq_true]at h;exact h.1
def cD{m:Int×Int×List Int}(h:bi m=true):az m=true:=by rw[bi,Bool.and_eq_true]at h;exact h.1
def qp{n:Nat}{A:Nat->Nat->Int}{i:Nat}{s:List Nat×List Nat}(h:dc n A i s){k:Nat}(h1:1<=k)(h2:k<s.1.length):s.2.getD k 0<n:=by obtain⟨k',h3,h4,h5⟩:=h.src k h1 h2;rw[h4];exact h.lt _ (bF 0 (by omega))
def tl{m:Int×Int×List Int}(hs:aS m=true){i:Nat}{s:List Nat×List Nat}(h:dc m.1.toNat (ae m) i s){k:Nat}(h1:1<=k)(h2:k<s.1.length) :
  (0<qK m s k/\qK m s k<=99)/\(0<pK m s k/\pK m s k<=99):=by
 obtain⟨k',h3,h4,h5⟩:=h.src k h1 h2;have h6:ae m (s.1.getD k 0) (s.2.getD k 0)≠0:=λe=>h5 ((tk hs (h.lt _ (bF 0 h2)) (qp h h1 h2)).1 e);have hb:=cR hs;rw[qK,if_neg (by omega),pK];exact⟨⟨n8 h6,qk (fV hb _ _)⟩,⟨n8 h5,qk (fV hb _ _)⟩⟩
def qq{m:Int×Int×List Int}(hs:aS m=true){i:Nat}{s:List Nat×List Nat}(h:dc m.1.toNat (ae m) i s)(k:Nat)(h2:k<s.1.length):0<qK m s k/\qK m s k<=99:=by
 by_cases e:k=0;·subst e;rw[qK,if_pos rfl];omega
 ·exact(tl hs h (by omega) h2).1
structure T2(m:Int×Int×List Int)(s:List Nat×List Nat)(d0:List Int)(k:Nat)(d:List Int)(g:Int):Prop where
 len:d.length=m.1.toNat
 out:∀x,x<m.1.toNat->(∀k',k'<k->x≠s.1.getD k' 0)->d.getD x 0=d0.getD x 0
 val:∀k',k'<k->0<d.getD (s.1.getD k' 0) 0/\d.getD (s.1.getD k' 0) 0<=99 ^ (4+k')/\cY (qK m s) s.1.length∣d.getD (s.1.getD k' 0) 0*cY (qK m s) k
 tree:∀k',1<=k'->k'<k->d.getD (s.1.getD k' 0) 0*qK m s k'=d.getD (s.2.getD k' 0) 0*pK m s k'
 gcd:g=((ce ((List.range k).map λt=>d.getD (s.1.getD t 0) 0):Nat):Int)
def T2.step{m:Int×Int×List Int}{s:List Nat×List Nat}{d0 d:List Int}{g:Int}{i k:Nat}(hs:aS m=true)(h:dc m.1.toNat (ae m) i s)(hn:m.1.toNat<=5)(h1:1<=k)(h2:k<s.1.length)(ht:T2 m s d0 k d g) :
  (0<d.getD (s.2.getD k 0) 0*pK m s k/\d.getD (s.2.getD k 0) 0*pK m s k<=9227446944279201) /\
  (0<Int.tdiv (d.getD (s.2.getD k 0) 0*pK m s k) (qK m s k)/\Int.tdiv (d.getD (s.2.getD k 0) 0*pK m s k) (qK m s k)<=9227446944279201) /\
  T2 m s d0 (k+1) (d.set (s.1.getD k 0) (Int.tdiv (d.getD (s.2.getD k 0) 0*pK m s k) (qK m s k))) (Int.gcd g (Int.tdiv (d.getD (s.2.getD k 0) 0*pK m s k) (qK m s k))):=by
 obtain⟨⟨hq,hq9⟩,hp,hp9⟩:=tl hs h h1 h2;obtain⟨k',h3,h4,h5⟩:=h.src k h1 h2;obtain⟨a1,a2,a3⟩:=ht.val k' h3;have hle:=h.le;rw[<-h4]at a1 a2 a3;have hH:=(qn (qq hs h) k (by omega)).1;have hx:s.1.getD k 0<d.length:=by rw[ht.len];exact h.lt _ (bF 0 h2)
 have hdv:cY (qK m s) k*qK m s k∣cY (qK m s) s.1.length:=Ko (qK m s) (show k+1<=s.1.length from h2);obtain⟨b1,b2,b3⟩:=Kp (H:=0) hH hq hp a1 hdv a3;have hb:d.getD (s.2.getD k 0) 0*pK m s k<=99 ^ (4+k):=by have:d.getD (s.2.getD k 0) 0*pK m s k<=99 ^ (4+k')*99:=Int.mul_le_mul a2 hp9 (by omega) (Int.pow_nonneg (by omega));rw[<-Int.pow_succ]at this;refine Int.le_trans this ?_;have h6:99 ^ (4+k'+1)<=99 ^ (4+k):=Nat.pow_le_pow_right (by omega) (by omega);exact_mod_cast h6
 have hp8:=qo (k:=4+k) (by omega);generalize hv:Int.tdiv (d.getD (s.2.getD k 0) 0*pK m s k) (qK m s k)=v at b1 b2 b3;have hvle:v<=d.getD (s.2.getD k 0) 0*pK m s k:=by rw[<-b1];have:=Int.mul_le_mul_of_nonneg_left (show(1:Int)<=qK m s k by omega) (Int.le_of_lt b2);omega
 have hne:∀t,t<k->s.1.getD k 0≠s.1.getD t 0:=λt ht' e=>by have:=jt h.nd h2 (by omega) e;omega
 have hget:∀t,t<k->(d.set (s.1.getD k 0) v).getD (s.1.getD t 0) 0=d.getD (s.1.getD t 0) 0:=λt ht'=>by rw[cA hx,if_neg (hne t ht')]
 have hself:(d.set (s.1.getD k 0) v).getD (s.1.getD k 0) 0=v:=by rw[cA hx,if_pos rfl]
 refine⟨⟨Int.mul_pos a1 hp,by omega⟩,⟨b2,by omega⟩,⟨?_, ?_, ?_, ?_, ?_⟩⟩;·rw[List.length_set,ht.len]
 ·intro x hx' hall;rw[cA hx,if_neg (λe=>hall k (by omega) e.symm)];exact ht.out x hx' (λt ht'=>hall t (by omega))
 ·intro t ht';by_cases e:t=k;·subst e;rw[hself];exact⟨b2,by omega,b3⟩
  ·rw[hget t (by omega)];obtain⟨c1,c2,c3⟩:=ht.val t (by omega);refine⟨c1,c2, ?_⟩;rw[cY,<-Int.mul_assoc];exact Int.dvd_trans c3 ⟨_,rfl⟩
 ·intro t ht1 ht2;by_cases e:t=k;·subst e;rw[hself,h4,hget k' h3,<-h4];exact b1
  ·obtain⟨t',c1,c2,_⟩:=h.src t ht1 (by omega);rw[hget t (by omega),c2,hget t' (by omega),<-c2];exact ht.tree t ht1 (by omega)
 ·rw[List.range_succ,List.map_append,List.map_cons,List.map_nil,hself];rw[show(List.range k).map (λt=>(d.set (s.1.getD k 0) v).getD (s.1.getD t 0) 0)=(List.range k).map (λt=>d.getD (s.1.getD t 0) 0)from List.map_congr_left (λt ht'=>hget t (List.mem_range.1 ht'))];rw[ht.gcd];exact Cn _ _ v (by omega) rfl
def T2.g_range{m:Int×Int×List Int}{s:List Nat×List Nat}{d0 d:List Int}{g:Int}{k:Nat}(h1:1<=k)(ht:T2 m s d0 k d g):0<g/\g<=9227446944279201:=by
 obtain⟨a1,a2,_⟩:=ht.val 0 (by omega);have hd:g∣d.getD (s.1.getD 0 0) 0:=by rw[ht.gcd];exact tf (List.mem_map.2 ⟨0,List.mem_range.2 (by omega),rfl⟩)
 have:=Int.le_of_dvd a1 hd;have hp:=qo (k:=4+0) (by omega);refine⟨?_,by omega⟩;rcases Int.lt_or_le 0 g with h|h;·exact h
 ·have h0:0<=g:=by rw[ht.gcd];omega
  have e:g=0:=by omega
  rw[e]at hd;have:=Int.zero_dvd.1 hd;omega
structure T3(m:Int×Int×List Int)(s:List Nat×List Nat)(d2:List Int)(g:Int)(k:Nat)(d:List Int):Prop where
 len:d.length=m.1.toNat
 out:∀x,x<m.1.toNat->(∀k',k'<k->x≠s.1.getD k' 0)->d.getD x 0=d2.getD x 0
 val:∀k',k'<k->d.getD (s.1.getD k' 0) 0=Int.tdiv (d2.getD (s.1.getD k' 0) 0) g
def T3.step{m:Int×Int×List Int}{s:List Nat×List Nat}{d2 d:List Int}{g:Int}{k:Nat}(hnd:s.1.Nodup)(hlt:∀x∈s.1,x<m.1.toNat)(h2:k<s.1.length)(ht:T3 m s d2 g k d) :
  T3 m s d2 g (k+1) (d.set (s.1.getD k 0) (Int.tdiv (d2.getD (s.1.getD k 0) 0) g)):=by
 have hx:s.1.getD k 0<d.length:=by rw[ht.len];exact hlt _ (bF 0 h2)
 refine⟨by rw[List.length_set,ht.len], ?_, ?_⟩;·intro x hx' hall;rw[cA hx,if_neg (λe=>hall k (by omega) e.symm)];exact ht.out x hx' (λt ht'=>hall t (by omega))
 ·intro t ht';by_cases e:t=k;·subst e;rw[cA hx,if_pos rfl]
  ·rw[cA hx,if_neg (λe'=>e (jt hnd h2 (by omega) e').symm)];exact ht.val t (by omega)
def T3.cur{m:Int×Int×List Int}{s:List Nat×List Nat}{d2 d:List Int}{g:Int}{k:Nat}(hnd:s.1.Nodup)(hlt:∀x∈s.1,x<m.1.toNat)(h2:k<s.1.length)(ht:T3 m s d2 g k d) :
  d.getD (s.1.getD k 0) 0=d2.getD (s.1.getD k 0) 0 :=
 ht.out _ (hlt _ (bF 0 h2)) (λt ht' e=>by have:=jt hnd h2 (by omega) e;omega)
def ju(n:Nat)(A:Nat->Nat->Int)(d:Nat->Int):Prop:=∀j,j<n->0<=d j/\d j<=9227446944279201 /\
 (0<d j->∃L:List Nat,j∈L/\(∀k∈L,k<n/\0<d k)/\(∀k,k<n->A j k≠0->k∈L)/\ce (L.map d)=1/\∀e,cz n A e->∀k∈L,d j*e k=d k*e j)
def Kq{m:Int×Int×List Int}{s:List Nat×List Nat}{d0 d:List Int}{g:Int}{i:Nat}(hs:aS m=true)(h:dc m.1.toNat (ae m) i s)(ht:T2 m s d0 s.1.length d g){e:Nat->Int}(he:cz m.1.toNat (ae m) e) :
  ∀k,k<s.1.length->d.getD i 0*e (s.1.getD k 0)=d.getD (s.1.getD k 0) 0*e i:=by
 intro k;induction k using Nat.strongRecOn with
 |_ k ih =>
  intro hk;by_cases h0:k=0;·subst h0;rw[h.hd]
  ·obtain⟨k',h3,h4,h5⟩:=h.src k (by omega) hk;have h6:=ih k' h3 (by omega);rw[<-h4]at h6;have hlk:=h.lt _ (bF 0 hk);have hfk:=qp h (show 1<=k by omega) hk;have h7:=Cm (he _ hfk).1 (he _ hlk).1 ((he _ hfk).2 _ hlk);have h8:=ht.tree k (by omega) hk;obtain⟨⟨hq,_⟩,hp,_⟩:=tl hs h (show 1<=k by omega) hk;rw[show bG (ae m (s.1.getD k 0) (s.2.getD k 0))=qK m s k by rw[qK,if_neg h0]]at h7;have h7':e (s.2.getD k 0)*pK m s k=e (s.1.getD k 0)*qK m s k:=h7;have h9:d.getD (s.2.getD k 0) 0*e (s.1.getD k 0)=d.getD (s.1.getD k 0) 0*e (s.2.getD k 0) :=
    Kl (p:=pK m s k) (q:=-(qK m s k)) (by omega) (he _ hfk).1 (by rw[Int.mul_neg,Int.neg_neg];exact h8.symm) (by rw[Int.mul_neg,Int.neg_neg];exact h7') (by omega)
   have:=(he _ hfk).1;exact Cg (by omega) h6 h9
def Kr{m:Int×Int×List Int}{s:List Nat×List Nat}{d0 d2 d:List Int}{g:Int}{i:Nat}(hs:aS m=true)(hi:i<m.1.toNat)(h:dc m.1.toNat (ae m) i s)(hn:m.1.toNat<=5)
  (hcl:∀x∈s.1,∀j,j<m.1.toNat->ae m x j≠0->j∈s.1)
  (h0:ju m.1.toNat (ae m) (λx=>d0.getD x 0)) (hz:d0.getD i 0<=0) (h2:T2 m s d0 s.1.length d2 g) (h3:T3 m s d2 g s.1.length d) :
  ju m.1.toNat (ae m) (λx=>d.getD x 0)/\0<d.getD i 0/\∀x,x<m.1.toNat->0<d0.getD x 0->0<d.getD x 0:=by
 have hg:=h2.g_range h.pos;have hle:=h.le;have hnew:∀k,k<s.1.length->d0.getD (s.1.getD k 0) 0<=0:=by
  intro k;induction k using Nat.strongRecOn with
  |_ k ih =>
   intro hk;by_cases hk0:k=0;·subst hk0;rw[h.hd];exact hz
   ·obtain⟨k',a1,a2,a3⟩:=h.src k (by omega) hk;have b1:=ih k' a1 (by omega);rw[<-a2]at b1;rcases Int.lt_or_le 0 (d0.getD (s.1.getD k 0) 0)with hc|hc;·have hlk:=h.lt _ (bF 0 hk);have hfk:=qp h (show 1<=k by omega) hk;obtain⟨L,c1,c2,c3,_⟩:=(h0 _ hlk).2.2 hc;have b4:0<d0.getD (s.2.getD k 0) 0:=(c2 _ (c3 _ hfk (λe=>a3 ((tk hs hlk hfk).1 e)))).2;have b2:d0.getD (s.2.getD k 0) 0<=0:=b1;omega
    ·exact hc
 have hin:∀x∈s.1,d.getD x 0*g=d2.getD x 0/\0<d.getD x 0/\d.getD x 0<=9227446944279201:=by
  intro x hx;obtain⟨k,hk,rfl⟩:=mE hx;have a1:=h3.val k hk;obtain⟨b1,b2,_⟩:=h2.val k hk;have b3:g∣d2.getD (s.1.getD k 0) 0:=by rw[h2.gcd];exact tf (List.mem_map.2 ⟨k,List.mem_range.2 hk,rfl⟩)
  have b4:d.getD (s.1.getD k 0) 0*g=d2.getD (s.1.getD k 0) 0:=by rw[a1];exact Int.tdiv_mul_cancel b3
  have b5:=qo (k:=4+k) (by omega);have b6:0<d.getD (s.1.getD k 0) 0:=by
   rcases Int.lt_or_le 0 (d.getD (s.1.getD k 0) 0)with hc|hc;·exact hc
   ·have:=Int.mul_nonpos_of_nonpos_of_nonneg hc (Int.le_of_lt hg.1);omega
  refine⟨b4,b6, ?_⟩;have:=Int.mul_le_mul_of_nonneg_left (show(1:Int)<=g by omega) (Int.le_of_lt b6);omega
 have hout:∀x,x<m.1.toNat->x∉s.1->d.getD x 0=d0.getD x 0:=by intro x hx hni;have hne:∀k',k'<s.1.length->x≠s.1.getD k' 0:=λk' hk' e=>hni (by rw[e];exact bF 0 hk');rw[h3.out x hx hne,h2.out x hx hne]
 have himem:i∈s.1:=by rw[<-h.hd];exact bF 0 h.pos
 refine⟨?_,(hin i himem).2.1, ?_⟩
 ·intro j hj;by_cases hm:j∈s.1
  ·obtain⟨a1,a2,a3⟩:=hin j hm;refine⟨Int.le_of_lt a2,a3,λ_=>⟨s.1,hm,λk hk=>⟨h.lt k hk,(hin k hk).2.1⟩,λk hk ha=>hcl j hm k hk ha, ?_, ?_⟩⟩
   ·have e1:s.1.map (λx=>g*d.getD x 0)=s.1.map (λx=>d2.getD x 0):=List.map_congr_left (λx hx=>by rw[Int.mul_comm];exact(hin x hx).1);have e2:=td g (s.1.map (λx=>d.getD x 0));rw[List.map_map]at e2;have e3:ce (s.1.map (λx=>d2.getD x 0))=g.natAbs*ce (s.1.map (λx=>d.getD x 0)):=by rw[<-e1];exact e2
    have e4:g=((ce (s.1.map (λx=>d2.getD x 0)):Nat):Int):=by rw[<-Ck s.1 (λx=>d2.getD x 0)];exact h2.gcd
    have e5:ce (s.1.map (λx=>d2.getD x 0))=g.natAbs:=by have:=congrArg Int.natAbs e4;simpa using this.symm
    rw[e5]at e3;exact Nat.eq_of_mul_eq_mul_left (show 0<g.natAbs by omega) (by rw[Nat.mul_one];exact e3.symm)
   ·intro e he k hk;have key:∀x∈s.1,d.getD i 0*e x=d.getD x 0*e i:=by
     intro x hx;obtain⟨kx,hkx,rfl⟩:=mE hx;have c1:=Kq hs h h2 he kx hkx;rw[<-(hin i himem).1,<-(hin _ hx).1]at c1;have c2:g*(d.getD i 0*e (s.1.getD kx 0))=g*(d.getD (s.1.getD kx 0) 0*e i):=by rw[<-Int.mul_assoc,<-Int.mul_assoc,Int.mul_comm g,Int.mul_comm g];exact c1
     exact Int.eq_of_mul_eq_mul_left (by omega) c2
    have:=(he i hi).1;exact Cg (b:=d.getD i 0) (f:=e i) (by omega) (key j hm).symm (key k hk)
  ·have e:=hout j hj hm;obtain⟨a1,a2,a3⟩:=h0 j hj;show 0<=d.getD j 0/\d.getD j 0<=_/\(0<d.getD j 0->_);rw[e];refine⟨a1,a2,λhpos=>?_⟩;obtain⟨L,b1,b2,b3,b4,b5⟩:=a3 hpos;have hL:∀k∈L,d.getD k 0=d0.getD k 0:=λk hk=>hout k (b2 k hk).1 (λhc=>by obtain⟨kx,hkx,e'⟩:=mE hc;have:=hnew kx hkx;rw[e']at this;have b6:0<d0.getD k 0:=(b2 k hk).2;omega);refine⟨L,b1,λk hk=>⟨(b2 k hk).1,by show 0<d.getD k 0;rw[hL k hk];exact(b2 k hk).2⟩,b3, ?_, ?_⟩;·rw[show L.map (λx=>d.getD x 0)=L.map (λx=>d0.getD x 0)from List.map_congr_left hL];exact b4
   ·intro e' he' k hk;show d.getD j 0*e' k=d.getD k 0*e' j;rw[hL k hk,e];exact b5 e' he' k hk
 ·intro x hx hp;by_cases hm:x∈s.1;·exact(hin x hm).2.1
  ·rw[hout x hx hm];exact hp
def Co{m:Int×Int×List Int}{d:List Int}(hl:d.length=m.1.toNat)(h:ju m.1.toNat (ae m) (λx=>d.getD x 0))(hp:∀x,x<m.1.toNat->0<d.getD x 0)
  (hc:∀i,i<m.1.toNat->∀j,j<m.1.toNat->d.getD i 0*ae m i j=-(d.getD j 0*ae m j i)):be m=d:=by
 refine xF hl (λi hi=>⟨hp i hi,hc i hi⟩) (λi hi=>?_);obtain⟨L,a1,a2,a3,a4,a5⟩:=(h i hi).2.2 (hp i hi);exact⟨L,λk hk=>(a2 k hk).1,a4,a5⟩
def Ks{m:Int×Int×List Int}{d:List Int}(hs:aS m=true)(h:ju m.1.toNat (ae m) (λx=>d.getD x 0))(hp:∀x,x<m.1.toNat->0<d.getD x 0){e:Nat->Int}(he:cz m.1.toNat (ae m) e)
  {i j:Nat} (hi:i<m.1.toNat) (hj:j<m.1.toNat):d.getD i 0*ae m i j=-(d.getD j 0*ae m j i):=by
 by_cases ha:ae m i j=0;·rw[ha,(tk hs hi hj).1 ha];simp
 ·obtain⟨L,a1,a2,a3,a4,a5⟩:=(h i hi).2.2 (hp i hi);exact Cf (he i hi).1 (he j hj).1 (a5 e he j (a3 j hj ha)) ((he i hi).2 j hj)
def Kt{m:Int×Int×List Int}{d:List Int}(hs:aS m=true)(h:ju m.1.toNat (ae m) (λx=>d.getD x 0))(hp:∀x,x<m.1.toNat->0<d.getD x 0)
  {i j:Nat} (hi:i<m.1.toNat) (hj:j<m.1.toNat) (hc:d.getD i 0*ae m i j≠-(d.getD j 0*ae m j i)):be m=[]:=by
 refine Ch (λ⟨e,he⟩=>hc ?_);by_cases ha:ae m i j=0;·rw[ha,(tk hs hi hj).1 ha];simp
 ·obtain⟨L,a1,a2,a3,a4,a5⟩:=(h i hi).2.2 (hp i hi);exact Cf (he i hi).1 (he j hj).1 (a5 e he j (a3 j hj ha)) ((he i hi).2 j hj)
def cw(f:Bool)(a b c:Int):Int:=if f=true then -a else if 0<b/\0<c then a+b*c else if b<0/\c<0 then a-b*c else a
def jv(m:Int×Int×List Int)(k p:Nat):Int:=cw (decide (p / m.1.toNat=k)||decide (p%m.1.toNat=k)) (m.2.2.getD p 0) (ae m (p / m.1.toNat) k) (ae m k (p%m.1.toNat))
def aI(m:Int×Int×List Int)(k:Nat):Int×Int×List Int:=(m.1,m.2.1,(List.range m.2.2.length).map (jv m k))
def Cp{i j n:Nat}(h:j<n):(i*n+j) / n=i:=by rw[Nat.add_comm,Nat.add_mul_div_right _ _ (by omega),Nat.div_eq_of_lt h,Nat.zero_add]
def Cq{i j n:Nat}(h:j<n):(i*n+j)%n=j:=by rw[Nat.add_comm,Nat.add_mul_mod_self_right,Nat.mod_eq_of_lt h]
def xI{m:Int×Int×List Int}{k i j:Nat}(hj:j<m.1.toNat):jv m k (i*m.1.toNat+j)=cw (decide (i=k)||decide (j=k)) (ae m i j) (ae m i k) (ae m k j):=by unfold jv;rw[Cp hj,Cq hj];rfl
def fW{m:Int×Int×List Int}(hd:az m=true){k i j:Nat}(hi:i<m.2.1.toNat)(hj:j<m.1.toNat):ae (aI m k) i j=cw (decide (i=k)||decide (j=k)) (ae m i j) (ae m i k) (ae m k j):=by obtain⟨n,r,hn,hr,hn1,hn5,hnr,hr8,hl⟩:=aN hd;rw[<-xI hj];show((List.range m.2.2.length).map (jv m k)).getD (i*m.1.toNat+j) 0=_;refine iI ?_ 0;have:=fU (n:=n) (r:=r) (i:=i) (j:=j) (by omega) (by omega);rw[hl,hn];exact this
def gZ{m:Int×Int×List Int}(hd:az m=true)(k:Nat):az (aI m k)=true:=by simp only[az,aI,Bool.and_eq_true,decide_eq_true_eq,List.length_map,List.length_range]at hd ⊢;exact hd
def Cr{f:Bool}{a b c:Int}(ha:-99<=a/\a<=99)(hb:-99<=b/\b<=99)(hc:-99<=c/\c<=99):-9801<=b*c/\b*c<=9801:=by
 have h1:(b*c).natAbs<=99*99:=by rw[Int.natAbs_mul];exact Nat.mul_le_mul (by omega) (by omega)
 omega
def kY{m:Int×Int×List Int}(hd:az m=true){k:Nat}(hk:k<m.1.toNat){d:Nat->Int}(h:cz m.1.toNat (ae m) d):cz (aI m k).1.toNat (ae (aI m k)) d:=by
 obtain⟨n,r,hn,hr,hn1,hn5,hnr,hr8,hl⟩:=aN hd;show cz m.1.toNat _ d;intro i hi;refine⟨(h i hi).1,λj hj=>?_⟩;rw[fW hd (by omega) hj,fW hd (by omega) hi];have e1:=(h i hi).2 j hj;have e2:=(h i hi).2 k hk;have e3:=(h k hk).2 j hj;have p1:=(h i hi).1;have p2:=(h j hj).1;have p3:=(h k hk).1;have s1:=n7 h hi hk;have s2:=n7 h hk hj;simp only[fk,Bool.and_eq_true,beq_iff_eq,decide_eq_decide]at s1 s2;generalize ae m i j=a at *
 generalize ae m j i=a' at *
 generalize ae m i k=b at *
 generalize ae m k j=c at *
 generalize ae m j k=b' at *
 generalize ae m k i=c' at *
 rw[Bool.or_comm (decide (j=k))];cases(decide (i=k)||decide (j=k))
 ·unfold cw;simp only[Bool.false_eq_true,if_false];by_cases h1:0<b/\0<c;·rw[if_pos h1,if_neg (by omega),if_pos (by omega)];grind
  ·rw[if_neg h1];by_cases h2:b<0/\c<0;·rw[if_pos h2,if_pos (by omega)];grind
   ·rw[if_neg h2,if_neg (by omega),if_neg (by omega)];exact e1
 ·unfold cw;simp only[if_true];grind
def Cs{α:Type}{n p:Nat}{F G:Nat->α}(h:F p=G p):eW n (p+1) F G=eW n p F G:=by
 unfold eW;apply List.map_congr_left;intro i hi;by_cases h1:i<p;·rw[if_pos h1,if_pos (by omega)]
 ·rw[if_neg h1];by_cases h2:i=p;·subst h2;rw[if_pos (by omega)];exact h
  ·rw[if_neg (by omega)]
end Go.Fw
set_option linter.unusedSectionVars false
namespace Go.Fw
def xJ(l:List Int)(n:Int)(i:Nat):Bool:=bX (l.getD i 0) 0 (n-1)&&!((l.take i).any λx=>decide (x=l.getD i 0))
def fo(l:List Int)(n:Int):Bool:=decide ((l.length:Int)=n)&&(List.range l.length).all (xJ l n)
def j0{l:List Int}{n:Int}(h:fo l n=true):∃L:List Nat,l=aB L/\L.Nodup/\(∀x∈L,x<n.toNat)/\L.length=n.toNat:=by
 simp only[fo,Bool.and_eq_true,decide_eq_true_eq,List.all_eq_true,List.mem_range,xJ,cy]at h;obtain⟨h1,h2⟩:=h;have e:l=aB (l.map Int.toNat):=by
  apply List.ext_getElem?;intro i;by_cases hi:i<l.length;·have:=(h2 i hi).1;rw[List.getD_eq_getElem?_getD,List.getElem?_eq_getElem hi,Option.getD_some]at this;simp only[aB,List.map_map,List.getElem?_map,List.getElem?_eq_getElem hi,Option.map_some,Function.comp];congr 1;omega
  ·rw[List.getElem?_eq_none (by omega),List.getElem?_eq_none (by rw[cv];simp;omega)]
 refine⟨l.map Int.toNat,e, ?_, ?_,by simp;omega⟩
 ·refine List.pairwise_iff_getElem.2 (λi j hi hj hij=>?_);have hi':i<l.length:=by simpa using hi
  have hj':j<l.length:=by simpa using hj
  have h3:=h2 j hj';have h4:=h2 i hi';rw[List.getD_eq_getElem?_getD,List.getElem?_eq_getElem hj',Option.getD_some]at h3;rw[List.getD_eq_getElem?_getD,List.getElem?_eq_getElem hi',Option.getD_some]at h4;simp only[List.getElem_map];intro hc;have hne:l[i]=l[j]:=by omega
  have h5:=h3.2;rw[Bool.not_eq_true',List.any_eq_false]at h5;have:=h5 l[i] (by rw[List.mem_iff_getElem];exact⟨i,by rw[List.length_take];omega,by rw[List.getElem_take]⟩);simp[hne]at this
 ·intro x hx;obtain⟨y,hy,rfl⟩:=List.mem_map.1 hx;obtain⟨i,hi,rfl⟩:=List.getElem_of_mem hy;have:=(h2 i hi).1;rw[List.getD_eq_getElem?_getD,List.getElem?_eq_getElem hi,Option.getD_some]at this;omega
def cx:List Nat->Nat->Nat
 |[],_=>0
 |x::xs,b=>if x=b then 0 else cx xs b+1
def dP:∀{L:List Nat}{b:Nat},b∈L->cx L b<L.length/\L.getD (cx L b) 0=b
 |[],b,h=>by cases h
 |x::xs,b,h=>by
  rw[cx];by_cases e:x=b;·rw[if_pos e];exact⟨by simp,by simpa using e⟩
  ·rw[if_neg e];rcases List.mem_cons.1 h with h|h;·exact absurd h.symm e
   ·obtain⟨h1,h2⟩:=dP h;exact⟨by simp;omega,by simpa[List.getD_cons_succ]using h2⟩
def eJ{L:List Nat}{n:Nat}(h1:L.Nodup)(h2:∀x∈L,x<n)(h3:L.length=n){b:Nat}(hb:b<n):b∈L:=by
 refine Classical.byContradiction λhc=>?_;have:=th n (b::L) (List.nodup_cons.2 ⟨hc,h1⟩) (λx hx=>by
  rcases List.mem_cons.1 hx with e|e;·omega
  ·exact h2 x e)
 simp at this;omega
def jw{L:List Nat}(h:L.Nodup){j:Nat}(hj:j<L.length):cx L (L.getD j 0)=j:=by obtain⟨h1,h2⟩:=dP (bF (l:=L) 0 hj);exact jt h h1 hj h2
def dw(n:Nat)(L:List Nat)(i:Nat):Nat:=if i<n then L.getD i 0 else i
def dQ(n:Nat)(L:List Nat)(p:Nat):Nat:=if p<n then cx L p else p
def fI(n:Nat)(L:List Nat)(p:Nat):Nat:=dQ n L (p / n)*n+cx L (p%n)
def b9(m:Int×Int×List Int)(names:List Int):Int×Int×List Int:=(m.1,m.2.1,(List.range m.2.2.length).map λp=>m.2.2.getD (fI m.1.toNat (names.map Int.toNat) p) 0)
def g9(L:List Nat):(aB L).map Int.toNat=L:=by
 simp only[aB,List.map_map];conv=>rhs;rw[<-List.map_id L]
 apply List.map_congr_left;intro x _;simp
def iL(total t:Nat)(back:Nat->Nat)(F G:Nat->Int):List Int:=(List.range total).map λp=>if back p<t then F p else G p
def tm{total t:Nat}{back:Nat->Nat}{F G:Nat->Int}:(iL total t back F G).length=total:=by simp[iL]
def Ku{total t p:Nat}{back:Nat->Nat}{F G:Nat->Int}(hp:p<total)(hb:back p=t)(hinj:∀q,q<total->back q=t->q=p):(iL total t back F G).set p (F p)=iL total (t+1) back F G:=by
 apply List.ext_getElem?;intro q;by_cases hq:q<total
 ·by_cases e:p=q;·subst e;rw[List.getElem?_set_self (by rw[tm];exact hp)];simp only[iL,List.getElem?_map,List.getElem?_range hp,Option.map_some];rw[if_pos (by omega)]
  ·rw[List.getElem?_set_ne e];simp only[iL,List.getElem?_map,List.getElem?_range hq,Option.map_some];have hne:back q≠t:=λh=>e (hinj q hq h).symm;by_cases h1:back q<t;·rw[if_pos h1,if_pos (by omega)]
   ·rw[if_neg h1,if_neg (by omega)]
 ·rw[List.getElem?_eq_none (by rw[List.length_set,tm];omega),List.getElem?_eq_none (by rw[tm];omega)]
def Kv{total:Nat}{back:Nat->Nat}{F G:Nat->Int}:iL total 0 back F G=(List.range total).map G:=by simp[iL]
def Kw{total:Nat}{back:Nat->Nat}{F G:Nat->Int}(h:∀p,p<total->back p<total):iL total total back F G=(List.range total).map F:=by unfold iL;apply List.map_congr_left;intro i hi;rw[if_pos (h i (List.mem_range.1 hi))]
section
variable {n r : Nat} {L : List Nat} (h1 : L.Nodup) (h2 : ∀ x ∈ L, x < n) (h3 : L.length = n) (hnr : n ≤ r)
include h1 h2 h3
theorem Ct{i:Nat}:dQ n L (dw n L i)=i:=by
 unfold dw dQ;by_cases h:i<n;·have:=h2 _ (bF (l:=L) (j:=i) 0 (by omega));rw[if_pos h,if_pos this,jw h1 (by omega)]
 ·rw[if_neg h,if_neg h]
theorem Cu{p:Nat}:dw n L (dQ n L p)=p:=by
 unfold dw dQ;by_cases h:p<n;·obtain⟨a,b⟩:=dP (eJ h1 h2 h3 h);rw[if_pos h,if_pos (by omega),b]
 ·rw[if_neg h,if_neg h]
include hnr
theorem Cv{i:Nat}(h:i<r):dw n L i<r:=by
 unfold dw;split;·rename_i h';have:=h2 _ (bF (l:=L) (j:=i) 0 (by omega));omega
 ·exact h
theorem xK{p:Nat}(h:p<r):dQ n L p<r:=by
 unfold dQ;split;·rename_i h';have:=(dP (eJ h1 h2 h3 h')).1;omega
 ·exact h
theorem Cw{i j:Nat}(hj:j<n):fI n L (dw n L i*n+L.getD j 0)=i*n+j:=by have:=h2 _ (bF (l:=L) (j:=j) 0 (by omega));unfold fI;rw[Nat.add_comm (dw n L i*n),Nat.add_mul_div_right _ _ (by omega),Nat.div_eq_of_lt this,Nat.zero_add,Nat.add_mul_mod_self_right,Nat.mod_eq_of_lt this,Ct h1 h2 h3,jw h1 (by omega)]
theorem Kx{i j q:Nat}(hj:j<n)(h:fI n L q=i*n+j):q=dw n L i*n+L.getD j 0:=by
 have hn:0<n:=by omega
 obtain⟨a,b⟩:=dP (eJ h1 h2 h3 (Nat.mod_lt q hn));unfold fI at h;have e1:dQ n L (q / n)=i:=by
  have:(dQ n L (q / n)*n+cx L (q%n)) / n=(i*n+j) / n:=by rw[h]
  rw[Nat.add_comm,Nat.add_mul_div_right _ _ hn,Nat.div_eq_of_lt (by omega),Nat.zero_add,Nat.add_comm (i*n),Nat.add_mul_div_right _ _ hn,Nat.div_eq_of_lt hj,Nat.zero_add]at this;exact this
 have e2:cx L (q%n)=j:=by rw[e1]at h;omega
 have e3:dw n L i=q / n:=by rw[<-e1,Cu h1 h2 h3]
 rw[e3,<-e2,b,Nat.mul_comm];exact(Nat.div_add_mod q n).symm
theorem Ky{q:Nat}(hn:0<n)(h:q<r*n):fI n L q<r*n:=by obtain⟨a,b⟩:=dP (eJ h1 h2 h3 (Nat.mod_lt q hn));have h4:q / n<r:=(Nat.div_lt_iff_lt_mul hn).2 h;exact fU (xK h1 h2 h3 hnr h4) (by omega)
end
def fp(A:Nat->Nat->Int)(L:List Nat)(num den:List Int)(x k:Nat):Prop:=(A x k=0/\A k x=0)\/(k∈L/\num.getD x 0*A x k*den.getD k 0=-(num.getD k 0*A k x*den.getD x 0))
structure eK(n:Nat)(A:Nat->Nat->Int)(s:Nat)(num0:List Int)(L:List Nat)(num den:List Int):Prop where
 nl:num.length=n
 dl:den.length=n
 nd:L.Nodup
 lt:∀x∈L,x<n
 hd:L.getD 0 0=s
 pos:0<L.length
 out:∀x,x<n->x∉L->num.getD x 0=num0.getD x 0
 new:∀x∈L,num0.getD x 0=0
 frac:∃Q:Int,0<Q/\Q<=99 ^ (L.length-1)/\∀x∈L,0<num.getD x 0/\num.getD x 0<=99 ^ (L.length-1)/\0<den.getD x 0/\den.getD x 0∣Q/\Int.gcd (num.getD x 0) (den.getD x 0)=1
 good:∀e,cz n A e->∀x∈L,num.getD x 0*e s=den.getD x 0*e x
def eK.le{n:Nat}{A:Nat->Nat->Int}{s:Nat}{num0 num den:List Int}{L:List Nat}(h:eK n A s num0 L num den):L.length<=n:=th n L h.nd h.lt
def tn(n:Nat)(A:Nat->Nat->Int)(num0:List Int):Prop:=∀y,y<n->num0.getD y 0≠0->∀k,k<n->(A y k≠0\/A k y≠0)->num0.getD k 0≠0
def Kz{a b c d:Int}(ha:0<a)(hb:0<b)(hc:0<c)(hd:0<d)(h1:Int.gcd a b=1)(h2:Int.gcd c d=1)(h:a*d=c*b):a=c/\b=d:=by
 obtain⟨a,rfl⟩:=Int.eq_ofNat_of_zero_le (Int.le_of_lt ha);obtain⟨b,rfl⟩:=Int.eq_ofNat_of_zero_le (Int.le_of_lt hb);obtain⟨c,rfl⟩:=Int.eq_ofNat_of_zero_le (Int.le_of_lt hc);obtain⟨d,rfl⟩:=Int.eq_ofNat_of_zero_le (Int.le_of_lt hd);have h3:a*d=c*b:=by exact_mod_cast h
 have e1:a∣c:=Nat.Coprime.dvd_of_dvd_mul_right (k:=a) (n:=b) h1 ⟨d,h3.symm⟩;have e2:c∣a:=Nat.Coprime.dvd_of_dvd_mul_right (k:=c) (n:=d) h2 ⟨b,h3⟩;have e3:=Nat.dvd_antisymm e1 e2;subst e3;exact⟨rfl,by rw[Nat.eq_of_mul_eq_mul_left (by omega) h3]⟩
section
variable {n : Nat} {A : Nat → Nat → Int} {s p j : Nat} {num0 num den : List Int} {L : List Nat}
structure tp(A:Nat->Nat->Int)(x j:Nat)(num den:List Int)(a0 b0 g a b:Int):Prop where
 ea0:a0=num.getD x 0*bG (A x j)
 eb0:b0=den.getD x 0*bG (A j x)
 eg:g=(Int.gcd a0 b0:Int)
 gp:0<g
 a0p:0<a0
 b0p:0<b0
 ea:a*g=a0
 eb:b*g=b0
 ap:0<a
 bp:0<b
 co:Int.gcd a b=1
def stepN(x j:Nat)(hx:0<num.getD x 0)(hd:0<den.getD x 0)(h1:A x j≠0)(h2:A j x≠0) :
  tp A x j num den (num.getD x 0*bG (A x j)) (den.getD x 0*bG (A j x)) (Int.gcd (num.getD x 0*bG (A x j)) (den.getD x 0*bG (A j x)))
   (Int.tdiv (num.getD x 0*bG (A x j)) (Int.gcd (num.getD x 0*bG (A x j)) (den.getD x 0*bG (A j x)))) (Int.tdiv (den.getD x 0*bG (A j x)) (Int.gcd (num.getD x 0*bG (A x j)) (den.getD x 0*bG (A j x)))):=by
 have a0p:0<num.getD x 0*bG (A x j):=Int.mul_pos hx (n8 h1);have b0p:0<den.getD x 0*bG (A j x):=Int.mul_pos hd (n8 h2);generalize ha0:num.getD x 0*bG (A x j)=a0 at a0p ⊢;generalize hb0:den.getD x 0*bG (A j x)=b0 at b0p ⊢;have gp:0<(Int.gcd a0 b0:Int):=by have:=Int.gcd_pos_of_ne_zero_left b0 (show a0≠0 by omega);omega
 have ea:Int.tdiv a0 (Int.gcd a0 b0)*(Int.gcd a0 b0:Int)=a0:=Int.tdiv_mul_cancel (Int.gcd_dvd_left ..);have eb:Int.tdiv b0 (Int.gcd a0 b0)*(Int.gcd a0 b0:Int)=b0:=Int.tdiv_mul_cancel (Int.gcd_dvd_right ..);have pos:∀c d:Int,0<d->0<c*d->0<c:=λc d hd h=>by
  rcases Int.lt_or_le 0 c with h'|h';·exact h'
  ·have:=Int.mul_nonpos_of_nonpos_of_nonneg h' (Int.le_of_lt hd);omega
 refine⟨ha0.symm,hb0.symm,rfl,gp,a0p,b0p,ea,eb,pos _ _ gp (by rw[ea];exact a0p),pos _ _ gp (by rw[eb];exact b0p), ?_⟩;have h3:Int.gcd (Int.tdiv a0 (Int.gcd a0 b0)*(Int.gcd a0 b0:Int)) (Int.tdiv b0 (Int.gcd a0 b0)*(Int.gcd a0 b0:Int))=Int.gcd a0 b0:=by rw[ea,eb]
 rw[Int.gcd_mul_right,Int.natAbs_natCast]at h3;have gp':0<Int.gcd a0 b0:=by omega
 exact Nat.eq_of_mul_eq_mul_right gp' (by rw[h3,Nat.one_mul])
def xL(A:Nat->Nat->Int)(x j:Nat):Prop:=∃u:Int,(u=1\/u=-1)/\A x j=u*bG (A x j)/\A j x=-(u*bG (A j x))
def KA{x j:Nat}(h1:A x j≠0)(h2:A j x≠0)(h:(0<A x j)↔(0 < -A j x)):xL A x j:=by
 unfold xL bG;by_cases hp:0<A x j;·have:=h.1 hp;exact⟨1,Or.inl rfl,by omega,by omega⟩
 ·have:¬ 0 < -A j x:=λhc=>hp (h.2 hc);exact⟨-1,Or.inr rfl,by omega,by omega⟩
def Cx{x:Nat}{a0 b0 g a b:Int}(st:tp A x j num den a0 b0 g a b)(hx:x<n)(hj:j<n){e:Nat->Int}(he:cz n A e)(hg:num.getD x 0*e s=den.getD x 0*e x):a*e s=b*e j:=by
 have h1:=Cm (he x hx).1 (he j hj).1 ((he x hx).2 j hj);have h2:=st.ea0;have h3:=st.eb0;have h4:=st.ea;have h5:=st.eb;have h6:g*(a*e s)=g*(b*e j):=by grind
 exact Int.eq_of_mul_eq_mul_left (by have:=st.gp;omega) h6
def Cy{x:Nat}{a0 b0 g a b:Int}(st:tp A x j num den a0 b0 g a b)(sk:xL A x j):num.getD x 0*A x j*b=-(a*A j x*den.getD x 0):=by obtain⟨u,hu,h1,h2⟩:=sk;have h3:=st.ea0;have h4:=st.eb0;have h5:=st.ea;have h6:=st.eb;rw[h1,h2];grind
def eK.grow{a0 b0 g a b:Int}(h:eK n A s num0 L num den)(hp:p<L.length)(hj:j<n)(hz:num.getD j 0=0)(st:tp A (L.getD p 0) j num den a0 b0 g a b)(hb:∀x y,bG (A x y)<=99) :
  eK n A s num0 (L++[j]) (num.set j a) (den.set j b)/\j∉L:=by
 obtain⟨Q,q1,q2,q3⟩:=h.frac;have hxm:L.getD p 0∈L:=bF 0 hp;have hnj:j∉L:=λhc=>by have:=(q3 j hc).1;omega
 have hxj:∀x∈L,j≠x:=λx hx e=>hnj (e▸hx);have hnl:j<num.length:=by rw[h.nl];exact hj
 have hdl:j<den.length:=by rw[h.dl];exact hj
 have e1:∀x∈L,(num.set j a).getD x 0=num.getD x 0:=λx hx=>by rw[cA hnl,if_neg (hxj x hx)]
 have e2:∀x∈L,(den.set j b).getD x 0=den.getD x 0:=λx hx=>by rw[cA hdl,if_neg (hxj x hx)]
 have e3:(num.set j a).getD j 0=a:=by rw[cA hnl,if_pos rfl]
 have e4:(den.set j b).getD j 0=b:=by rw[cA hdl,if_pos rfl]
 have hlen:(L++[j]).length-1=L.length-1+1:=by have:=h.pos;simp;omega
 have hpp:(0:Int)<=99 ^ (L.length-1):=Int.pow_nonneg (by omega);refine⟨⟨by rw[List.length_set,h.nl],by rw[List.length_set,h.dl], ?_, ?_,(iK h.pos).trans h.hd,by simp, ?_, ?_, ?_, ?_⟩,hnj⟩;·exact List.nodup_append.2 ⟨h.nd,by simp,λa ha' b hb e=>by rw[List.mem_singleton]at hb;subst hb;subst e;exact hnj ha'⟩
 ·intro x hx;rcases List.mem_append.1 hx with hx|hx;·exact h.lt x hx
  ·rw[List.mem_singleton]at hx;omega
 ·intro x hx hni;rw[List.mem_append,List.mem_singleton]at hni;rw[cA hnl,if_neg (λe=>hni (Or.inr e.symm))];exact h.out x hx (λhc=>hni (Or.inl hc))
 ·intro x hx;rcases List.mem_append.1 hx with hx|hx;·exact h.new x hx
  ·rw[List.mem_singleton]at hx;subst hx;rw[<-h.out x hj hnj];exact hz
 ·obtain⟨c1,c2,c3,c4,c5⟩:=q3 _ hxm;have ga:a<=a0:=by have:=Int.mul_le_mul_of_nonneg_left (show(1:Int)<=g by have:=st.gp;omega) (Int.le_of_lt st.ap);have:=st.ea;omega
  have hq1:0<bG (A j (L.getD p 0)):=by
   have h1:=st.b0p;rw[st.eb0]at h1;rcases Int.lt_or_le 0 (bG (A j (L.getD p 0)))with h'|h';·exact h'
   ·have:=Int.mul_nonpos_of_nonneg_of_nonpos (Int.le_of_lt c3) h';omega
  have hp1:0<=bG (A (L.getD p 0) j):=by unfold bG;omega
  refine⟨Q*bG (A j (L.getD p 0)),Int.mul_pos q1 hq1, ?_, ?_⟩;·rw[hlen,Int.pow_succ];exact Int.mul_le_mul q2 (hb _ _) (by omega) hpp
  ·intro x hx;rcases List.mem_append.1 hx with hx|hx;·rw[e1 x hx,e2 x hx];obtain⟨d1,d2,d3,d4,d5⟩:=q3 x hx;refine⟨d1, ?_,d3,Int.dvd_trans d4 ⟨_,rfl⟩,d5⟩;rw[hlen,Int.pow_succ];have:=Int.mul_le_mul_of_nonneg_left (show(1:Int)<=99 by omega) hpp;omega
   ·rw[List.mem_singleton]at hx;subst hx;rw[e3,e4];refine⟨st.ap, ?_,st.bp, ?_,st.co⟩
    ·rw[hlen,Int.pow_succ];have:a0<=99 ^ (L.length-1)*99:=by rw[st.ea0];exact Int.mul_le_mul c2 (hb _ _) hp1 hpp
     omega
    ·have h1:b∣b0:=⟨g,st.eb.symm⟩;have h2:b0∣Q*bG (A x (L.getD p 0)):=by rw[st.eb0];exact Int.mul_dvd_mul c4 (Int.dvd_refl _)
     exact Int.dvd_trans h1 h2
 ·intro e he x hx;rcases List.mem_append.1 hx with hx|hx;·rw[e1 x hx,e2 x hx];exact h.good e he x hx
  ·rw[List.mem_singleton]at hx;subst hx;rw[e3,e4];exact Cx st (h.lt _ hxm) hj he (h.good e he _ hxm)
def fp.grow{x k:Nat}{a b:Int}(hL:∀x∈L,j≠x)(hnl:j<num.length)(hdl:j<den.length)(hx:x∈L)(h:fp A L num den x k):fp A (L++[j]) (num.set j a) (den.set j b) x k:=by
 rcases h with h|⟨h1,h2⟩;·exact Or.inl h
 ·refine Or.inr ⟨List.mem_append_left _ h1, ?_⟩;rw[cA hnl,if_neg (hL x hx),cA hdl,if_neg (hL k h1),cA hnl,if_neg (hL k h1),cA hdl,if_neg (hL x hx)];exact h2
end
structure n9(n:Nat)(A:Nat->Nat->Int)(num out:List Int):Prop where
 nl:num.length=n
 ol:out.length=n
 closed:tn n A num
 done:∀j,j<n->num.getD j 0≠0->0<out.getD j 0/\(∀k,k<n->out.getD j 0*A j k=-(out.getD k 0*A k j)) /\
  ∃L:List Nat,(∀k∈L,k<n/\num.getD k 0≠0)/\ce (L.map λk=>out.getD k 0)=1/\∀e,cz n A e->∀k∈L,out.getD j 0*e k=out.getD k 0*e j
section
variable {n : Nat} {A : Nat → Nat → Int} {s : Nat} {num0 num den out0 out2 out3 : List Int} {L : List Nat} {com g : Int}
def n9.piece(h:n9 n A num0 out0)(f:eK n A s num0 L num den)(he:∀x∈L,∀k,k<n->fp A L num den x k)(hc:0<com)(hg:0<g)
  (h2:∀x∈L,out2.getD x 0*den.getD x 0=com*num.getD x 0) (hgl:g=((ce (L.map λx=>out2.getD x 0):Nat):Int))
  (h3:∀x∈L,out3.getD x 0*g=out2.getD x 0) (ho:∀x,x<n->x∉L->out3.getD x 0=out0.getD x 0) (hl:out3.length=n) :
  n9 n A num out3/\num.getD s 0≠0/\∀x,x<n->num0.getD x 0≠0->num.getD x 0≠0:=by
 obtain⟨Q,q1,q2,q3⟩:=f.frac;have hpos:∀x∈L,0<num.getD x 0/\0<den.getD x 0:=λx hx=>⟨(q3 x hx).1,(q3 x hx).2.2.1⟩;have hk:∀x∈L,out3.getD x 0*g*den.getD x 0=com*num.getD x 0:=λx hx=>by rw[h3 x hx];exact h2 x hx
 have hop:∀x∈L,0<out3.getD x 0:=λx hx=>by
  have h4:=Int.mul_pos hc (hpos x hx).1;rw[<-hk x hx]at h4;rcases Int.lt_or_le 0 (out3.getD x 0)with h'|h';·exact h'
  ·have h5:=Int.mul_nonpos_of_nonpos_of_nonneg h' (Int.le_of_lt hg);have h6:=Int.mul_nonpos_of_nonpos_of_nonneg h5 (Int.le_of_lt (hpos x hx).2);omega
 have hns:num.getD s 0≠0:=by have:=(hpos s (by rw[<-f.hd];exact bF 0 f.pos)).1;omega
 have old:∀x,x<n->num0.getD x 0≠0->x∉L:=λx hx h0 hc=>h0 (f.new x hc);refine⟨⟨f.nl,hl, ?_, ?_⟩,hns,λx hx h0=>by rw[f.out x hx (old x hx h0)];exact h0⟩
 ·intro y hy h1 k hk' ha;by_cases hm:y∈L
  ·rcases he y hm k hk' with hz|hz;·omega
   ·have:=(hpos k hz.1).1;omega
  ·rw[f.out y hy hm]at h1;have h4:=h.closed y hy h1 k hk' ha;rw[f.out k hk' (old k hk' h4)];exact h4
 ·intro j hj h1;by_cases hm:j∈L
  ·refine⟨hop j hm, ?_,L,λk hk'=>⟨f.lt k hk',by have:=(hpos k hk').1;omega⟩, ?_, ?_⟩
   ·intro k hk';rcases he j hm k hk' with⟨z1,z2⟩|⟨z1,z2⟩;·rw[z1,z2];simp
    ·have e1:=hk j hm;have e2:=hk k z1;have e3:(g*den.getD j 0*den.getD k 0)*(out3.getD j 0*A j k)=(g*den.getD j 0*den.getD k 0)*(-(out3.getD k 0*A k j)):=by grind
     have e4:=Int.mul_pos (Int.mul_pos hg (hpos j hm).2) (hpos k z1).2;exact Int.eq_of_mul_eq_mul_left (by omega) e3
   ·have e1:L.map (λx=>g*out3.getD x 0)=L.map (λx=>out2.getD x 0):=List.map_congr_left (λx hx=>by rw[Int.mul_comm];exact h3 x hx);have e2:=td g (L.map (λx=>out3.getD x 0));rw[List.map_map]at e2;have e3:ce (L.map (λx=>out2.getD x 0))=g.natAbs*ce (L.map (λx=>out3.getD x 0)):=by rw[<-e1];exact e2
    have e5:ce (L.map (λx=>out2.getD x 0))=g.natAbs:=by have:=congrArg Int.natAbs hgl;simpa using this.symm
    rw[e5]at e3;exact Nat.eq_of_mul_eq_mul_left (show 0<g.natAbs by omega) (by rw[Nat.mul_one];exact e3.symm)
   ·intro e hge k hkL;have key:∀x∈L,out3.getD x 0*g*e s=com*e x:=by
     intro x hx;have e1:=hk x hx;have e2:=f.good e hge x hx;have e3:den.getD x 0*(out3.getD x 0*g*e s)=den.getD x 0*(com*e x):=by grind
     exact Int.eq_of_mul_eq_mul_left (by have:=(hpos x hx).2;omega) e3
    have e1:=key j hm;have e2:=key k hkL;have hs:0<e s:=(hge s (by rw[<-f.hd];exact f.lt _ (bF 0 f.pos))).1;have e3:(g*e s)*(out3.getD j 0*e k)=(g*e s)*(out3.getD k 0*e j):=by grind
    have e4:=Int.mul_pos hg hs;exact Int.eq_of_mul_eq_mul_left (by omega) e3
  ·rw[f.out j hj hm]at h1;obtain⟨a1,a2,L',a3,a4,a5⟩:=h.done j hj h1;rw[ho j hj hm];have hL':∀k∈L',k∉L:=λk hk'=>old k (a3 k hk').1 (a3 k hk').2;refine⟨a1, ?_,L',λk hk'=>⟨(a3 k hk').1,by rw[f.out k (a3 k hk').1 (hL' k hk')];exact(a3 k hk').2⟩, ?_, ?_⟩
   ·intro k hk';by_cases hkL:k∈L
    ·by_cases z1:A j k=0
     ·by_cases z2:A k j=0;·rw[z1,z2];simp
      ·exact absurd (f.new k hkL) (h.closed j hj h1 k hk' (Or.inr z2))
     ·exact absurd (f.new k hkL) (h.closed j hj h1 k hk' (Or.inl z1))
    ·rw[ho k hk' hkL];exact a2 k hk'
   ·rw[show L'.map (λk=>out3.getD k 0)=L'.map (λk=>out0.getD k 0)from List.map_congr_left (λk hk'=>ho k (a3 k hk').1 (hL' k hk'))];exact a4
   ·intro e hge k hk';rw[ho k (a3 k hk').1 (hL' k hk')];exact a5 e hge k hk'
end
def n9.fac{m:Int×Int×List Int}{num out:List Int}(h:n9 m.1.toNat (ae m) num out)(hp:∀x,x<m.1.toNat->num.getD x 0≠0):be m=out:=by refine xF h.ol (λi hi=>⟨(h.done i hi (hp i hi)).1,(h.done i hi (hp i hi)).2.1⟩) (λi hi=>?_);obtain⟨L,a1,a2,a3⟩:=(h.done i hi (hp i hi)).2.2;exact⟨L,λk hk=>(a1 k hk).1,a2,a3⟩
def KB{c d Q:Int}(hc:0<c)(hd:0<d)(h1:c∣Q)(h2:d∣Q)(hQ:0<Q) :
  0<(Int.gcd c d:Int)/\0<Int.tdiv c (Int.gcd c d)/\Int.tdiv c (Int.gcd c d)<=c/\0<Int.tdiv c (Int.gcd c d)*d/\Int.tdiv c (Int.gcd c d)*d∣Q/\c∣Int.tdiv c (Int.gcd c d)*d/\d∣Int.tdiv c (Int.gcd c d)*d:=by
 obtain⟨c,rfl⟩:=Int.eq_ofNat_of_zero_le (Int.le_of_lt hc);obtain⟨d,rfl⟩:=Int.eq_ofNat_of_zero_le (Int.le_of_lt hd);obtain⟨Q,rfl⟩:=Int.eq_ofNat_of_zero_le (Int.le_of_lt hQ);have e:Int.tdiv (c:Int) (Int.gcd (c:Int) (d:Int))=((c / Nat.gcd c d:Nat):Int):=rfl;rw[e];have hg:0<Nat.gcd c d:=Nat.gcd_pos_of_pos_left d (by omega);have h3:c / Nat.gcd c d*d=Nat.lcm c d:=by rw[Nat.lcm,Nat.mul_comm,Nat.mul_comm c d,Nat.mul_div_assoc _ (Nat.gcd_dvd_left c d)]
 have h4:0<c / Nat.gcd c d:=Nat.div_pos (Nat.gcd_le_left d (by omega)) hg;have h5:c / Nat.gcd c d<=c:=Nat.div_le_self _ _;rw[<-Int.natCast_mul,h3];have h6:0<Nat.lcm c d:=Nat.lcm_pos (by omega) (by omega);refine⟨by show(0:Int)<((Nat.gcd c d:Nat):Int);omega,by omega,by omega,by omega, ?_, ?_, ?_⟩;·exact Int.natCast_dvd_natCast.2 (Nat.lcm_dvd (Int.natCast_dvd_natCast.1 h1) (Int.natCast_dvd_natCast.1 h2))
 ·exact Int.natCast_dvd_natCast.2 (Nat.dvd_lcm_left c d)
 ·exact Int.natCast_dvd_natCast.2 (Nat.dvd_lcm_right c d)
def fq(n i:Nat):List Int:=(List.range n).map λj=>if i=j then 1 else 0
def eY(n:Nat):Nat->List Int
 |0=>[]
 |k+1=>eY n k++fq n k
def cS(m:Int×Int×List Int):Int×Int×List Int:=(m.1,2*m.1,m.2.2++eY m.1.toNat m.1.toNat)
def oa(n i:Nat):(fq n i).length=n:=by simp[fq]
def xM{n i j:Nat}(h:j<n):(fq n i).getD j 0=if i=j then 1 else 0:=iI h 0
def qr(n k:Nat):(eY n k).length=k*n:=by
 induction k with
 |zero=>simp[eY]
 |succ k ih=>rw[eY,List.length_append,ih,oa,Nat.add_mul,Nat.one_mul]
def KC{n i:Nat}(h:i<n):(List.replicate n (0:Int)).set i 1=fq n i:=by
 apply List.ext_getElem?;intro j;by_cases hj:j<n
 ·simp only[fq,List.getElem?_map,List.getElem?_range hj,Option.map_some];by_cases e:i=j;·subst e;rw[List.getElem?_set_self (by simpa using h),if_pos rfl]
  ·rw[List.getElem?_set_ne e,List.getElem?_replicate,if_pos hj,if_neg e]
 ·rw[List.getElem?_eq_none (by simp;omega),List.getElem?_eq_none (by rw[oa];omega)]
def Cz{m:Int×Int×List Int}(hd:az m=true):m.2.2.length<=40:=by obtain⟨n,r,hn,hr,hn1,hn5,hnr,hr8,hl⟩:=aN hd;have:r*n<=8*5:=Nat.mul_le_mul hr8 hn5;omega
def KD{m:Int×Int×List Int}(hd:az m=true)(k:Nat)(hk:k<=m.1.toNat):(m.2.2++eY m.1.toNat k).length<=65:=by obtain⟨n,r,hn,hr,hn1,hn5,hnr,hr8,hl⟩:=aN hd;have:=Cz hd;have h2:k*m.1.toNat<=5*5:=Nat.mul_le_mul (by omega) (by omega);rw[List.length_append,qr];omega
def xN:(Int×Int×List Int)×Bool:=((0,0,[]),false)
def dS(f:Int×Int×List Int->Int->(Int×Int×List Int)×Bool)(m:Int×Int×List Int):List Int->(Int×Int×List Int)×Bool
 |[]=>(m,true)
 |k::ks=>if(f m k).2=true then dS f (f m k).1 ks else xN
def xO{α:Type}(f:Nat->α){n j:Nat}(h:j<n):((List.range n).map f).take j++[f j]=((List.range n).map f).take (j+1):=by rw[List.take_add_one,List.getElem?_map,List.getElem?_range h];rfl
def cE(f:Int×Int×List Int->Int->(Int×Int×List Int)×Bool)(p:Int×Int×List Int):List Int->List (Int×Int×List Int)×Bool
 |[]=>([p],true)
 |k::ks=>if(f p k).2=true then(if(cE f (f p k).1 ks).2=true then(p::(cE f (f p k).1 ks).1,true)else([],false))else([],false)
def CA(f:Int×Int×List Int->Int->(Int×Int×List Int)×Bool):∀(ks:List Int) (p:Int×Int×List Int),(cE f p ks).2=(dS f p ks).2/\((cE f p ks).2=true->(cE f p ks).1.length=ks.length+1/\(cE f p ks).1.getD ks.length (0,(0,[]))=(dS f p ks).1)
 |[],p=>⟨rfl,λ_=>⟨rfl,rfl⟩⟩
 |k::ks,p=>by
  obtain⟨h1,h2⟩:=CA f ks (f p k).1;rw[cE,dS];cases hb:(f p k).2;·exact⟨rfl,λh=>by cases h⟩
  ·rw[if_pos rfl,if_pos rfl];cases hc:(cE f (f p k).1 ks).2;·rw[if_neg (by simp)];exact⟨by rw[<-h1,hc],λh=>by cases h⟩
   ·rw[if_pos rfl];obtain⟨h3,h4⟩:=h2 hc;exact⟨by rw[<-h1,hc],λ_=>⟨by simp[h3],by simpa[List.getD_cons_succ]using h4⟩⟩
def tq{m:Int×Int×List Int}(hd:az m=true)(h1:m.2.1=m.1)(h2:2*m.1<=8):az (cS m)=true:=by
 obtain⟨n,r,hn,hr,hn1,hn5,hnr,hr8,hl⟩:=aN hd;have e:r=n:=by omega
 subst e;simp only[az,cS,Bool.and_eq_true,cy,decide_eq_true_eq,List.length_append,qr,hl,hn];refine⟨by omega,by omega, ?_⟩;have:(r:Int)*(2*(r:Int))=((r*r+r*r:Nat):Int):=by rw[Int.natCast_add,Int.natCast_mul];grind
 rw[this];simp
def CB{f:Int×Int×List Int->Int->(Int×Int×List Int)×Bool}(hf:∀m k,(f m k).2=true->az (f m k).1=true/\(f m k).1.1=m.1):∀(ks:List Int) (m:Int×Int×List Int),az m=true->(dS f m ks).2=true->az (dS f m ks).1=true/\(dS f m ks).1.1=m.1
 |[],m,hd,_=>⟨hd,rfl⟩
 |k::ks,m,hd,h=>by
  rw[dS]at h ⊢;cases hb:(f m k).2;·rw[hb]at h;cases h
  ·rw[hb,if_pos rfl]at h;rw[if_pos rfl];obtain⟨g1,g2⟩:=hf m k hb;obtain⟨g3,g4⟩:=CB hf ks _ g1 h;exact⟨g3,g4.trans g2⟩
def KJ{f:Int×Int×List Int->Int->(Int×Int×List Int)×Bool}(hf:∀m k,(f m k).2=true->az (f m k).1=true/\(f m k).1.1=m.1)(ks:List Int)(p:Int×Int×List Int)(hd:az p=true)(h:(cE f p ks).2=true) :
  (cE f p ks).1.length=ks.length+1/\az ((cE f p ks).1.getD ks.length (0,(0,[])))=true/\((cE f p ks).1.getD ks.length (0,(0,[]))).1=p.1:=by
 obtain⟨h1,h2⟩:=CA f ks p;obtain⟨h3,h4⟩:=h2 h;rw[h4];exact⟨h3,CB hf ks p hd (by rw[<-h1];exact h)⟩
def dX(m:Int×Int×List Int)(i:Nat):List Int:=(List.range m.1.toNat).map (ae m i)
def cT(m:Int×Int×List Int):List (List Int):=(List.range (m.2.1.toNat-m.1.toNat)).map λt=>dX m (m.1.toNat+t)
def kZ(l:List Int):Int:=if((l.any λx=>decide (0<x))&&!(l.any λx=>decide (x<0)))=true then 1 else if((l.any λx=>decide (x<0))&&!(l.any λx=>decide (0<x)))=true then -1 else 0
def xP{l:List Int}{u d:Bool}(hu:(l.any λx=>decide (0<x))=u)(hd:(l.any λx=>decide (x<0))=d):kZ l=if(u&&!d)=true then 1 else if(d&&!u)=true then -1 else 0:=by subst hu hd;rfl
def dI(m:Int×Int×List Int)(k:Nat):List Int:=(List.range (m.2.1.toNat-m.1.toNat)).map λt=>ae m (m.1.toNat+t) k
def mF:ab 0=0:=aL (by omega) (by omega)
def hU(p:Int×Int×List Int)(row:List Int)(k:Nat)(x:Int)(i:Nat):Int:=if 0<ae p i k then ab (x+ab (ae p i k*row.getD i 0))else x
def eZ(p m:Int×Int×List Int)(row:List Int)(k r:Nat)(x:Int)(i:Nat):Int :=
 if 0<ae p (m.1.toNat+i) k then ab (hU p row k x i-ab (ae p (m.1.toNat+i) k*ae m r i))else hU p row k x i
def CD(p m:Int×Int×List Int)(k r:Nat)(row:List Int):Int:=(List.range m.1.toNat).foldl (eZ p m row k r) (ab (0-row.getD k 0))
def qu(p m:Int×Int×List Int)(k r:Nat)(row:List Int):List Int:=row.set k (CD p m k r row)
def lb(p m:Int×Int×List Int)(k:Nat)(g:List (List Int)):List (List Int):=(List.range m.1.toNat).map λr=>qu p m k r (g.getD r [])
def lc(m:Int×Int×List Int):List (Int×Int×List Int)->List Int->List (List Int)->List (List Int)
 |w::ws,k::ks,g=>lc m ws ks (lb w m k.toNat g)
 |_,_,g=>g
def iM(n:Nat)(g:List (List Int)):Prop:=g.length=n/\∀r,r<n->(g.getD r []).length=n
def xR{p m:Int×Int×List Int}{k:Nat}{g:List (List Int)}(h:iM m.1.toNat g):iM m.1.toNat (lb p m k g):=by refine⟨by simp[lb],λr hr=>?_⟩;unfold lb;rw[iI hr,qu,List.length_set];exact h.2 r hr
def KK{m:Int×Int×List Int}{ws:List (Int×Int×List Int)}{ks:List Int}{g:List (List Int)}{j:Nat}(h1:j<ws.length)(h2:j<ks.length) :
  lc m (ws.drop j) (ks.drop j) g=lc m (ws.drop (j+1)) (ks.drop (j+1)) (lb (ws.getD j (0,(0,[]))) m (ks.getD j 0).toNat g):=by
 rw[iH (0,(0,[])) h1,iH 0 h2];rfl
def KL{m:Int×Int×List Int}{ws:List (Int×Int×List Int)}{ks:List Int}{g:List (List Int)}{j:Nat}(h2:ks.length<=j):lc m (ws.drop j) (ks.drop j) g=g:=by rw[List.drop_of_length_le h2];cases ws.drop j<;>rfl
def gC(n:Nat):List (List Int):=(List.range n).map (fq n)
def CE(n:Nat):iM n (gC n):=⟨by simp[gC],λr hr=>by unfold gC;rw[iI hr,oa]⟩
def xS(m:Int×Int×List Int)(ws:List (Int×Int×List Int))(ks:List Int):Prop:=ws.length=ks.length+1/\∀j,j<ks.length ->
 az (ws.getD j (0,(0,[])))=true/\(ws.getD j (0,(0,[]))).1=m.1/\(ws.getD j (0,(0,[]))).2.1=2*m.1/\0<=ks.getD j 0/\ks.getD j 0<m.1
def CF{f:Int×Int×List Int->Int->(Int×Int×List Int)×Bool}(hf:∀m k,(f m k).2=true->az (f m k).1=true/\(f m k).1.1=m.1/\(f m k).1.2.1=m.2.1/\0<=k/\k<m.1)(m:Int×Int×List Int) :
  ∀(ks:List Int) (p:Int×Int×List Int),az p=true->p.1=m.1->p.2.1=2*m.1->(cE f p ks).2=true->xS m (cE f p ks).1 ks
 |[],p,hd,h1,h2,h=>⟨rfl,λj hj=>absurd hj (Nat.not_lt_zero _)⟩
 |k::ks,p,hd,h1,h2,h=>by
  rw[cE]at h ⊢;cases hb:(f p k).2;·rw[hb]at h;cases h
  ·rw[hb,if_pos rfl]at h;rw[if_pos rfl];cases hc:(cE f (f p k).1 ks).2;·rw[hc]at h;cases h
   ·rw[if_pos rfl];obtain⟨q1,q2,q3,q4,q5⟩:=hf p k hb;obtain⟨r1,r2⟩:=CF hf m ks (f p k).1 q1 (q2.trans h1) (q3.trans h2) hc;refine⟨by simp[r1],λj hj=>?_⟩;cases j with
    |zero=>exact⟨hd,h1,h2,q4,by show k<m.1;omega⟩
    |succ j=>exact r2 j (by simpa using hj)
def aw(f:Nat->Int):Nat->Int
 |0=>0
 |n+1=>aw f n+f n
def dx{f h:Nat->Int}:∀n,(∀t,t<n->f t=h t)->aw f n=aw h n
 |0,_=>rfl
 |n+1,e=>by rw[aw,aw,dx n (λt ht=>e t (by omega)),e n (by omega)]
def j8(f h:Nat->Int):∀n,aw (λt=>f t+h t) n=aw f n+aw h n
 |0=>rfl
 |n+1=>by rw[aw,aw,aw,j8 f h n];omega
def mG(a:Int)(f:Nat->Int):∀n,aw (λt=>a*f t) n=a*aw f n
 |0=>(Int.mul_zero a).symm
 |n+1=>by rw[aw,aw,mG a f n,Int.mul_add]
def ob(f:Nat->Int):∀n,aw (λt=>-f t) n=-aw f n
 |0=>rfl
 |n+1=>by rw[aw,aw,ob f n];omega
def qv:∀n,aw (λ_=>0) n=0
 |0=>rfl
 |n+1=>by rw[aw,qv n];rfl
def oc{f:Nat->Int}{k:Nat}:∀n,k<n->(∀t,t<n->t≠k->f t=0)->aw f n=f k
 |0,h,_=>absurd h (Nat.not_lt_zero _)
 |n+1,h,e=>by
  rw[aw];by_cases hk:k=n;·subst hk;rw[dx k (h:=λ_=>0) (λt ht=>e t (by omega) (by omega)),qv];omega
  ·rw[oc n (by omega) (λt ht=>e t (by omega)),e n (by omega) (λq=>hk q.symm)];omega
def CG(f:Nat->Nat->Int)(m:Nat):∀n,aw (λt=>aw (f t) m) n=aw (λu=>aw (λt=>f t u) n) m
 |0=>(qv m).symm
 |n+1=>by rw[aw,CG f m n,<-j8];rfl
def KN{f:Nat->Int}{k:Nat}{n:Nat}(hk:k<n)(x:Int):aw (λt=>if t=k then x else f t) n=aw f n-f k+x:=by
 have e:aw (λt=>if t=k then x else f t) n=aw (λt=>f t+(if t=k then x-f k else 0)) n:=dx n λt _=>by
  by_cases h:t=k;·subst h;rw[if_pos rfl,if_pos rfl];omega
  ·rw[if_neg h,if_neg h];omega
 rw[e,j8,oc (k:=k) n hk (λt _ h=>if_neg h),if_pos rfl];omega
def pos(x:Int):Int:=if 0<x then x else 0
structure ld(n:Nat)(m:Nat->Nat->Int)(d:Nat->Int)(b c g:Nat->Nat->Int):Prop where
 dpos:∀i,i<n->0<d i
 skew:∀i j,i<n->j<n->d i*b i j=-(d j*b j i)
 gb:∀i j,i<n->j<n->aw (λt=>g i t*b t j) n=aw (λt=>m i t*c t j) n
 gdc:∀i j,i<n->j<n->aw (λt=>g t i*d t*c t j) n=if i=j then d i else 0
def KO{a x y:Int}(hx:0<=x):cw false a x y=a+x*pos y:=by
 unfold cw pos;rw[if_neg (by simp)];by_cases h1:0<y
 ·rw[if_pos h1];by_cases h2:0<x;·rw[if_pos ⟨h2,h1⟩]
  ·have:x=0:=by omega
   subst this;rw[if_neg (by omega),if_neg (by omega)];omega
 ·rw[if_neg h1,if_neg (by omega),if_neg (by omega)];omega
def KP{a x y:Int}(hx:x<=0):cw false a x y=a+x*pos (-y):=by
 unfold cw pos;rw[if_neg (by simp)];by_cases h1:y<0
 ·rw[if_pos (by omega:0 < -y),if_neg (by omega)];by_cases h2:x<0;·rw[if_pos ⟨h2,h1⟩,Int.mul_neg];omega
  ·have:x=0:=by omega
   subst this;rw[if_neg (by omega)];omega
 ·rw[if_neg (by omega:¬ 0 < -y),if_neg (by omega),if_neg (by omega)];omega
def KQ{a x y s:Int}(hs:s=1\/s=-1):cw false a x y=a+pos (-(s*x))*y+x*pos (s*y):=by unfold cw pos;rw[if_neg (by simp)];rcases hs with rfl|rfl<;>rcases Int.lt_trichotomy x 0 with h|h|h<;>rcases Int.lt_trichotomy y 0 with h'|h'|h'<;>grind
def ld.bkk{n:Nat}{m:Nat->Nat->Int}{d:Nat->Int}{b c g:Nat->Nat->Int}(h:ld n m d b c g){k:Nat}(hk:k<n):b k k=0:=by
 have h1:=h.skew k k hk hk;have h2:=h.dpos k hk;have:d k*b k k=0:=by omega
 rcases Int.mul_eq_zero.1 this with h3|h3;·omega
 ·exact h3
def CH{d x:Int}(hd:0<d):pos (d*x)=d*pos x:=by
 unfold pos;by_cases h:0<x;·rw[if_pos h,if_pos (Int.mul_pos hd h)]
 ·have:¬ 0<d*x:=λe=>by have:=Int.mul_nonpos_of_nonneg_of_nonpos (Int.le_of_lt hd) (show x<=0 by omega);omega
  rw[if_neg h,if_neg this,Int.mul_zero]
def KR(x:Int):pos x-pos (-x)=x:=by unfold pos;split<;>split<;>omega
section
variable {n : Nat} {m : Nat → Nat → Int} {d : Nat → Int} {b c g : Nat → Nat → Int} {k : Nat} {s : Int}
def tr(n:Nat)(m b c g:Nat->Nat->Int)(k i:Nat):Int:=-(g i k)+aw (λt=>pos (b t k)*g i t) n-aw (λt=>pos (c t k)*m i t) n
def xT(h:ld n m d b c g)(hk:k<n)(hs:s=1\/s=-1)(hc:∀t,t<n->0<=s*c t k){i:Nat}(hi:i<n):tr n m b c g k i=-(g i k)+aw (λt=>pos (-(s*b t k))*g i t) n:=by
 have hgb:=h.gb i k hi hk;unfold tr;rcases hs with rfl|rfl
 ·have e1:aw (λt=>pos (c t k)*m i t) n=aw (λt=>m i t*c t k) n:=dx n λt ht=>by
   have:=hc t ht;unfold pos;split;·rw[Int.mul_comm]
   ·have:c t k=0:=by omega
    rw[this];simp
  have e2:aw (λt=>pos (-(1*b t k))*g i t) n=aw (λt=>pos (b t k)*g i t) n-aw (λt=>g i t*b t k) n:=by
   have:aw (λt=>pos (-(1*b t k))*g i t) n=aw (λt=>pos (b t k)*g i t + -(g i t*b t k)) n:=dx n λt _=>by
    have h1:=KR (b t k);rw[Int.one_mul];have:pos (-(b t k))=pos (b t k)-b t k:=by omega
    rw[this,Int.sub_mul,Int.mul_comm (b t k)];omega
   rw[this,j8,ob];omega
  rw[e1,e2,<-hgb];omega
 ·have e1:aw (λt=>pos (c t k)*m i t) n=0:=by rw[dx n (h:=λ_=>0) (λt ht=>by have:=hc t ht;unfold pos;rw[if_neg (by omega),Int.zero_mul]),qv]
  have e2:aw (λt=>pos (-(-1*b t k))*g i t) n=aw (λt=>pos (b t k)*g i t) n:=dx n λt _=>by rw[Int.neg_mul,Int.one_mul,Int.neg_neg]
  rw[e1,e2];omega
def jx(b:Nat->Nat->Int)(k i j:Nat):Int:=cw (decide (i=k)||decide (j=k)) (b i j) (b i k) (b k j)
def jy(b c:Nat->Nat->Int)(k i j:Nat):Int:=cw (decide (j=k)) (c i j) (c i k) (b k j)
def fa(n:Nat)(m b c g:Nat->Nat->Int)(k i j:Nat):Int:=if j=k then tr n m b c g k i else g i j
def xU(i:Nat):jy b c k i k=-(c i k):=by unfold jy cw;simp
def xV(hs:s=1\/s=-1)(hc:∀t,t<n->0<=s*c t k){i j:Nat}(hi:i<n)(hj:j≠k):jy b c k i j=c i j+c i k*pos (s*b k j):=by
 unfold jy;rw[df hj];have:=hc i hi;rcases hs with rfl|rfl;·rw[KO (by omega),Int.one_mul]
 ·rw[KP (by omega),Int.neg_mul,Int.one_mul]
def KS(j:Nat):jx b k k j=-(b k j):=by unfold jx cw;simp
def KU(i:Nat):jx b k i k=-(b i k):=by unfold jx cw;simp
def KV(hs:s=1\/s=-1){i j:Nat}(hi:i≠k)(hj:j≠k):jx b k i j=b i j+pos (-(s*b i k))*b k j+b i k*pos (s*b k j):=by unfold jx;rw[df hi,df hj];exact KQ hs
def ld.step_gdc(h:ld n m d b c g)(hk:k<n)(hs:s=1\/s=-1)(hc:∀t,t<n->0<=s*c t k){i j:Nat}(hi:i<n)(hj:j<n):aw (λt=>fa n m b c g k t i*d t*jy b c k t j) n=if i=j then d i else 0:=by
 have P:=λi j hi hj=>h.gdc i j hi hj;have lin:∀(q:Nat->Int),aw (λt=>q t*d t*jy b c k t j) n=if j=k then -aw (λt=>q t*d t*c t k) n else aw (λt=>q t*d t*c t j) n+pos (s*b k j)*aw (λt=>q t*d t*c t k) n:=by
  intro q;by_cases e:j=k;·rw[if_pos e,<-ob];exact dx n λt _=>by rw[e,xU,Int.mul_neg]
  ·rw[if_neg e,<-mG,<-j8];exact dx n λt ht=>by rw[xV hs hc ht e];generalize pos (s*b k j)=e1;grind
 rw[lin];by_cases ik:i=k
 ·subst ik;have hg:∀t,t<n->fa n m b c g i t i=-(g t i)+aw (λu=>pos (-(s*b u i))*g t u) n:=λt ht=>by unfold fa;rw[if_pos rfl];exact xT h hk hs hc ht
  have sum1:∀j',j'<n->aw (λt=>fa n m b c g i t i*d t*c t j') n=-(if i=j' then d i else 0)+pos (-(s*b j' i))*d j':=by
   intro j' hj';have e1:aw (λt=>fa n m b c g i t i*d t*c t j') n=aw (λt=>-(g t i*d t*c t j')+aw (λu=>pos (-(s*b u i))*(g t u*d t*c t j')) n) n:=dx n λt ht=>by rw[hg t ht,Int.add_mul,Int.add_mul,Int.neg_mul,Int.neg_mul];congr 1;rw[Int.mul_comm,<-Int.mul_comm (d t),<-Int.mul_assoc,<-mG];exact dx n λu _=>by grind
   rw[e1,j8,ob,P i j' hi hj',CG];congr 1;have e2:aw (λu=>aw (λt=>pos (-(s*b u i))*(g t u*d t*c t j')) n) n=aw (λu=>if u=j' then pos (-(s*b j' i))*d j' else 0) n:=dx n λu hu=>by
    rw[mG,P u j' hu hj'];by_cases e:u=j';·subst e;rw[if_pos rfl,if_pos rfl]
    ·rw[if_neg e,if_neg e,Int.mul_zero]
   rw[e2,oc (k:=j') n hj' (λt _ e=>if_neg e),if_pos rfl]
  have hkk:pos (-(s*b i i))=0:=by rw[h.bkk hk];simp[pos]
  by_cases jk:j=i;·subst jk;rw[if_pos rfl,if_pos rfl,sum1 j hj,if_pos rfl,hkk];omega
  ·rw[if_neg jk,if_neg (λe=>jk e.symm),sum1 j hj,sum1 i hk,if_neg (λe=>jk e.symm),if_pos rfl,hkk];have e1:pos (-(s*b j i))*d j=d i*pos (s*b i j):=by rw[Int.mul_comm,<-CH (h.dpos j hj),<-CH (h.dpos i hi)];congr 1;have:=h.skew i j hi hj;rcases hs with rfl|rfl<;>grind
   rw[e1];grind
 ·have hg:∀t,fa n m b c g k t i=g t i:=λt=>if_neg ik;have e:∀j',aw (λt=>fa n m b c g k t i*d t*c t j') n=aw (λt=>g t i*d t*c t j') n:=λj'=>dx n λt _=>by rw[hg t]
  rw[e,e,P i k hi hk,if_neg ik];by_cases jk:j=k;·subst jk;rw[if_pos rfl,if_neg ik];rfl
  ·rw[if_neg jk,P i j hi hj];simp
def ld.step_gb(h:ld n m d b c g)(hk:k<n)(hs:s=1\/s=-1)(hc:∀t,t<n->0<=s*c t k){i j:Nat}(hi:i<n)(hj:j<n):aw (λt=>fa n m b c g k i t*jx b k t j) n=aw (λt=>m i t*jy b c k t j) n:=by
 have hkk:=h.bkk hk;by_cases jk:j=k
 ·subst jk;have e1:aw (λt=>m i t*jy b c j t j) n=-aw (λt=>m i t*c t j) n:=by rw[<-ob];exact dx n λt _=>by rw[xU,Int.mul_neg]
  have e2:aw (λt=>fa n m b c g j i t*jx b j t j) n=-aw (λt=>g i t*b t j) n:=by
   rw[<-ob];exact dx n λt _=>by
    rw[KU];unfold fa;by_cases e:t=j;·subst e;rw[hkk];simp
    ·rw[if_neg e,Int.mul_neg]
  rw[e1,e2,h.gb i j hi hj]
 ·have e1:aw (λt=>m i t*jy b c k t j) n=aw (λt=>m i t*c t j) n+pos (s*b k j)*aw (λt=>m i t*c t k) n:=by rw[<-mG,<-j8];exact dx n λt ht=>by rw[xV hs hc ht jk];generalize pos (s*b k j)=e1;grind
  have e2:aw (λt=>fa n m b c g k i t*jx b k t j) n=aw (λt=>if t=k then tr n m b c g k i * -(b k j)else g i t*b t j+b k j*(pos (-(s*b t k))*g i t)+pos (s*b k j)*(g i t*b t k)) n:=dx n λt _=>by
   by_cases e:t=k;·subst e;unfold fa;rw[if_pos rfl,if_pos rfl,KS]
   ·unfold fa;rw[if_neg e,if_neg e,KV hs e jk];generalize pos (s*b k j)=e1;generalize pos (-(s*b t k))=e3;grind
  have h0:pos (-(s*b k k))=0:=by rw[hkk];simp[pos]
  rw[e1,e2,KN hk,j8,j8,mG,mG,h.gb i j hi hj,h.gb i k hi hk,xT h hk hs hc hi,h0,hkk];generalize aw (λt=>pos (-(s*b t k))*g i t) n=A;generalize pos (s*b k j)=e1;grind
end
def gD(A:Nat->Nat->Int)(j:Nat):Nat->Nat->Int:=λi t=>A (i+1) (if t<j then t else t+1)
def hY(j:Nat):Int:=if j%2=0 then 1 else -1
def bR:Nat->(Nat->Nat->Int)->Int
 |0,_=>1
 |n+1,A=>aw (λj=>hY j*A 0 j*bR n (gD A j)) (n+1)
def tu:∀(n:Nat) {A B:Nat->Nat->Int},(∀i j,i<n->j<n->A i j=B i j)->bR n A=bR n B
 |0,_,_,_=>rfl
 |n+1,A,B,h=>by
  rw[bR,bR];refine dx _ λj hj=>?_;rw[h 0 j (by omega) hj,tu n (B:=gD B j) λi t hi ht=>?_];unfold gD;split;·exact h _ _ (by omega) (by omega)
  ·exact h _ _ (by omega) (by omega)
def qw(A:Nat->Nat->Int):bR 1 A=A 0 0:=by simp[bR,aw,hY]
def od(A:Nat->Nat->Int):bR 2 A=A 0 0*A 1 1-A 0 1*A 1 0:=by simp[bR,aw,hY,gD];grind
def og(A:Nat->Nat->Int):bR 3 A=A 0 0*(A 1 1*A 2 2-A 1 2*A 2 1)-A 0 1*(A 1 0*A 2 2-A 1 2*A 2 0)+A 0 2*(A 1 0*A 2 1-A 1 1*A 2 0):=by rw[bR];simp only[aw,od,hY,gD];simp;grind
def qx(A:Nat->Nat->Int):bR 4 A=A 0 0*(A 1 1*(A 2 2*A 3 3-A 2 3*A 3 2)-A 1 2*(A 2 1*A 3 3-A 2 3*A 3 1)+A 1 3*(A 2 1*A 3 2-A 2 2*A 3 1))
  - A 0 1*(A 1 0*(A 2 2*A 3 3-A 2 3*A 3 2)-A 1 2*(A 2 0*A 3 3-A 2 3*A 3 0)+A 1 3*(A 2 0*A 3 2-A 2 2*A 3 0))
  + A 0 2*(A 1 0*(A 2 1*A 3 3-A 2 3*A 3 1)-A 1 1*(A 2 0*A 3 3-A 2 3*A 3 0)+A 1 3*(A 2 0*A 3 1-A 2 1*A 3 0))
  - A 0 3*(A 1 0*(A 2 1*A 3 2-A 2 2*A 3 1)-A 1 1*(A 2 0*A 3 2-A 2 2*A 3 0)+A 1 2*(A 2 0*A 3 1-A 2 1*A 3 0)):=by
 rw[bR];simp only[aw,og,hY,gD];simp;grind
def KW(A B:Nat->Nat->Int)(e:Nat->Int)(k:Nat)(hk:k<1)(hB:∀i j,i<1->j<1->B i j=if j=k then -(A i k)else A i j+A i k*e j):bR 1 B=-bR 1 A:=by
 rw[qw,qw];have:k=0:=by omega
 simp only[hB 0 0 (by decide) (by decide)];clear hB;subst this;simp
def KX(A B:Nat->Nat->Int)(e:Nat->Int)(k:Nat)(hk:k<2)(hB:∀i j,i<2->j<2->B i j=if j=k then -(A i k)else A i j+A i k*e j):bR 2 B=-bR 2 A:=by
 rw[od,od];have:k=0\/k=1:=by omega
 simp only[hB 0 0 (by decide) (by decide),hB 0 1 (by decide) (by decide),hB 1 0 (by decide) (by decide),hB 1 1 (by decide) (by decide)];clear hB;rcases this with rfl|rfl<;>simp<;>grind
def KY(A B:Nat->Nat->Int)(e:Nat->Int)(k:Nat)(hk:k<3)(hB:∀i j,i<3->j<3->B i j=if j=k then -(A i k)else A i j+A i k*e j):bR 3 B=-bR 3 A:=by
 rw[og,og];have:k=0\/k=1\/k=2:=by omega
 simp only[hB 0 0 (by decide) (by decide),hB 0 1 (by decide) (by decide),hB 0 2 (by decide) (by decide),hB 1 0 (by decide) (by decide),hB 1 1 (by decide) (by decide),hB 1 2 (by decide) (by decide),hB 2 0 (by decide) (by decide),hB 2 1 (by decide) (by decide),hB 2 2 (by decide) (by decide)];clear hB;rcases this with rfl|rfl|rfl<;>simp<;>grind
def KZ(A B:Nat->Nat->Int)(e:Nat->Int)(k:Nat)(hk:k<4)(hB:∀i j,i<4->j<4->B i j=if j=k then -(A i k)else A i j+A i k*e j):bR 4 B=-bR 4 A:=by
 rw[qx,qx];have:k=0\/k=1\/k=2\/k=3:=by omega
 simp only[hB 0 0 (by decide) (by decide),hB 0 1 (by decide) (by decide),hB 0 2 (by decide) (by decide),hB 0 3 (by decide) (by decide),hB 1 0 (by decide) (by decide),hB 1 1 (by decide) (by decide),hB 1 2 (by decide) (by decide),hB 1 3 (by decide) (by decide),hB 2 0 (by decide) (by decide),hB 2 1 (by decide) (by decide),hB 2 2 (by decide) (by decide),hB 2 3 (by decide) (by decide),hB 3 0 (by decide) (by decide),hB 3 1 (by decide) (by decide),hB 3 2 (by decide) (by decide),hB 3 3 (by decide) (by decide)];clear hB;rcases this with rfl|rfl|rfl|rfl<;>simp<;>grind
def K0(A B:Nat->Nat->Int)(e:Nat->Int)(k:Nat)(hk:k<1)(he:e k=0)(hB:∀i j,i<1->j<1->B i j=if j=k then -(A i k)+aw (λt=>e t*A i t) 1 else A i j):bR 1 B=-bR 1 A:=by
 rw[qw,qw];have:k=0:=by omega
 simp only[hB 0 0 (by decide) (by decide)];clear hB;subst this;simp[aw,he]
def K1(A B:Nat->Nat->Int)(e:Nat->Int)(k:Nat)(hk:k<2)(he:e k=0)(hB:∀i j,i<2->j<2->B i j=if j=k then -(A i k)+aw (λt=>e t*A i t) 2 else A i j):bR 2 B=-bR 2 A:=by
 rw[od,od];have:k=0\/k=1:=by omega
 simp only[hB 0 0 (by decide) (by decide),hB 0 1 (by decide) (by decide),hB 1 0 (by decide) (by decide),hB 1 1 (by decide) (by decide)];clear hB;rcases this with rfl|rfl<;>simp[aw]<;>grind
def K2(A B:Nat->Nat->Int)(e:Nat->Int)(k:Nat)(hk:k<3)(he:e k=0)(hB:∀i j,i<3->j<3->B i j=if j=k then -(A i k)+aw (λt=>e t*A i t) 3 else A i j):bR 3 B=-bR 3 A:=by
 rw[og,og];have:k=0\/k=1\/k=2:=by omega
 simp only[hB 0 0 (by decide) (by decide),hB 0 1 (by decide) (by decide),hB 0 2 (by decide) (by decide),hB 1 0 (by decide) (by decide),hB 1 1 (by decide) (by decide),hB 1 2 (by decide) (by decide),hB 2 0 (by decide) (by decide),hB 2 1 (by decide) (by decide),hB 2 2 (by decide) (by decide)];clear hB;rcases this with rfl|rfl|rfl<;>simp[aw]<;>grind
def K3(A B:Nat->Nat->Int)(e:Nat->Int)(k:Nat)(hk:k<4)(he:e k=0)(hB:∀i j,i<4->j<4->B i j=if j=k then -(A i k)+aw (λt=>e t*A i t) 4 else A i j):bR 4 B=-bR 4 A:=by
 rw[qx,qx];have:k=0\/k=1\/k=2\/k=3:=by omega
 simp only[hB 0 0 (by decide) (by decide),hB 0 1 (by decide) (by decide),hB 0 2 (by decide) (by decide),hB 0 3 (by decide) (by decide),hB 1 0 (by decide) (by decide),hB 1 1 (by decide) (by decide),hB 1 2 (by decide) (by decide),hB 1 3 (by decide) (by decide),hB 2 0 (by decide) (by decide),hB 2 1 (by decide) (by decide),hB 2 2 (by decide) (by decide),hB 2 3 (by decide) (by decide),hB 3 0 (by decide) (by decide),hB 3 1 (by decide) (by decide),hB 3 2 (by decide) (by decide),hB 3 3 (by decide) (by decide)];clear hB;rcases this with rfl|rfl|rfl|rfl<;>simp[aw]<;>grind
def K4{n:Nat}(h1:1<=n)(h4:n<=4)(A B:Nat->Nat->Int)(e:Nat->Int)(k:Nat)(hk:k<n)(hB:∀i j,i<n->j<n->B i j=if j=k then -(A i k)else A i j+A i k*e j):bR n B=-bR n A:=by
 have:n=1\/n=2\/n=3\/n=4:=by omega
 rcases this with rfl|rfl|rfl|rfl;·exact KW A B e k hk hB
 ·exact KX A B e k hk hB
 ·exact KY A B e k hk hB
 ·exact KZ A B e k hk hB
def K5{n:Nat}(h1:1<=n)(h4:n<=4)(A B:Nat->Nat->Int)(e:Nat->Int)(k:Nat)(hk:k<n)(he:e k=0)(hB:∀i j,i<n->j<n->B i j=if j=k then -(A i k)+aw (λt=>e t*A i t) n else A i j):bR n B=-bR n A:=by
 have:n=1\/n=2\/n=3\/n=4:=by omega
 rcases this with rfl|rfl|rfl|rfl;·exact K0 A B e k hk he hB
 ·exact K1 A B e k hk he hB
 ·exact K2 A B e k hk he hB
 ·exact K3 A B e k hk he hB
def CI{n:Nat}(h1:1<=n)(h4:n<=4)(A:Nat->Nat->Int)(hA:∀i j,i<n->j<n->A i j=if i=j then 1 else 0):bR n A=1:=by
 rw[tu n (B:=λi j=>if i=j then 1 else 0) hA];have:n=1\/n=2\/n=3\/n=4:=by omega
 rcases this with rfl|rfl|rfl|rfl;·rw[qw];rfl
 ·rw[od];rfl
 ·rw[og];rfl
 ·rw[qx];rfl
def xW(x:Int):ab x=if x%18446744073709551616 ≥ 9223372036854775808 then x%18446744073709551616-18446744073709551616 else x%18446744073709551616:=by
 show(if(true&&decide (x%18446744073709551616 ≥ 9223372036854775808))=true then x%18446744073709551616-18446744073709551616 else x%18446744073709551616)=_;by_cases h:x%18446744073709551616 ≥ 9223372036854775808;·rw[if_pos (by simp[h]),if_pos h]
 ·rw[if_neg (by simp[h]),if_neg h]
def lf{x y:Int}(h:x%18446744073709551616=y%18446744073709551616):ab x=ab y:=by rw[xW,xW,h]
def lh(x:Int):ab x%18446744073709551616=x%18446744073709551616:=by rw[xW];split<;>omega
def qy(x y:Int):ab (ab x+y)=ab (x+y):=lf (by have:=lh x;omega)
def qz(x y:Int):ab (x+ab y)=ab (x+y):=lf (by have:=lh y;omega)
def K6(x y:Int):ab (ab x-y)=ab (x-y):=lf (by have:=lh x;omega)
def CJ(x y:Int):ab (x-ab y)=ab (x-y):=lf (by have:=lh y;omega)
def tv(x y:Int):ab (ab x*y)=ab (x*y):=lf (by rw[Int.mul_emod,lh,<-Int.mul_emod])
def CK(x y:Int):ab (x*ab y)=ab (x*y):=lf (by rw[Int.mul_emod,lh,<-Int.mul_emod])
end Go.Fw
set_option linter.defProp false
set_option linter.unusedSimpArgs false
set_option maxRecDepth 100000
namespace Go.Fw
section
variable {J : Type}
namespace aO
def P(b:List Int)(r:Int×Int):Bool:=bU b r
def li(h:Int):Int:=ab (ab (h*6364136223846793005)+1442695040888963407)
def tw(h:Int):Int:=eD .and .i64 (eD .xor .i64 (Int.fdiv h (2 ^ (min (33:Int).toNat (IntKind.bits .i64)))) (Int.fdiv h (2 ^ (min (45:Int).toNat (IntKind.bits .i64))))) 255
def g(b:List Int)(r:Int×Int):(Int×Int)×Int :=
 if r.1<(b.length:Int)then((r.1+1,li r.2),eD .and .i64 (ab (tw (li r.2)+ab (b.getD r.1.toNat 0))) 255)else((r.1,li r.2),tw (li r.2))
def Z0{J:Type}(N:Nat)(b0:List Int)(r0:Int×Int)(kr:Int->List Int->I2 (Option J)):Option J :=
 cond (lk N (decide (0<=(33:Int)))) (
  cond (lk N (decide (0<=(45:Int)))) (
   cond (lk N (decide (r0.1<(b0.length:Int))))
   (
    cond (lk N (av r0.1 b0.length)) (
     kr (eD .and .i64 (ab ((eD .and .i64 (eD .xor .i64 (Int.fdiv (ab ((ab (r0.2*6364136223846793005))+1442695040888963407)) (2 ^ (min (33:Int).toNat (IntKind.bits .i64)))) (Int.fdiv (ab ((ab (r0.2*6364136223846793005))+1442695040888963407)) (2 ^ (min (45:Int).toNat (IntKind.bits .i64))))) 255)+(ab ((b0.getD r0.1.toNat 0))))) 255) b0 (ab (r0.1+1)) (ab ((ab (r0.2*6364136223846793005))+1442695040888963407))) none)
   (
    kr (eD .and .i64 (eD .xor .i64 (Int.fdiv (ab ((ab (r0.2*6364136223846793005))+1442695040888963407)) (2 ^ (min (33:Int).toNat (IntKind.bits .i64)))) (Int.fdiv (ab ((ab (r0.2*6364136223846793005))+1442695040888963407)) (2 ^ (min (45:Int).toNat (IntKind.bits .i64))))) 255) b0 r0.1 (ab ((ab (r0.2*6364136223846793005))+1442695040888963407)))) none) none
def Spec:Prop:=∀{U:Type} (u:U) (b0:List Int) (r0:Int×Int),Ty.bd (.sl 0 (.int .u8)) b0->P b0 r0=true->∃N0,∀N,N0<=N->Z0 N b0 r0 (λv2 w0_0 w0_1 w0_2=>some (u,((w0_1,w0_2),((),(v2,())))))=some (u,((g b0 r0).1,((),((g b0 r0).2,()))))
def keep{b:List Int}{r:Int×Int}(h:bU b r=true):bU b (g b r).1=true:=by rw[xC]at h ⊢;unfold g;split<;>simp only<;>omega
def range(b:List Int)(r:Int×Int):0<=(g b r).2/\(g b r).2<=255:=by
 unfold g;split;·exact B7 _ 255 255 rfl (by omega)
 ·exact B7 _ 255 255 rfl (by omega)
def ok:Spec:=λu b r hb hp=>⟨0,λN hN=>by
 have h:=xC.1 hp;simp only[Z0];rw[ct (dt (by omega)),ct (dt (by omega))];by_cases hl:r.1<(b.length:Int)
 ·obtain⟨i,hi⟩:=Int.eq_ofNat_of_zero_le h.1;have e1:g b r=((r.1+1,li r.2),eD .and .i64 (ab (tw (li r.2)+ab (b.getD r.1.toNat 0))) 255):=if_pos hl;have e2:ab (r.1+1)=r.1+1:=by have:=h.2.2;rw[bD]at this;exact aL (by omega) (by omega)
  rw[ct (dt hl),ct (by rw[hi];exact aR (by omega)),e1,e2];rfl
 ·have e1:g b r=((r.1,li r.2),tw (li r.2)):=if_neg hl;rw[cf (df hl),e1];rfl⟩
end aO
namespace ao
def P(b:List Int)(r:Int×Int)(n:Int):Bool:=bU b r
def CL(b:List Int)(r:Int×Int)(n:Int):(Int×Int)×Int :=
 ((aO.g b (aO.g b (aO.g b (aO.g b r).1).1).1).1,
  Int.tmod (ab (ab (ab (ab ((aO.g b r).2*16777216)+ab ((aO.g b (aO.g b r).1).2*65536))+ab ((aO.g b (aO.g b (aO.g b r).1).1).2*256))+(aO.g b (aO.g b (aO.g b (aO.g b r).1).1).1).2)) n)
def g(b:List Int)(r:Int×Int)(n:Int):(Int×Int)×Int :=
 if n<=0 then(r,0)else if n<=256 then((aO.g b r).1,Int.tmod (aO.g b r).2 n)else CL b r n
def Z0{J:Type}(N:Nat)(b0:List Int)(r0:Int×Int)(a:Int)(kr:Int->List Int->I2 (Option J)):Option J :=
 cond (lk N (decide (a<=0)))
 (
  kr 0 b0 r0.1 r0.2)
 (
  cond (lk N (decide (a<=256)))
  (
   cond (lk N (aO.P b0 r0)) (
    cond (lk N (!(decide (a=0)))) (
     kr (Int.tmod (aO.g b0 r0).2 a) b0 (aO.g b0 r0).1.1 (aO.g b0 r0).1.2) none) none)
  (
   cond (lk N (aO.P b0 r0)) (
    cond (lk N (aO.P b0 (aO.g b0 r0).1)) (
     cond (lk N (aO.P b0 (aO.g b0 (aO.g b0 r0).1).1)) (
      cond (lk N (aO.P b0 (aO.g b0 (aO.g b0 (aO.g b0 r0).1).1).1)) (
       cond (lk N (!(decide (a=0)))) (
        kr (Int.tmod (ab ((ab ((ab ((ab ((aO.g b0 r0).2*16777216))+(ab ((aO.g b0 (aO.g b0 r0).1).2*65536))))+(ab ((aO.g b0 (aO.g b0 (aO.g b0 r0).1).1).2*256))))+(aO.g b0 (aO.g b0 (aO.g b0 (aO.g b0 r0).1).1).1).2)) a) b0 (aO.g b0 (aO.g b0 (aO.g b0 (aO.g b0 r0).1).1).1).1.1 (aO.g b0 (aO.g b0 (aO.g b0 (aO.g b0 r0).1).1).1).1.2) none) none) none) none) none))
def Spec:Prop:=∀{U:Type} (u:U) (b0:List Int) (r0:Int×Int) (v1:Int),Ty.bd (.sl 0 (.int .u8)) b0->P b0 r0 v1=true->∃N0,∀N,N0<=N->Z0 N b0 r0 v1 (λv4 w0_0 w0_1 w0_2=>some (u,((w0_1,w0_2),((),(v4,())))))=some (u,((g b0 r0 v1).1,((),((g b0 r0 v1).2,()))))
def keep{b:List Int}{r:Int×Int}{n:Int}(h:bU b r=true):bU b (g b r n).1=true:=by
 unfold g;split;·exact h
 ·split;·exact aO.keep h
  ·exact aO.keep (aO.keep (aO.keep (aO.keep h)))
def range{b:List Int}{r:Int×Int}{n:Int}(h1:1<=n)(h2:n<=256):0<=(g b r n).2/\(g b r n).2<n:=by have h:=aO.range b r;unfold g;rw[if_neg (by omega),if_pos h2];exact⟨Int.tmod_nonneg _ h.1,Int.tmod_lt_of_pos _ (by omega)⟩
def ok:Spec:=λu b r n hb hp=>⟨0,λN hN=>by
 have k1:=aO.keep hp;have k2:=aO.keep k1;have k3:=aO.keep k2;have p0:aO.P b r=true:=hp;have p1:aO.P b (aO.g b r).1=true:=k1;have p2:aO.P b (aO.g b (aO.g b r).1).1=true:=k2;have p3:aO.P b (aO.g b (aO.g b (aO.g b r).1).1).1=true:=k3;simp only[Z0];by_cases h1:n<=0;·rw[ct (dt h1),show g b r n=(r,0)from if_pos h1]
 ·rw[cf (df h1)];have hz:(!(decide (n=0)))=true:=by rw[df (by omega)];rfl
  by_cases h2:n<=256;·rw[ct (dt h2),show g b r n=((aO.g b r).1,Int.tmod (aO.g b r).2 n)from(if_neg h1).trans (if_pos h2)];simp only[aC,p0,hz,cond_true]
  ·rw[cf (df h2),show g b r n=CL b r n from(if_neg h1).trans (if_neg h2)];simp only[aC,p0,p1,p2,p3,hz,cond_true];rfl⟩
end ao
namespace cO
def P(b:List Int)(r:Int×Int)(n:Int):Bool:=bU b r
def g(b:List Int)(r:Int×Int)(n:Int):(Int×Int)×Bool:=((ao.g b r n).1,decide ((ao.g b r n).2=0))
def Z0{J:Type}(N:Nat)(b0:List Int)(r0:Int×Int)(a:Int)(kr:Bool->List Int->I2 (Option J)):Option J :=
 cond (lk N (ao.P b0 r0 a)) (
  kr (lk N (decide ((ao.g b0 r0 a).2=0))) b0 (ao.g b0 r0 a).1.1 (ao.g b0 r0 a).1.2) none
def Spec:Prop:=∀{U:Type} (u:U) (b0:List Int) (r0:Int×Int) (v1:Int),Ty.bd (.sl 0 (.int .u8)) b0->P b0 r0 v1=true->∃N0,∀N,N0<=N->Z0 N b0 r0 v1 (λv4 w0_0 w0_1 w0_2=>some (u,((w0_1,w0_2),((),(v4,())))))=some (u,((g b0 r0 v1).1,((),((g b0 r0 v1).2,()))))
def keep{b:List Int}{r:Int×Int}{n:Int}(h:bU b r=true):bU b (g b r n).1=true:=ao.keep h
def ok:Spec:=λu b r n hb hp=>⟨0,λN hN=>by simp only[Z0,aC,show ao.P b r n=true from hp,cond_true];rfl⟩
end cO
namespace aV
def P(b:List Int)(r:Int×Int)(m:Int×Int×List Int)(i j a c:Int):Bool :=
 bU b r&&(az m&&(bX i 0 (m.1-1)&&(bX j 0 (m.1-1)&&(bX a 0 1000&&bX c 0 1000))))
def joinM(s:Bool)(m:Int×Int×List Int)(i j a c:Int):Int×Int×List Int :=
 (m.1,m.2.1,(m.2.2.set (i*m.1+j).toNat (if s=true then -a else a)).set (j*m.1+i).toNat (if s=true then c else -c))
def g(b:List Int)(r:Int×Int)(m:Int×Int×List Int)(i j a c:Int):(Int×Int)×(Int×Int×List Int) :=
 ((cO.g b r 2).1,joinM (cO.g b r 2).2 m i j a c)
def Z0{J:Type}(N:Nat)(b0:List Int)(r0:Int×Int)(a:MT)(b c d e:Int)(kn:LI->I2 (List Int->I2 (Option J))):Option J :=
 cond (lk N (cO.P b0 r0 2)) (
  cond (lk N ((cO.g b0 r0 2).2))
  (
   cond (lk N (av (ab ((ab (b*a.1))+c)) a.2.2.length)) (
    cond (lk N (av (ab ((ab (c*a.1))+b)) (a.2.2.set (ab ((ab (b*a.1))+c)).toNat (ab (0-d))).length)) (
     kn ((a.2.2.set (ab ((ab (b*a.1))+c)).toNat (ab (0-d))).set (ab ((ab (c*a.1))+b)).toNat (ab (0-(ab (0-e))))) a.1 a.2.1 b0 (cO.g b0 r0 2).1.1 (cO.g b0 r0 2).1.2) none) none)
  (
   cond (lk N (av (ab ((ab (b*a.1))+c)) a.2.2.length)) (
    cond (lk N (av (ab ((ab (c*a.1))+b)) (a.2.2.set (ab ((ab (b*a.1))+c)).toNat d).length)) (
     kn ((a.2.2.set (ab ((ab (b*a.1))+c)).toNat d).set (ab ((ab (c*a.1))+b)).toNat (ab (0-e))) a.1 a.2.1 b0 (cO.g b0 r0 2).1.1 (cO.g b0 r0 2).1.2) none) none)) none
def Spec:Prop:=∀{U:Type} (u:U) (b0:List Int) (r0:Int×Int) (v1:MT) (v2 v3 v4 v5:Int),Ty.bd (.sl 0 (.int .u8)) b0->Ty.bd (.pair (.int .i64) (.pair (.int .i64) (.sl 0 (.int .i64)))) v1->P b0 r0 v1 v2 v3 v4 v5=true->∃N0,∀N,N0<=N->Z0 N b0 r0 v1 v2 v3 v4 v5 (λw1_2 w1_0 w1_1 w0_0 w0_1 w0_2=>some (u,((w0_1,w0_2),((w1_0,(w1_1,w1_2)),()))))=some (u,((g b0 r0 v1 v2 v3 v4 v5).1,((g b0 r0 v1 v2 v3 v4 v5).2,())))
def keep{b:List Int}{r:Int×Int}{m:Int×Int×List Int}{i j a c:Int}(h:bU b r=true):bU b (g b r m i j a c).1=true:=cO.keep h
def dim_join{s:Bool}{m:Int×Int×List Int}{i j a c:Int}(h:az m=true):az (joinM s m i j a c)=true:=by simpa[az,joinM]using h
def ok:Spec:=λu b r m i j a c hb hbm hp=>⟨0,λN hN=>by
 simp only[P,Bool.and_eq_true,cy]at hp;obtain⟨h1,h2,hi,hj,ha,hc⟩:=hp;obtain⟨n,q,hn,hr,hn1,hn5,hnr,hr8,hl⟩:=aN h2;obtain⟨x,rfl⟩:=Int.eq_ofNat_of_zero_le hi.1;obtain⟨y,rfl⟩:=Int.eq_ofNat_of_zero_le hj.1;have lx:x<n:=by omega
 have ly:y<n:=by omega
 have b1:=fU (n:=n) (r:=q) (i:=x) (j:=y) (by omega) ly;have b2:=fU (n:=n) (r:=q) (i:=y) (j:=x) (by omega) lx;have hq:q*n<=8*5:=Nat.mul_le_mul hr8 hn5;have e1:(x:Int)*m.1+(y:Int)=((x*n+y:Nat):Int):=by rw[hn];simp
 have e2:(y:Int)*m.1+(x:Int)=((y*n+x:Nat):Int):=by rw[hn];simp
 have e1':(x:Int)*m.1=((x*n:Nat):Int):=by rw[hn];simp
 have e2':(y:Int)*m.1=((y*n:Nat):Int):=by rw[hn];simp
 have a1:ab ((x:Int)*m.1)=(x:Int)*m.1:=by rw[e1'];exact aL (by omega) (by omega)
 have a2:ab ((y:Int)*m.1)=(y:Int)*m.1:=by rw[e2'];exact aL (by omega) (by omega)
 have w1:ab (ab ((x:Int)*m.1)+(y:Int))=(x:Int)*m.1+(y:Int):=by rw[a1,e1];exact aL (by omega) (by omega)
 have w2:ab (ab ((y:Int)*m.1)+(x:Int))=(y:Int)*m.1+(x:Int):=by rw[a2,e2];exact aL (by omega) (by omega)
 have wa:ab (0-a)=-a:=by rw[aL (by omega) (by omega)];omega
 have wc:ab (0-c)=-c:=by rw[aL (by omega) (by omega)];omega
 have wc2:ab (0-(-c))=c:=by rw[aL (by omega) (by omega)];omega
 have i1:av ((x:Int)*m.1+(y:Int)) m.2.2.length=true:=by rw[e1];exact aR (by omega)
 have i2:∀z:Int,av ((y:Int)*m.1+(x:Int)) (m.2.2.set ((x:Int)*m.1+(y:Int)).toNat z).length=true:=λz=>by rw[e2,List.length_set];exact aR (by omega)
 have hP:cO.P b r 2=true:=h1;simp only[Z0,aC,hP,w1,w2,wa,wc,wc2,i1,i2,cond_true,g,joinM];cases(cO.g b r 2).2<;>rfl⟩
end aV
namespace aD
def P(n:Int):Bool:=bX n 0 5
def g(n:Int):Int×Int×List Int:=(n,n,List.replicate (n*n).toNat 0)
def Z0{J:Type}(N:Nat)(a:Int)(kr:LI->I2 (Option J)):Option J :=
 cond (lk N (bE 0 (ab (a*a))&&decide ((ab (a*a))<1099511627776))) (
  kr (List.replicate (ab (a*a)).toNat (0:Int)) a a) none
def Spec:Prop:=∀ (v0:Int),P v0=true->∃N0,∀N,N0<=N->Z0 N v0 (λv2_2 v2_0 v2_1=>some ((),((v2_0,(v2_1,v2_2)),())))=some ((),((g v0),()))
def ok:Spec:=λn hp=>⟨0,λN hN=>by
 have h:=cy.1 hp;obtain⟨j,rfl⟩:=Int.eq_ofNat_of_zero_le h.1;have hj:j*j<=5*5:=Nat.mul_le_mul (by omega) (by omega);have e:(j:Int)*(j:Int)=((j*j:Nat):Int):=by simp
 have hw:ab ((j:Int)*(j:Int))=(j:Int)*(j:Int):=by rw[e];exact aL (by omega) (by omega)
 simp only[Z0];rw[hw,ct (by rw[e,nV (by omega),dt (by omega)];rfl)];rfl⟩
end aD
namespace bM
def g(n:Int):ByteArray:=fl n
def P(n:Int):Bool:=jp n
def Z1{J:Type}(N:Nat)(a:Int)(kn:Int->Option J):Option J :=
 kn a
def Z3{J:Type}(N:Nat)(a:Int)(kn:List Int->Int->Option J):Option J :=
 kn ([]:List Int) a
def Z5{J:Type}(N:Nat)(b:List Int)(a:Int)(kn:List Int->I2 (Option J)):Option J :=
 kn b a a
def Z9{J:Type}(N:Nat)(b:List Int)(c a:Int)(kn:List Int->I2 (Option J))(k0:List Int->Int->Option J):Option J :=
 cond (lk N (!(decide (a=0))))
 (
  cond (lk N (true)) (
   cond (lk N (decide ((Int.tmod a 10)<0)))
   (
    cond (lk N (Nat.blt (b.length+([(w8 ((ab (48+(ab (0-(Int.tmod a 10)))))))]:List Int).length) 1099511627776)) (
     cond (lk N (true)) (
      kn (b++([(w8 ((ab (48+(ab (0-(Int.tmod a 10)))))))]:List Int)) c (ab (Int.tdiv a 10))) none) none)
   (
    cond (lk N (Nat.blt (b.length+([(w8 ((ab (48+(Int.tmod a 10)))))]:List Int).length) 1099511627776)) (
     cond (lk N (true)) (
      kn (b++([(w8 ((ab (48+(Int.tmod a 10)))))]:List Int)) c (ab (Int.tdiv a 10))) none) none)) none)
 (
  cond (lk N (decide ((b.length:Int)=0)))
  (
   cond (lk N (true)) (
    cond (lk N (decide ((Int.tmod a 10)<0)))
    (
     cond (lk N (Nat.blt (b.length+([(w8 ((ab (48+(ab (0-(Int.tmod a 10)))))))]:List Int).length) 1099511627776)) (
      cond (lk N (true)) (
       kn (b++([(w8 ((ab (48+(ab (0-(Int.tmod a 10)))))))]:List Int)) c (ab (Int.tdiv a 10))) none) none)
    (
     cond (lk N (Nat.blt (b.length+([(w8 ((ab (48+(Int.tmod a 10)))))]:List Int).length) 1099511627776)) (
      cond (lk N (true)) (
       kn (b++([(w8 ((ab (48+(Int.tmod a 10)))))]:List Int)) c (ab (Int.tdiv a 10))) none) none)) none)
  (
   k0 b c))
def Z8L{J:Type}(N:Nat)(k0:List Int->Int->Option J):Nat->List Int->Int->Int->Option J
 |0,_,_,_=>none
 |M+1,a,b,c=>Z9 N a b c (λa b c=>Z8L N k0 M a b c) k0
def Z8 N a b c k0:=(Z8L N k0 N a b c:Option J)
def Z7 N a b c kn:=(Z8 N a b c kn:Option J)
def Z11{J:Type}(N:Nat)(a:List Int)(b:Int)(kn:List Int->List Int->Int->Option J):Option J :=
 kn a ([]:List Int) b
def Z13{J:Type}(N:Nat)(b a:List Int)(c:Int)(kn:List Int->List Int->Option J):Option J :=
 cond (lk N (decide (c<0)))
 (
  cond (lk N (Nat.blt (a.length+([45]:List Int).length) 1099511627776)) (
   kn b (a++([45]:List Int))) none)
 (
  kn b a)
def Z16{J:Type}(N:Nat)(a b:List Int)(kn:List Int->List Int->Int->Option J):Option J :=
 kn a b (ab ((a.length:Int)-1))
def Z19{J:Type}(N:Nat)(b c:List Int)(a:Int)(kn:List Int->List Int->Int->Option J)(k2:List Int->Option J):Option J :=
 cond (lk N (decide (0<=a)))
 (
  cond (lk N (av a b.length)) (
   cond (lk N (Nat.blt (c.length+([(b.getD a.toNat 0)]:List Int).length) 1099511627776)) (
    kn b (c++([(b.getD a.toNat 0)]:List Int)) (ab (a-1))) none) none)
 (
  k2 c)
def Z18L{J:Type}(N:Nat)(k2:List Int->Option J):Nat->List Int->List Int->Int->Option J
 |0,_,_,_=>none
 |M+1,a,b,c=>Z19 N a b c (λa b c=>Z18L N k2 M a b c) k2
def Z18 N a b c k2:=(Z18L N k2 N a b c:Option J)
def Z17 N a b c kn:=(Z18 N a b c kn:Option J)
def Z15 N a b kn:=(Z16 N a b (λa b c=>Z17 N a b c kn):Option J)
def Z20{J:Type}(N:Nat)(a:List Int)(kr:ByteArray->Option J):Option J :=
 kr (strOfNums a)
def Z14 N b a kr:=(Z15 N b a (λa=>Z20 N a kr):Option J)
def Z12 N a b c kr:=(Z13 N a b c (λa b=>Z14 N a b kr):Option J)
def Z10 N a b kr:=(Z11 N a b (λa c b=>Z12 N a c b kr):Option J)
def Z6 N a b c kr:=(Z7 N a b c (λa b=>Z10 N a b kr):Option J)
def Z4 N a b kr:=(Z5 N a b (λa b c=>Z6 N a b c kr):Option J)
def Z2 N a kr:=(Z3 N a (λb a=>Z4 N b a kr):Option J)
def Z0 N a kr:=(Z1 N a (λa=>Z2 N a kr):Option J)
def Spec:Prop:=∀ (v0:Int),P v0=true->∃N0,∀N,N0<=N->Z0 N v0 (λv2=>some ((),(v2,())))=some ((),((g v0),()))
def done{J:Type}{N M:Nat}(k0:List Int->Int->Option J){ds:List Int}(hd:ds≠[])(n:Int):Z8L N k0 (M+1) ds n 0=k0 ds n:=by have hl:ds.length≠0:=λh=>hd (List.length_eq_zero_iff.1 h);simp only[Z8L,Z9];rw[cf (show(!decide True)=false from rfl),cf (df (by omega))]
def loop{J:Type}{N:Nat}(k0:List Int->Int->Option J)(n:Int):∀(c M:Nat) (ds:List Int) (k:Int),k.natAbs<10 ^ c->k.natAbs<9223372036854775809->1<=c->c<M->ds.length+c<=100->(k≠0\/ds=[]) ->
  Z8L N k0 M ds n k=k0 (ds++eX k.natAbs) n:=by
 intro c;induction c with
 |zero=>intro M ds k _ _ h;omega
 |succ c ih =>
  intro M ds k hk hk2 _ hM hd hor;obtain⟨M,rfl⟩:∃m,M=m+1:=⟨M-1,by omega⟩;have hq:ab (Int.tdiv k 10)=Int.tdiv k 10:=by have:=xD k;exact aL (by omega) (by omega)
  have tT:Z8L N k0 (M+1) ds n k=Z8L N k0 M (ds++[48+((k.natAbs%10:Nat):Int)]) n (Int.tdiv k 10):=by
   have hb:∀x:Int,Nat.blt (ds.length+([x]:List Int).length) 1099511627776=true:=λx=>Nat.ble_eq_true_of_le (by simp;omega);simp only[Z8L,Z9,hq,hb,aC,cond_true];by_cases hk0:k=0;·subst hk0;have hds:ds=[]:=hor.resolve_left (by simp);subst hds;rfl
   ·rw[nt hk0,cond_true];by_cases hneg:Int.tmod k 10<0;·rw[dt hneg,cond_true,Kb hneg]
    ·rw[df hneg,cond_false,Ka hneg]
  rw[tT];by_cases hsm:k.natAbs<10
  ·have e0:Int.tdiv k 10=0:=by have:=xD k;omega
   obtain⟨M,rfl⟩:∃m,M=m+1:=⟨M-1,by omega⟩;rw[e0,done k0 (by simp) n,Ca hsm,Nat.mod_eq_of_lt hsm]
  ·have hc:1<=c:=by
    rcases Nat.eq_zero_or_pos c with h|h;·subst h;omega
    ·exact h
   have hd2:=xD k;rw[ih M _ (Int.tdiv k 10) (by rw[hd2,Nat.div_lt_iff_lt_mul (by omega),<-Nat.pow_succ];exact hk) (by omega) hc (by omega) (by simp;omega) (.inl (by omega)),hd2,Cb hsm,List.append_assoc];rfl
def back{J:Type}{N:Nat}(k2:List Int->Option J){ds:List Int}(hd:ds.length<=100):∀(j M:Nat) (out:List Int),j<=ds.length->j<M->out.length+j<=1000->Z18L N k2 M ds out ((j:Int)-1)=k2 (out++(ds.take j).reverse):=by
 intro j;induction j with
 |zero =>intro M out _ hM _;obtain⟨M,rfl⟩:∃m,M=m+1:=⟨M-1,by omega⟩;simp only[Z18L,Z19];rw[cf (df (by omega)),List.take_zero,List.reverse_nil,List.append_nil]
 |succ j ih =>
  intro M out hj hM ho;obtain⟨M,rfl⟩:∃m,M=m+1:=⟨M-1,by omega⟩;have e:((j+1:Nat):Int)-1=(j:Int):=by omega
  have hb:∀x:Int,Nat.blt (out.length+([x]:List Int).length) 1099511627776=true:=λx=>Nat.ble_eq_true_of_le (by simp;omega);simp only[Z18L,Z19,e];rw[ct (dt (by omega)),ct (aR hj),ct (hb _),Int.toNat_natCast,aL (by omega) (by omega),ih M _ (by omega) (by omega) (by simp;omega),<-ta 0 hj,List.reverse_append,List.append_assoc];rfl
def K7{u:Nat}:∀(c:Nat),u<10 ^ c->1<=c->(eX u).length<=c:=by
 intro c;induction c generalizing u with
 |zero=>intro _ h;omega
 |succ c ih =>
  intro h _;by_cases hs:u<10;·rw[Ca hs];simp
  ·rw[Cb hs,List.length_cons];have hc:1<=c:=by
    rcases Nat.eq_zero_or_pos c with h'|h';·subst h';omega
    ·exact h'
   have:=ih (u:=u / 10) (by rw[Nat.div_lt_iff_lt_mul (by omega),<-Nat.pow_succ];exact h) hc;omega
def ok:Spec:=λn hp=>⟨200,λN hN=>by
 simp only[P,jp,Bool.and_eq_true,decide_eq_true_eq]at hp;have h19:n.natAbs<10 ^ 19:=by
  have:(10:Nat) ^ 19=10000000000000000000:=by decide
  omega
 have hlen:=K7 19 h19 (by omega);simp only[Z0,Z1,Z2,Z3,Z4,Z5,Z6,Z7,Z8];refine(loop _ n 19 N [] n h19 (by omega) (by omega) (by omega) (by simp) (.inr rfl)).trans ?_;rw[List.nil_append];have hl0:eX n.natAbs=(eX n.natAbs).take (eX n.natAbs).length:=by rw[List.take_length]
 have fin:∀out:List Int,out.length<=10->Z18L N (λout6=>some ((),(strOfNums out6,()))) N (eX n.natAbs) out (((eX n.natAbs).length:Int)-1)=some ((),(strOfNums (out++(eX n.natAbs).reverse),())):=λout ho=>by rw[back _ (by omega) _ N out (Nat.le_refl _) (by omega) (by omega),List.take_length]
 simp only[Z10,Z11,Z12,Z13];by_cases hneg:n<0;·rw[ct (dt hneg),ct (show Nat.blt (([]:List Int).length+([45]:List Int).length) 1099511627776=true from rfl)];simp only[Z14,Z15,Z16,Z17,Z18,Z20];rw[aL (by omega) (by omega),fin _ (by simp),g,fl,Lib.itoa,if_pos hneg];have:=J8 n.natAbs;simp only[List.nil_append,List.singleton_append];rw[this]
 ·rw[cf (df hneg)];simp only[Z14,Z15,Z16,Z17,Z18,Z20];rw[aL (by omega) (by omega),fin _ (by simp),g,fl,Lib.itoa,if_neg hneg,List.nil_append,J7,show n.natAbs=n.toNat by omega]⟩
end bM
namespace spec_dTree
def P(b:List Int)(r:Int×Int)(most:Int):Bool:=bU b r&&bX most 1 4
abbrev S:=(Int×Int)×(Int×Int×List Int)
def chainS(b:List Int)(s:S)(i:Nat):S:=aV.g b s.1 s.2 (i:Int) ((i:Int)+1) 1 1
def starS(b:List Int)(s:S)(i:Nat):S:=aV.g b s.1 s.2 0 (i:Int) 1 1
def chainG(b:List Int)(r:Int×Int)(n c:Nat):S:=(List.range c).foldl (chainS b) (r,aD.g (n:Int))
def starG(b:List Int)(r:Int×Int):S:=((List.range 4).drop 1).foldl (starS b) (r,aD.g 4)
def f1(b:List Int)(r:Int×Int):S:=aV.g b r (aD.g 4) 0 1 1 1
def f2(b:List Int)(r:Int×Int):S:=aV.g b (f1 b r).1 (f1 b r).2 1 2 2 1
def f3(b:List Int)(r:Int×Int):S:=aV.g b (f2 b r).1 (f2 b r).2 2 3 1 1
def endB(b:List Int)(s:S)(n:Nat)(x y:Int):S:=aV.g b s.1 s.2 ((n:Int)-2) ((n:Int)-1) x y
def qA:List ByteArray:=[ByteArray.empty,⟨#[65,49]⟩,⟨#[65,49,32,65,49]⟩,⟨#[65,49,32,65,49,32,65,49]⟩,⟨#[65,49,32,65,49,32,65,49,32,65,49]⟩,⟨#[65,49,32,65,49,32,65,49,32,65,49,32,65,49]⟩]
def k1(k n most:Int):Int:=cond ((decide (4<=k)&&(decide (k<=6)&&decide (n<2)))||(decide (k=7)&&decide (most<2))) 0 k
def k2(k most:Int):Int:=cond ((decide (k=8)&&decide (most<4))||((decide (k=9)&&decide (most<4))||(decide (k=10)&&decide (most<3)))) 1 k
def tree(b:List Int)(r:Int×Int)(k:Int)(n:Nat):S×ByteArray :=
 if k=4 then(endB b (chainG b r n (n-2)) n 2 1,⟨#[66]⟩++fl n)else
 if k=5 then(if n=2 then(endB b (chainG b r n (n-2)) n 2 1,⟨#[66]⟩++fl n)else(endB b (chainG b r n (n-2)) n 1 2,⟨#[67]⟩++fl n))else
 if k=6 then((r,aD.g n),qA.getD n ByteArray.empty)else
 if k=7 then(aV.g b r (aD.g 2) 0 1 3 1,⟨#[71,50]⟩)else
 if k=8 then(starG b r,⟨#[68,52]⟩)else
 if k=9 then(f3 b r,⟨#[70,52]⟩)else
 if k=10 then(aV.g b r (aD.g 3) 0 1 1 1,⟨#[65,49,32,65,50]⟩)else
 (chainG b r n (n-1),⟨#[65]⟩++fl n)
def g(b:List Int)(r:Int×Int)(most:Int):(Int×Int)×(Int×Int×List Int)×ByteArray :=
 let k:=ao.g b r 11;let n:=ao.g b k.1 most;let t:=tree b n.1 (k2 (k1 k.2 (1+n.2) most) most) (1+n.2).toNat;(t.1.1,t.1.2,t.2)
def Z1{J:Type}(N:Nat)(b0:List Int)(r0:Int×Int)(a:Int)(kn:Int->List Int->I4 (Option J)):Option J :=
 kn a b0 r0.1 r0.2 0 0
def Z3{J:Type}(N:Nat)(d:Int)(a:List Int)(b c e f:Int)(kn:I2 (List Int->I4 (Option J))):Option J :=
 cond (lk N (ao.P a (b,c) 11)) (
  kn d (ao.g a (b,c) 11).2 a (ao.g a (b,c) 11).1.1 (ao.g a (b,c) 11).1.2 e f) none
def Z5{J:Type}(N:Nat)(a e:Int)(b:List Int)(c d f h:Int)(kn:I3 (List Int->I4 (Option J))):Option J :=
 cond (lk N (ao.P b (c,d) a)) (
  kn a e (ab (1+(ao.g b (c,d) a).2)) b (ao.g b (c,d) a).1.1 (ao.g b (c,d) a).1.2 f h) none
def Z7{J:Type}(N:Nat)(a b c:Int)(d:List Int)(e f g h:Int)(kn:I3 (List Int->I4 (Option J))):Option J :=
 cond (lk N (decide (4<=b)))
 (
  cond (lk N (decide (b<=6)))
  (
   cond (lk N (decide (c<2)))
   (
    kn a 0 c d e f g h)
   (
    cond (lk N (decide (b=7)))
    (
     cond (lk N (decide (a<2)))
     (
      kn a 0 c d e f g h)
     (
      kn a b c d e f g h))
    (
     kn a b c d e f g h)))
  (
   cond (lk N (decide (b=7)))
   (
    cond (lk N (decide (a<2)))
    (
     kn a 0 c d e f g h)
    (
     kn a b c d e f g h))
   (
    kn a b c d e f g h)))
 (
  cond (lk N (decide (b=7)))
  (
   cond (lk N (decide (a<2)))
   (
    kn a 0 c d e f g h)
   (
    kn a b c d e f g h))
  (
   kn a b c d e f g h))
def Z9{J:Type}(N:Nat)(h a b:Int)(c:List Int)(d e f g:Int)(kn:I2 (List Int->I4 (Option J))):Option J :=
 cond (lk N (decide (a=8)))
 (
  cond (lk N (decide (h<4)))
  (
   kn 1 b c d e f g)
  (
   cond (lk N (decide (a=9)))
   (
    cond (lk N (decide (h<4)))
    (
     kn 1 b c d e f g)
    (
     cond (lk N (decide (a=10)))
     (
      cond (lk N (decide (h<3)))
      (
       kn 1 b c d e f g)
      (
       kn a b c d e f g))
     (
      kn a b c d e f g)))
   (
    cond (lk N (decide (a=10)))
    (
     cond (lk N (decide (h<3)))
     (
      kn 1 b c d e f g)
     (
      kn a b c d e f g))
    (
     kn a b c d e f g))))
 (
  cond (lk N (decide (a=9)))
  (
   cond (lk N (decide (h<4)))
   (
    kn 1 b c d e f g)
   (
    cond (lk N (decide (a=10)))
    (
     cond (lk N (decide (h<3)))
     (
      kn 1 b c d e f g)
     (
      kn a b c d e f g))
    (
     kn a b c d e f g)))
  (
   cond (lk N (decide (a=10)))
   (
    cond (lk N (decide (h<3)))
    (
     kn 1 b c d e f g)
    (
     kn a b c d e f g))
   (
    kn a b c d e f g)))
def Z12{J:Type}(N:Nat)(a b:Int)(c:List Int)(d e f g:Int)(kn:I3 (List Int->I4 (Option J))):Option J :=
 kn a b a c d e f g
def Z15{J:Type}(N:Nat)(b c a:Int)(d:List Int)(e f g h:Int)(kn:I3 (Bool->List Int->I4 (Option J))):Option J :=
 cond (lk N (decide (a=4)))
 (
  kn b c a (lk N (decide (a=4))) d e f g h)
 (
  kn b c a (lk N (decide (a=5))) d e f g h)
def Z18{J:Type}(N:Nat)(b a i:Int)(j:Bool)(c:List Int)(d e f h:Int)(kn:LI->I2 (List Int->I6 (Option J))):Option J :=
 cond (lk N (aD.P a)) (
  kn (aD.g a).2.2 b a c d e f h (aD.g a).1 (aD.g a).2.1) none
def Z21{J:Type}(N:Nat)(a:LI)(b c:Int)(d:List Int)(e f g h i j:Int)(kn:LI->I3 (List Int->I6 (Option J))):Option J :=
 kn a b c 0 d e f g h i j
def Z24{J:Type}(N:Nat)(e:LI)(j i a:Int)(b:List Int)(f h l m c d:Int)(kn:LI->I3 (List Int->I6 (Option J)))(k1:LI->I2 (List Int->I6 (Option J))):Option J :=
 cond (lk N (decide ((ab (a+2))<i)))
 (
  cond (lk N (aV.P b (f,h) (c,(d,e)) a (ab (a+1)) 1 1)) (
   kn (aV.g b (f,h) (c,(d,e)) a (ab (a+1)) 1 1).2.2.2 j i (ab (a+1)) b (aV.g b (f,h) (c,(d,e)) a (ab (a+1)) 1 1).1.1 (aV.g b (f,h) (c,(d,e)) a (ab (a+1)) 1 1).1.2 l m c d) none)
 (
  k1 e j i b f h l m c d)
def Z23L{J:Type}(N:Nat)(k1:LI->I2 (List Int->I6 (Option J))):Nat->LI->Int->Int->Int->List Int->Int->Int->Int->Int->Int->Int->Option J
 |0,_,_,_,_,_,_,_,_,_,_,_=>none
 |M+1,a,b,c,d,e,f,g,h,i,j,l=>Z24 N a b c d e f g h i j l (λa b c d e f g h i j l=>Z23L N k1 M a b c d e f g h i j l) k1
def Z23 N a b c d e f g h i j l k1:=(Z23L N k1 N a b c d e f g h i j l:Option J)
def Z22 N a b c d e f g h i j l kn:=(Z23 N a b c d e f g h i j l kn:Option J)
def Z20 N a b c d e f g h i j kn:=(Z21 N a b c d e f g h i j (λa b c l d e f g h i j=>Z22 N a b c l d e f g h i j kn):Option J)
def Z25{J:Type}(N:Nat)(e:LI)(i a:Int)(b:List Int)(f h j l c d:Int)(kr:LI->ByteArray->I2 (List Int->I2 (Option J))):Option J :=
 cond (lk N (decide (i=4)))
 (
  cond (lk N (aV.P b (f,h) (c,(d,e)) (ab (a-2)) (ab (a-1)) 2 1)) (
   cond (lk N (bM.P a)) (
    bo (
     cond (Nat.blt ((⟨#[66]⟩:ByteArray).size+(bM.g a).size) 4611686018427387904) (
      kr (aV.g b (f,h) (c,(d,e)) (ab (a-2)) (ab (a-1)) 2 1).2.2.2 ((⟨#[66]⟩:ByteArray)++(bM.g a)) c d b (aV.g b (f,h) (c,(d,e)) (ab (a-2)) (ab (a-1)) 2 1).1.1 (aV.g b (f,h) (c,(d,e)) (ab (a-2)) (ab (a-1)) 2 1).1.2) none)) none) none)
 (
  cond (lk N (decide (a=2)))
  (
   cond (lk N (aV.P b (f,h) (c,(d,e)) (ab (a-2)) (ab (a-1)) 2 1)) (
    cond (lk N (bM.P a)) (
     bo (
      cond (Nat.blt ((⟨#[66]⟩:ByteArray).size+(bM.g a).size) 4611686018427387904) (
       kr (aV.g b (f,h) (c,(d,e)) (ab (a-2)) (ab (a-1)) 2 1).2.2.2 ((⟨#[66]⟩:ByteArray)++(bM.g a)) c d b (aV.g b (f,h) (c,(d,e)) (ab (a-2)) (ab (a-1)) 2 1).1.1 (aV.g b (f,h) (c,(d,e)) (ab (a-2)) (ab (a-1)) 2 1).1.2) none)) none) none)
  (
   cond (lk N (aV.P b (f,h) (c,(d,e)) (ab (a-2)) (ab (a-1)) 1 2)) (
    cond (lk N (bM.P a)) (
     bo (
      cond (Nat.blt ((⟨#[67]⟩:ByteArray).size+(bM.g a).size) 4611686018427387904) (
       kr (aV.g b (f,h) (c,(d,e)) (ab (a-2)) (ab (a-1)) 1 2).2.2.2 ((⟨#[67]⟩:ByteArray)++(bM.g a)) c d b (aV.g b (f,h) (c,(d,e)) (ab (a-2)) (ab (a-1)) 1 2).1.1 (aV.g b (f,h) (c,(d,e)) (ab (a-2)) (ab (a-1)) 1 2).1.2) none)) none) none))
def Z19 N a b c d e f g h i j kr:=(Z20 N a b c d e f g h i j (λa b c d e f g h i j=>Z25 N a b c d e f g h i j kr):Option J)
def Z17 N a b h i c d e f g kr:=(Z18 N a b h i c d e f g (λj a b c d e f g l m=>Z19 N j a b c d e f g l m kr):Option J)
def Z27{J:Type}(N:Nat)(h b a:Int)(i:Bool)(c:List Int)(d e f g:Int)(kn:I2 (Bool->List Int->I4 (Option J))):Option J :=
 kn b a (lk N (decide (a=6))) c d e f g
def Z29{J:Type}(N:Nat)(a e:Int)(f:Bool)(b:List Int)(c d h i:Int)(kr:LI->ByteArray->I2 (List Int->I2 (Option J))):Option J :=
 cond (lk N (aD.P a)) (
  bg (
   cond (lk N (av a ([ByteArray.empty,(⟨#[65,49]⟩:ByteArray),(⟨#[65,49,32,65,49]⟩:ByteArray),(⟨#[65,49,32,65,49,32,65,49]⟩:ByteArray),(⟨#[65,49,32,65,49,32,65,49,32,65,49]⟩:ByteArray),(⟨#[65,49,32,65,49,32,65,49,32,65,49,32,65,49]⟩:ByteArray)]:List ByteArray).length)) (
    bo (
     kr (aD.g a).2.2 (([ByteArray.empty,(⟨#[65,49]⟩:ByteArray),(⟨#[65,49,32,65,49]⟩:ByteArray),(⟨#[65,49,32,65,49,32,65,49]⟩:ByteArray),(⟨#[65,49,32,65,49,32,65,49,32,65,49]⟩:ByteArray),(⟨#[65,49,32,65,49,32,65,49,32,65,49,32,65,49]⟩:ByteArray)]:List ByteArray).getD a.toNat ByteArray.empty) (aD.g a).1 (aD.g a).2.1 b c d)) none)
  (
   cond (lk N (av a ([ByteArray.empty,(⟨#[65,49]⟩:ByteArray),(⟨#[65,49,32,65,49]⟩:ByteArray),(⟨#[65,49,32,65,49,32,65,49]⟩:ByteArray),(⟨#[65,49,32,65,49,32,65,49,32,65,49]⟩:ByteArray),(⟨#[65,49,32,65,49,32,65,49,32,65,49,32,65,49]⟩:ByteArray)]:List ByteArray).length)) (
    kr (aD.g a).2.2 (([ByteArray.empty,(⟨#[65,49]⟩:ByteArray),(⟨#[65,49,32,65,49]⟩:ByteArray),(⟨#[65,49,32,65,49,32,65,49]⟩:ByteArray),(⟨#[65,49,32,65,49,32,65,49,32,65,49]⟩:ByteArray),(⟨#[65,49,32,65,49,32,65,49,32,65,49,32,65,49]⟩:ByteArray)]:List ByteArray).getD a.toNat ByteArray.empty) (aD.g a).1 (aD.g a).2.1 b c d) none)) none
def Z31{J:Type}(N:Nat)(b a:Int)(h:Bool)(c:List Int)(d e f g:Int)(kn:I2 (Bool->List Int->I4 (Option J))):Option J :=
 kn b a (lk N (decide (a=7))) c d e f g
def Z33{J:Type}(N:Nat)(d e:Int)(f:Bool)(a:List Int)(b c h i:Int)(kr:LI->ByteArray->I2 (List Int->I2 (Option J))):Option J :=
 cond (lk N (aD.P 2)) (
  cond (lk N (aV.P a (b,c) (aD.g 2) 0 1 3 1)) (
   kr (aV.g a (b,c) (aD.g 2) 0 1 3 1).2.2.2 (⟨#[71,50]⟩:ByteArray) (aD.g 2).1 (aD.g 2).2.1 a (aV.g a (b,c) (aD.g 2) 0 1 3 1).1.1 (aV.g a (b,c) (aD.g 2) 0 1 3 1).1.2) none) none
def Z35{J:Type}(N:Nat)(b a:Int)(h:Bool)(c:List Int)(d e f g:Int)(kn:I2 (Bool->List Int->I4 (Option J))):Option J :=
 kn b a (lk N (decide (a=8))) c d e f g
def Z38{J:Type}(N:Nat)(f h:Int)(i:Bool)(a:List Int)(b c d e:Int)(kn:LI->List Int->I6 (Option J)):Option J :=
 cond (lk N (aD.P 4)) (
  kn (aD.g 4).2.2 a b c d e (aD.g 4).1 (aD.g 4).2.1) none
def Z41{J:Type}(N:Nat)(a:LI)(b:List Int)(c d e f g h:Int)(kn:LI->Int->List Int->I6 (Option J)):Option J :=
 kn a 1 b c d e f g h
def Z44{J:Type}(N:Nat)(e:LI)(a:Int)(b:List Int)(f h i j c d:Int)(kn:LI->Int->List Int->I6 (Option J))(k3:LI->I4 (List Int->I2 (Option J))):Option J :=
 cond (lk N (decide (a<4)))
 (
  cond (lk N (aV.P b (f,h) (c,(d,e)) 0 a 1 1)) (
   kn (aV.g b (f,h) (c,(d,e)) 0 a 1 1).2.2.2 (ab (a+1)) b (aV.g b (f,h) (c,(d,e)) 0 a 1 1).1.1 (aV.g b (f,h) (c,(d,e)) 0 a 1 1).1.2 i j c d) none)
 (
  k3 e i j c d b f h)
def Z43L{J:Type}(N:Nat)(k3:LI->I4 (List Int->I2 (Option J))):Nat->LI->Int->List Int->Int->Int->Int->Int->Int->Int->Option J
 |0,_,_,_,_,_,_,_,_,_=>none
 |M+1,a,b,c,d,e,f,g,h,i=>Z44 N a b c d e f g h i (λa b c d e f g h i=>Z43L N k3 M a b c d e f g h i) k3
def Z43 N a b c d e f g h i k3:=(Z43L N k3 N a b c d e f g h i:Option J)
def Z42 N a b c d e f g h i kn:=(Z43 N a b c d e f g h i kn:Option J)
def Z40 N a b c d e f g h kn:=(Z41 N a b c d e f g h (λa i b c d e f g h=>Z42 N a i b c d e f g h kn):Option J)
def Z45{J:Type}(N:Nat)(a:LI)(g h b c:Int)(d:List Int)(e f:Int)(kr:LI->ByteArray->I2 (List Int->I2 (Option J))):Option J :=
 kr a (⟨#[68,52]⟩:ByteArray) b c d e f
def Z39 N a b c d e f g h kr:=(Z40 N a b c d e f g h (λa e f g h b c d=>Z45 N a e f g h b c d kr):Option J)
def Z37 N f g h a b c d e kr:=(Z38 N f g h a b c d e (λi a b c d e j l=>Z39 N i a b c d e j l kr):Option J)
def Z46{J:Type}(N:Nat)(e d:Int)(i:Bool)(a:List Int)(b c f h:Int)(kn:Int->List Int->I4 (Option J))(kr:LI->ByteArray->I2 (List Int->I2 (Option J))):Option J :=
 let x2_:=(aV.g a (b,c) (aD.g 4) 0 1 1 1);let x3_:=(aV.g a (b,c) (aD.g 3) 0 1 1 1);let x0_:=(aV.g a x2_.1 ((aD.g 4).1,((aD.g 4).2.1,x2_.2.2.2)) 1 2 2 1);let x1_:=(aV.g a x0_.1 ((aD.g 4).1,((aD.g 4).2.1,x0_.2.2.2)) 2 3 1 1);cond (lk N (decide (d=9)))
 (
 cond (lk N (aD.P 4)) (
 cond (lk N (aV.P a (b,c) (aD.g 4) 0 1 1 1)) (
 cond (lk N (aV.P a x2_.1 ((aD.g 4).1,((aD.g 4).2.1,x2_.2.2.2)) 1 2 2 1)) (
 cond (lk N (aV.P a x0_.1 ((aD.g 4).1,((aD.g 4).2.1,x0_.2.2.2)) 2 3 1 1)) (
 kr x1_.2.2.2 (⟨#[70,52]⟩:ByteArray) (aD.g 4).1 (aD.g 4).2.1 a x1_.1.1 x1_.1.2) none) none) none) none)
 (
 cond (lk N (decide (d=10)))
 (
 cond (lk N (aD.P 3)) (
 cond (lk N (aV.P a (b,c) (aD.g 3) 0 1 1 1)) (
 kr x3_.2.2.2 (⟨#[65,49,32,65,50]⟩:ByteArray) (aD.g 3).1 (aD.g 3).2.1 a x3_.1.1 x3_.1.2) none) none)
 (
 kn e a b c f h))
def Z36 N b c a d e f g h kn kr:=(cond (a) (Z37 N b c a d e f g h kr) (Z46 N b c a d e f g h kn kr):Option J)
def Z34 N a b h c d e f g kn kr:=(Z35 N a b h c d e f g (λa b i c d e f g=>Z36 N a b i c d e f g kn kr):Option J)
def Z32 N b c a d e f g h kn kr:=(cond (a) (Z33 N b c a d e f g h kr) (Z34 N b c a d e f g h kn kr):Option J)
def Z30 N a b h c d e f g kn kr:=(Z31 N a b h c d e f g (λa b i c d e f g=>Z32 N a b i c d e f g kn kr):Option J)
def Z28 N b c a d e f g h kn kr:=(cond (a) (Z29 N b c a d e f g h kr) (Z30 N b c a d e f g h kn kr):Option J)
def Z26 N h a b i c d e f g kn kr:=(Z27 N h a b i c d e f g (λa b j c d e f g=>Z28 N a b j c d e f g kn kr):Option J)
def Z16 N b c d a e f g h i kn kr:=(cond (a) (Z17 N b c d a e f g h i kr) (Z26 N b c d a e f g h i kn kr):Option J)
def Z14 N a b c d e f g h kn kr:=(Z15 N a b c d e f g h (λa b c i d e f g h=>Z16 N a b c i d e f g h kn kr):Option J)
def Z13 N a b c d e f g h kn kr:=(Z14 N a b c d e f g h kn kr:Option J)
def Z11 N a b c d e f g kn kr:=(Z12 N a b c d e f g (λa b h c d e f g=>Z13 N a b h c d e f g kn kr):Option J)
def Z48{J:Type}(N:Nat)(a:Int)(b:List Int)(c d e f:Int)(kn:LI->Int->List Int->I6 (Option J)):Option J :=
 cond (lk N (aD.P a)) (
  kn (aD.g a).2.2 a b c d e f (aD.g a).1 (aD.g a).2.1) none
def Z51{J:Type}(N:Nat)(a:LI)(b:Int)(c:List Int)(d e f g h i:Int)(kn:LI->I2 (List Int->I6 (Option J))):Option J :=
 kn a b 0 c d e f g h i
def Z54{J:Type}(N:Nat)(e:LI)(i a:Int)(b:List Int)(f h j l c d:Int)(kn:LI->I2 (List Int->I6 (Option J)))(k5:LI->I5 (List Int->I2 (Option J))):Option J :=
 cond (lk N (decide ((ab (a+1))<i)))
 (
  cond (lk N (aV.P b (f,h) (c,(d,e)) a (ab (a+1)) 1 1)) (
   kn (aV.g b (f,h) (c,(d,e)) a (ab (a+1)) 1 1).2.2.2 i (ab (a+1)) b (aV.g b (f,h) (c,(d,e)) a (ab (a+1)) 1 1).1.1 (aV.g b (f,h) (c,(d,e)) a (ab (a+1)) 1 1).1.2 j l c d) none)
 (
  k5 e i j l c d b f h)
def Z53L{J:Type}(N:Nat)(k5:LI->I5 (List Int->I2 (Option J))):Nat->LI->Int->Int->List Int->Int->Int->Int->Int->Int->Int->Option J
 |0,_,_,_,_,_,_,_,_,_,_=>none
 |M+1,a,b,c,d,e,f,g,h,i,j=>Z54 N a b c d e f g h i j (λa b c d e f g h i j=>Z53L N k5 M a b c d e f g h i j) k5
def Z53 N a b c d e f g h i j k5:=(Z53L N k5 N a b c d e f g h i j:Option J)
def Z52 N a b c d e f g h i j kn:=(Z53 N a b c d e f g h i j kn:Option J)
def Z50 N a b c d e f g h i kn:=(Z51 N a b c d e f g h i (λa b j c d e f g h i=>Z52 N a b j c d e f g h i kn):Option J)
def Z55{J:Type}(N:Nat)(b:LI)(a i j c d:Int)(e:List Int)(f h:Int)(kr:LI->ByteArray->I2 (List Int->I2 (Option J))):Option J :=
 cond (lk N (bM.P a)) (
  bo (
   cond (Nat.blt ((⟨#[65]⟩:ByteArray).size+(bM.g a).size) 4611686018427387904) (
    kr b ((⟨#[65]⟩:ByteArray)++(bM.g a)) c d e f h) none)) none
def Z49 N a b c d e f g h i kr:=(Z50 N a b c d e f g h i (λa b f g h i c d e=>Z55 N a b f g h i c d e kr):Option J)
def Z47 N a b c d e f kr:=(Z48 N a b c d e f (λg a b c d e f h i=>Z49 N g a b c d e f h i kr):Option J)
def Z10 N g a b c d e f kr:=(Z11 N g a b c d e f (λa b c d e f=>Z47 N a b c d e f kr) kr:Option J)
def Z8 N h a b c d e f g kr:=(Z9 N h a b c d e f g (λa b c d e f g=>Z10 N a b c d e f g kr):Option J)
def Z6 N a b c d e f g h kr:=(Z7 N a b c d e f g h (λa b c d e f g h=>Z8 N a b c d e f g h kr):Option J)
def Z4 N a b c d e f g kr:=(Z5 N a b c d e f g (λa b h c d e f g=>Z6 N a b h c d e f g kr):Option J)
def Z2 N a b c d e f kr:=(Z3 N a b c d e f (λa g b c d e f=>Z4 N a g b c d e f kr):Option J)
def Z0 N b0 r0 a kr:=(Z1 N b0 r0 a (λa b c d e f=>Z2 N a b c d e f kr):Option J)
def Spec:Prop:=∀{U:Type} (u:U) (b0:List Int) (r0:Int×Int) (v1:Int),Ty.bd (.sl 0 (.int .u8)) b0->P b0 r0 v1=true->∃N0,∀N,N0<=N->Z0 N b0 r0 v1 (λv4_2 v5 v4_0 v4_1 w0_0 w0_1 w0_2=>some (u,((w0_1,w0_2),((),((v4_0,(v4_1,v4_2)),(v5,()))))))=some (u,((g b0 r0 v1).1,((),((g b0 r0 v1).2.1,((g b0 r0 v1).2.2,())))))
structure Jd(b:List Int)(n:Int)(s:S):Prop where
 cur:bU b s.1=true
 dim:az s.2=true
 hn:s.2.1=n
 hr:s.2.2.1=n
def Jd.join{b:List Int}{n:Int}{s:S}(h:Jd b n s)(i j x y:Int):Jd b n (aV.g b s.1 s.2 i j x y) :=
 ⟨aV.keep h.cur,aV.dim_join h.dim,h.hn,h.hr⟩
def K8{n:Int}(h1:1<=n)(h5:n<=5):az (aD.g n)=true:=by
 have:n=1\/n=2\/n=3\/n=4\/n=5:=by omega
 rcases this with rfl|rfl|rfl|rfl|rfl<;>rfl
def Jd.zero{b:List Int}{r:Int×Int}{n:Int}(h:bU b r=true)(h1:1<=n)(h5:n<=5):Jd b n (r,aD.g n):=⟨h,K8 h1 h5,rfl,rfl⟩
def Jd.P{b:List Int}{n:Int}{s:S}(h:Jd b n s){i j x y:Int}(hi:0<=i/\i<n)(hj:0<=j/\j<n)(ha:0<=x/\x<=1000)(hc:0<=y/\y<=1000):aV.P b s.1 s.2 i j x y=true:=by have:=h.hn;simp only[aV.P,Bool.and_eq_true,cy];exact⟨h.cur,h.dim,by omega,by omega,by omega,by omega⟩
def Jd.chain{b:List Int}{n:Int}:∀(l:List Nat) {s:S},Jd b n s->Jd b n (l.foldl (chainS b) s)
 |[],_,h=>h
 |i::l,s,h=>Jd.chain l (s:=chainS b s i) (h.join _ _ _ _)
def Jd.star{b:List Int}{n:Int}:∀(l:List Nat) {s:S},Jd b n s->Jd b n (l.foldl (starS b) s)
 |[],_,h=>h
 |i::l,s,h=>Jd.star l (s:=starS b s i) (h.join _ _ _ _)
def K9{J:Type}{N:Nat}{b:List Int}(kk:List Int->Int->Int->List Int->Int->Int->Int->Int->Int->Int->Option J)(t0 t1 kd:Int){c:Nat}(hc:c<=4):∀(M i:Nat) (s:S),i<=c->Jd b ((c:Int)+2) s->c-i<M ->
  Z23L N kk M s.2.2.2 kd ((c:Int)+2) (i:Int) b s.1.1 s.1.2 t0 t1 s.2.1 s.2.2.1=kk (((List.range c).drop i).foldl (chainS b) s).2.2.2 kd ((c:Int)+2) b (((List.range c).drop i).foldl (chainS b) s).1.1 (((List.range c).drop i).foldl (chainS b) s).1.2 t0 t1 s.2.1 s.2.2.1:=by
 intro M;induction M with
 |zero=>intro i s _ _ h;omega
 |succ M ih =>
  intro i s hi hs hM;simp only[Z23L,Z24];have w2:ab ((i:Int)+2)=(i:Int)+2:=aL (by omega) (by omega);have w1:ab ((i:Int)+1)=(i:Int)+1:=aL (by omega) (by omega);rw[w2];by_cases h:i<c;·have hP:=hs.P (i:=(i:Int)) (j:=(i:Int)+1) (x:=1) (y:=1) (by omega) (by omega) (by omega) (by omega);have es:((s.1.1,s.1.2):Int×Int)=s.1:=rfl;have em:((s.2.1,(s.2.2.1,s.2.2.2)):Int×Int×List Int)=s.2:=rfl;rw[ct (dt (by omega)),es,em,w1,ct hP,kV h,List.foldl_cons];exact ih (i+1) (chainS b s i) h (hs.join _ _ _ _) (by omega)
  ·rw[cf (df (by omega)),List.drop_of_length_le (by rw[List.length_range];omega)];rfl
def La{J:Type}{N:Nat}{b:List Int}(kk:List Int->Int->Int->Int->Int->Int->List Int->Int->Int->Option J)(t0 t1:Int){c:Nat}(hc:c<=4):∀(M i:Nat) (s:S),i<=c->Jd b ((c:Int)+1) s->c-i<M ->
  Z53L N kk M s.2.2.2 ((c:Int)+1) (i:Int) b s.1.1 s.1.2 t0 t1 s.2.1 s.2.2.1=kk (((List.range c).drop i).foldl (chainS b) s).2.2.2 ((c:Int)+1) t0 t1 s.2.1 s.2.2.1 b (((List.range c).drop i).foldl (chainS b) s).1.1 (((List.range c).drop i).foldl (chainS b) s).1.2:=by
 intro M;induction M with
 |zero=>intro i s _ _ h;omega
 |succ M ih =>
  intro i s hi hs hM;simp only[Z53L,Z54];have w1:ab ((i:Int)+1)=(i:Int)+1:=aL (by omega) (by omega);rw[w1];by_cases h:i<c;·have hP:=hs.P (i:=(i:Int)) (j:=(i:Int)+1) (x:=1) (y:=1) (by omega) (by omega) (by omega) (by omega);have es:((s.1.1,s.1.2):Int×Int)=s.1:=rfl;have em:((s.2.1,(s.2.2.1,s.2.2.2)):Int×Int×List Int)=s.2:=rfl;rw[ct (dt (by omega)),es,em,ct hP,kV h,List.foldl_cons];exact ih (i+1) (chainS b s i) h (hs.join _ _ _ _) (by omega)
  ·rw[cf (df (by omega)),List.drop_of_length_le (by rw[List.length_range];omega)];rfl
def Lc{J:Type}{N:Nat}{b:List Int}(kk:List Int->Int->Int->Int->Int->List Int->Int->Int->Option J)(t0 t1:Int):∀(M i:Nat) (s:S),i<=4->Jd b 4 s->4-i<M ->
  Z43L N kk M s.2.2.2 (i:Int) b s.1.1 s.1.2 t0 t1 s.2.1 s.2.2.1=kk (((List.range 4).drop i).foldl (starS b) s).2.2.2 t0 t1 s.2.1 s.2.2.1 b (((List.range 4).drop i).foldl (starS b) s).1.1 (((List.range 4).drop i).foldl (starS b) s).1.2:=by
 intro M;induction M with
 |zero=>intro i s _ _ h;omega
 |succ M ih =>
  intro i s hi hs hM;simp only[Z43L,Z44];have w1:ab ((i:Int)+1)=((i+1:Nat):Int):=bA (by rw[bD];omega);by_cases h:i<4;·have hP:=hs.P (i:=0) (j:=(i:Int)) (x:=1) (y:=1) (by omega) (by omega) (by omega) (by omega);have es:((s.1.1,s.1.2):Int×Int)=s.1:=rfl;have em:((s.2.1,(s.2.2.1,s.2.2.2)):Int×Int×List Int)=s.2:=rfl;rw[ct (dt (by omega)),es,em,w1,ct hP,kV h,List.foldl_cons];exact ih (i+1) (starS b s i) h (hs.join _ _ _ _) (by omega)
  ·rw[cf (df (by omega)),List.drop_of_length_le (by rw[List.length_range];omega)];rfl
def Ld{b:List Int}{r:Int×Int}(h:bU b r=true)(k:Int){n:Nat}(h1:1<=n)(h4:n<=4):∃q:Int,1<=q/\q<=4/\Jd b q (tree b r k n).1:=by
 have z:Jd b (n:Int) (r,aD.g (n:Int)):=Jd.zero h (by omega) (by omega);have c:∀c,Jd b (n:Int) (chainG b r n c):=λc=>Jd.chain (List.range c) z;unfold tree;split;·exact⟨n,by omega,by omega,(c _).join _ _ _ _⟩
 split
 ·split;·exact⟨n,by omega,by omega,(c _).join _ _ _ _⟩
  ·exact⟨n,by omega,by omega,(c _).join _ _ _ _⟩
 split;·exact⟨n,by omega,by omega,z⟩
 split;·exact⟨2,by omega,by omega,(Jd.zero h (by omega) (by omega)).join _ _ _ _⟩
 split;·exact⟨4,by omega,by omega,Jd.star _ (Jd.zero h (by omega) (by omega))⟩
 split;·exact⟨4,by omega,by omega,(((Jd.zero h (by omega) (by omega):Jd b 4 (r,aD.g 4)).join 0 1 1 1).join 1 2 2 1).join 2 3 1 1⟩
 split;·exact⟨3,by omega,by omega,(Jd.zero h (by omega) (by omega)).join _ _ _ _⟩
 ·exact⟨n,by omega,by omega,c _⟩
def facts{b:List Int}{r:Int×Int}{most:Int}(h:bU b r=true)(h1:1<=most)(h4:most<=4):∃q:Int,1<=q/\q<=4/\Jd b q ((g b r most).1,(g b r most).2.1):=by have k0:=ao.keep (n:=11) h;have k1:=ao.keep (n:=most) k0;have rn:=ao.range (b:=b) (r:=(ao.g b r 11).1) (n:=most) h1 (by omega);obtain⟨q,h1,h2,h3⟩:=Ld k1 (Fw.spec_dTree.k2 (Fw.spec_dTree.k1 (ao.g b r 11).2 (1+(ao.g b (ao.g b r 11).1 most).2) most) most) (n:=(1+(ao.g b (ao.g b r 11).1 most).2).toNat) (by omega) (by omega);exact⟨q,h1,h2,h3⟩
def z7{J:Type}{N:Nat}(most k n:Int)(b:List Int)(r1 r2 t0 t1:Int)(kn:Int->Int->Int->List Int->Int->Int->Int->Int->Option J):Z7 N most k n b r1 r2 t0 t1 kn=kn most (k1 k n most) n b r1 r2 t0 t1:=by simp only[Z7,aC,k1];cases decide (4<=k)<;>cases decide (k<=6)<;>cases decide (n<2)<;>cases decide (k=7)<;>cases decide (most<2)<;>rfl
def z9{J:Type}{N:Nat}(most k n:Int)(b:List Int)(r1 r2 t0 t1:Int)(kn:Int->Int->List Int->Int->Int->Int->Int->Option J):Z9 N most k n b r1 r2 t0 t1 kn=kn (k2 k most) n b r1 r2 t0 t1:=by simp only[Z9,aC,k2];cases decide (k=8)<;>cases decide (most<4)<;>cases decide (k=9)<;>cases decide (k=10)<;>cases decide (most<3)<;>rfl
def tx{c:UInt8}{n:Nat}(h:n<=4):Nat.blt ((⟨#[c]⟩:ByteArray).size+(bM.g (n:Int)).size) 4611686018427387904=true:=by
 have e:(bM.g (n:Int)).size=(Lib.itoa (n:Int)).length:=by show(iJ (Lib.itoa (n:Int))).size=_;exact Kh _
 have h2:=Lib.itoa_length_le (n:Int) (by omega) (by omega);refine Nat.ble_eq_true_of_le ?_;rw[e];show 1+_+1<=_;omega
def Le{n:Nat}(h:n<=4):bM.P (n:Int)=true:=by show jp (n:Int)=true;simp only[jp,Bool.and_eq_true,decide_eq_true_eq];omega
def Lg{n:Nat}(h:n<=4):aD.P (n:Int)=true:=by simp only[aD.P,bX,Bool.and_eq_true,decide_eq_true_eq];omega
def xX{J:Type}{N:Nat}(hN:20<=N){b:List Int}{r:Int×Int}(h:bU b r=true)(kd:Int){n:Nat}(h1:1<=n)(h4:n<=4)(hk:kd=4\/kd=5->2<=n)(t0 t1:Int)(kr:List Int->ByteArray->Int->Int->List Int->Int->Int->Option J) :
  Z10 N kd (n:Int) b r.1 r.2 t0 t1 kr=kr (tree b r kd n).1.2.2.2 (tree b r kd n).2 (tree b r kd n).1.2.1 (tree b r kd n).1.2.2.1 b (tree b r kd n).1.1.1 (tree b r kd n).1.1.2:=by
 have fm:bM.P (n:Int)=true:=Le h4;have fg:bM.g (n:Int)=fl n:=rfl;have zP:=Lg h4;have zJ:Jd b (n:Int) (r,aD.g (n:Int)):=Jd.zero h (by omega) (by omega);have w2:ab ((n:Int)-2)=(n:Int)-2:=aL (by omega) (by omega);have w1:ab ((n:Int)-1)=(n:Int)-1:=aL (by omega) (by omega);have er:((r.1,r.2):Int×Int)=r:=rfl;have big:∀{V:Type} (hn:2<=n) (kn:List Int->Int->Int->List Int->Int->Int->Int->Int->Int->Int->Option V),Z20 N (aD.g (n:Int)).2.2 kd (n:Int) b r.1 r.2 t0 t1 (aD.g (n:Int)).1 (aD.g (n:Int)).2.1 kn =
   kn (chainG b r n (n-2)).2.2.2 kd (n:Int) b (chainG b r n (n-2)).1.1 (chainG b r n (n-2)).1.2 t0 t1 (n:Int) (n:Int):=by
  intro V hn kn;obtain⟨c,rfl⟩:∃c,n=c+2:=⟨n-2,by omega⟩;simp only[Z20,Z21,Z22,Z23];have e:((c+2:Nat):Int)=(c:Int)+2:=by omega
  rw[e]at zJ ⊢;refine(K9 kn t0 t1 kd (by omega) N 0 (r,aD.g ((c:Int)+2)) (Nat.zero_le _) zJ (by omega)).trans ?_;rw[List.drop_zero];unfold chainG;rw[e];rfl
 by_cases c4:kd=4
 ·have hn:=hk (.inl c4);have jc:Jd b (n:Int) (chainG b r n (n-2)):=Jd.chain _ zJ;have pj:=jc.P (i:=(n:Int)-2) (j:=(n:Int)-1) (x:=2) (y:=1) (by omega) (by omega) (by omega) (by omega);have em:(((n:Int),((n:Int),(chainG b r n (n-2)).2.2.2)):Int×Int×List Int)=(chainG b r n (n-2)).2:=by rw[show(chainG b r n (n-2)).2=((chainG b r n (n-2)).2.1,(chainG b r n (n-2)).2.2.1,(chainG b r n (n-2)).2.2.2)from rfl,jc.hn,jc.hr]
  have es:(((chainG b r n (n-2)).1.1,(chainG b r n (n-2)).1.2):Int×Int)=(chainG b r n (n-2)).1:=rfl;have et:tree b r kd n=(endB b (chainG b r n (n-2)) n 2 1,⟨#[66]⟩++fl n):=if_pos c4;have e1:(endB b (chainG b r n (n-2)) n 2 1).2.1=(n:Int):=jc.hn;have e2:(endB b (chainG b r n (n-2)) n 2 1).2.2.1=(n:Int):=jc.hr;have sz:=tx (c:=66) h4;rw[fg]at sz;simp only[Z10,Z11,Z12,Z13,Z14,Z15,Z16,Z17,Z18,Z19,aC,dt c4,zP,cond_true];rw[big hn];simp only[Z25,aC,dt c4,w1,w2,em,es,pj,fm,fg,sz,cond_true,fD,et,e1,e2];rfl
 by_cases c5:kd=5
 ·have hn:=hk (.inr c5);have jc:Jd b (n:Int) (chainG b r n (n-2)):=Jd.chain _ zJ;have pj:=jc.P (i:=(n:Int)-2) (j:=(n:Int)-1) (x:=2) (y:=1) (by omega) (by omega) (by omega) (by omega);have pj':=jc.P (i:=(n:Int)-2) (j:=(n:Int)-1) (x:=1) (y:=2) (by omega) (by omega) (by omega) (by omega);have em:(((n:Int),((n:Int),(chainG b r n (n-2)).2.2.2)):Int×Int×List Int)=(chainG b r n (n-2)).2:=by rw[show(chainG b r n (n-2)).2=((chainG b r n (n-2)).2.1,(chainG b r n (n-2)).2.2.1,(chainG b r n (n-2)).2.2.2)from rfl,jc.hn,jc.hr]
  have es:(((chainG b r n (n-2)).1.1,(chainG b r n (n-2)).1.2):Int×Int)=(chainG b r n (n-2)).1:=rfl;have e1:∀x y,(endB b (chainG b r n (n-2)) n x y).2.1=(n:Int):=λ_ _=>jc.hn;have e2:∀x y,(endB b (chainG b r n (n-2)) n x y).2.2.1=(n:Int):=λ_ _=>jc.hr;have sz:=tx (c:=66) h4;have sz':=tx (c:=67) h4;rw[fg]at sz sz';simp only[Z10,Z11,Z12,Z13,Z14,Z15,Z16,Z17,Z18,Z19,aC,df c4,dt c5,zP,cond_true,cond_false];rw[big hn];by_cases c2:n=2
  ·have et:tree b r kd n=(endB b (chainG b r n (n-2)) n 2 1,⟨#[66]⟩++fl n):=(if_neg c4).trans ((if_pos c5).trans (if_pos c2));have c2':(n:Int)=2:=by omega
   simp only[Z25,aC,df c4,dt c2',w1,w2,em,es,pj,fm,fg,sz,cond_true,cond_false,fD,et,e1,e2];rfl
  ·have et:tree b r kd n=(endB b (chainG b r n (n-2)) n 1 2,⟨#[67]⟩++fl n):=(if_neg c4).trans ((if_pos c5).trans (if_neg c2));have c2':¬ (n:Int)=2:=by omega
   simp only[Z25,aC,df c4,df c2',w1,w2,em,es,pj',fm,fg,sz',cond_true,cond_false,fD,et,e1,e2];rfl
 simp only[Z10,Z11,Z12,Z13,Z14,Z15,Z16,Z26,Z27,Z28,aC,df c4,df c5,cond_false];by_cases c6:kd=6;·have et:tree b r kd n=((r,aD.g (n:Int)),qA.getD n ByteArray.empty):=(if_neg c4).trans ((if_neg c5).trans (if_pos c6));have ib:av (n:Int) qA.length=true:=aR (by show n<6;omega);simp only[qA]at ib;simp only[Z29,aC,dt c6,zP,ib,cond_true,fD,et,Int.toNat_natCast];rfl
 simp only[df c6,cond_false,Z30,Z31,Z32,aC];by_cases c7:kd=7;·have et:tree b r kd n=(aV.g b r (aD.g 2) 0 1 3 1,⟨#[71,50]⟩):=(if_neg c4).trans ((if_neg c5).trans ((if_neg c6).trans (if_pos c7)));have z2:Jd b 2 (r,aD.g 2):=Jd.zero h (by omega) (by omega);have pj:=z2.P (i:=0) (j:=1) (x:=3) (y:=1) (by omega) (by omega) (by omega) (by omega);have pz:aD.P 2=true:=rfl;simp only[Z33,aC,dt c7,pz,er,pj,cond_true,et];rfl
 simp only[df c7,cond_false,Z34,Z35,Z36,aC];have z4:Jd b 4 (r,aD.g 4):=Jd.zero h (by omega) (by omega);have pz4:aD.P 4=true:=rfl;by_cases c8:kd=8;·have et:tree b r kd n=(starG b r,⟨#[68,52]⟩):=(if_neg c4).trans ((if_neg c5).trans ((if_neg c6).trans ((if_neg c7).trans (if_pos c8))));have js:Jd b 4 (starG b r):=Jd.star _ z4;simp only[Z37,Z38,Z39,Z40,Z41,Z42,Z43,aC,dt c8,pz4,cond_true,et];refine(Lc _ t0 t1 N 1 (r,aD.g 4) (by omega) z4 (by omega)).trans ?_;simp only[Z45];rw[js.hn,js.hr];rfl
 simp only[df c8,cond_false,Z46,aC];by_cases c9:kd=9;·have et:tree b r kd n=(f3 b r,⟨#[70,52]⟩):=(if_neg c4).trans ((if_neg c5).trans ((if_neg c6).trans ((if_neg c7).trans ((if_neg c8).trans (if_pos c9)))));have ja:Jd b 4 (f1 b r):=z4.join _ _ _ _;have jb:Jd b 4 (f2 b r):=ja.join _ _ _ _;have p1:=z4.P (i:=0) (j:=1) (x:=1) (y:=1) (by omega) (by omega) (by omega) (by omega);have p2:=ja.P (i:=1) (j:=2) (x:=2) (y:=1) (by omega) (by omega) (by omega) (by omega);have p3:=jb.P (i:=2) (j:=3) (x:=1) (y:=1) (by omega) (by omega) (by omega) (by omega);have g1:aV.g b r (aD.g 4) 0 1 1 1=f1 b r:=rfl;have g2:aV.g b (f1 b r).1 (f1 b r).2 1 2 2 1=f2 b r:=rfl;have g3:aV.g b (f2 b r).1 (f2 b r).2 2 3 1 1=f3 b r:=rfl;have s1:(((aD.g 4).1,((aD.g 4).2.1,(f1 b r).2.2.2)):Int×Int×List Int)=(f1 b r).2:=rfl;have s2:(((aD.g 4).1,((aD.g 4).2.1,(f2 b r).2.2.2)):Int×Int×List Int)=(f2 b r).2:=rfl;simp only[aC,dt c9,pz4,er,p1,g1,s1,p2,g2,s2,p3,g3,cond_true,et];rfl
 simp only[df c9,cond_false];by_cases c10:kd=10;·have et:tree b r kd n=(aV.g b r (aD.g 3) 0 1 1 1,⟨#[65,49,32,65,50]⟩):=(if_neg c4).trans ((if_neg c5).trans ((if_neg c6).trans ((if_neg c7).trans ((if_neg c8).trans ((if_neg c9).trans (if_pos c10))))));have z3:Jd b 3 (r,aD.g 3):=Jd.zero h (by omega) (by omega);have pj:=z3.P (i:=0) (j:=1) (x:=1) (y:=1) (by omega) (by omega) (by omega) (by omega);have pz:aD.P 3=true:=rfl;simp only[aC,dt c10,pz,er,pj,cond_true,et];rfl
 have et:tree b r kd n=(chainG b r n (n-1),⟨#[65]⟩++fl n):=(if_neg c4).trans ((if_neg c5).trans ((if_neg c6).trans ((if_neg c7).trans ((if_neg c8).trans ((if_neg c9).trans (if_neg c10))))));have jc:Jd b (n:Int) (chainG b r n (n-1)):=Jd.chain _ zJ;have sz:=tx (c:=65) h4;rw[fg]at sz;simp only[df c10,cond_false,Z47,Z48,Z49,aC,zP,cond_true,et];obtain⟨c,rfl⟩:∃c,n=c+1:=⟨n-1,by omega⟩;simp only[Z50,Z51,Z52,Z53];have e:((c+1:Nat):Int)=(c:Int)+1:=by omega
 have hc:∀{V:Type} (kn:List Int->Int->Int->Int->Int->Int->List Int->Int->Int->Option V),Z53L N kn N (aD.g ((c+1:Nat):Int)).2.2 ((c+1:Nat):Int) 0 b r.1 r.2 t0 t1 (aD.g ((c+1:Nat):Int)).1 (aD.g ((c+1:Nat):Int)).2.1 =
   kn (chainG b r (c+1) c).2.2.2 ((c+1:Nat):Int) t0 t1 ((c+1:Nat):Int) ((c+1:Nat):Int) b (chainG b r (c+1) c).1.1 (chainG b r (c+1) c).1.2:=by
  intro V kn;rw[e]at zJ ⊢;refine(La kn t0 t1 (by omega) N 0 (r,aD.g ((c:Int)+1)) (Nat.zero_le _) zJ (by omega)).trans ?_;rw[List.drop_zero];unfold chainG;rw[e];rfl
 rw[hc];have hn1:(chainG b r (c+1) (c+1-1)).2.1=((c+1:Nat):Int):=jc.hn;have hr1:(chainG b r (c+1) (c+1-1)).2.2.1=((c+1:Nat):Int):=jc.hr;simp only[Z55,aC,fm,fg,sz,cond_true,fD,hn1,hr1];rfl
def ok:Spec:=λu b r most hb hp=>⟨20,λN hN=>by
 simp only[P,Bool.and_eq_true,cy]at hp;obtain⟨h,hm1,hm4⟩:=hp;have h0:=ao.keep (n:=11) h;have hh:=ao.keep (n:=most) h0;have p0:ao.P b r 11=true:=h;have p1:ao.P b (ao.g b r 11).1 most=true:=h0;have rk:=ao.range (b:=b) (r:=r) (n:=11) (by omega) (by omega);have rn:=ao.range (b:=b) (r:=(ao.g b r 11).1) (n:=most) hm1 (by omega);have er:((r.1,r.2):Int×Int)=r:=rfl;have e1:(((ao.g b r 11).1.1,(ao.g b r 11).1.2):Int×Int)=(ao.g b r 11).1:=rfl;have w1:ab (1+(ao.g b (ao.g b r 11).1 most).2)=1+(ao.g b (ao.g b r 11).1 most).2:=aL (by omega) (by omega);simp only[Z0,Z1,Z2,Z3,Z4,Z5,aC,er,p0,e1,p1,w1,cond_true,Z6,z7,Z8,z9];have eg:g b r most=((tree b (ao.g b (ao.g b r 11).1 most).1 (Fw.spec_dTree.k2 (Fw.spec_dTree.k1 (ao.g b r 11).2 (1+(ao.g b (ao.g b r 11).1 most).2) most) most) (1+(ao.g b (ao.g b r 11).1 most).2).toNat).1.1,
   (tree b (ao.g b (ao.g b r 11).1 most).1 (Fw.spec_dTree.k2 (Fw.spec_dTree.k1 (ao.g b r 11).2 (1+(ao.g b (ao.g b r 11).1 most).2) most) most) (1+(ao.g b (ao.g b r 11).1 most).2).toNat).1.2,
   (tree b (ao.g b (ao.g b r 11).1 most).1 (Fw.spec_dTree.k2 (Fw.spec_dTree.k1 (ao.g b r 11).2 (1+(ao.g b (ao.g b r 11).1 most).2) most) most) (1+(ao.g b (ao.g b r 11).1 most).2).toNat).2):=rfl
 rw[eg];generalize(ao.g b (ao.g b r 11).1 most).1=r2 at hh;generalize hq:1+(ao.g b (ao.g b r 11).1 most).2=q;obtain⟨n,rfl⟩:=Int.eq_ofNat_of_zero_le (show 0<=q by omega);have hk:Fw.spec_dTree.k2 (Fw.spec_dTree.k1 (ao.g b r 11).2 (n:Int) most) most=4\/Fw.spec_dTree.k2 (Fw.spec_dTree.k1 (ao.g b r 11).2 (n:Int) most) most=5->2<=n:=by
  intro hx;by_cases h2:2<=n;·exact h2
  ·exfalso;generalize(ao.g b r 11).2=k at rk hx;have:¬ ((decide (4<=k)&&(decide (k<=6)&&decide ((n:Int)<2)))||(decide (k=7)&&decide (most<2)))=true->¬ (4<=k/\k<=6):=by simp;omega
   unfold Fw.spec_dTree.k2 Fw.spec_dTree.k1 at hx;by_cases hb:((decide (4<=k)&&(decide (k<=6)&&decide ((n:Int)<2)))||(decide (k=7)&&decide (most<2)))=true;·rw[hb]at hx;simp at hx
   ·have hb':=this hb;simp only[Bool.not_eq_true]at hb;rw[hb]at hx;simp only[cond_false]at hx;cases hc:((decide (k=8)&&decide (most<4))||((decide (k=9)&&decide (most<4))||(decide (k=10)&&decide (most<3))))<;>rw[hc]at hx<;>simp at hx<;>omega
 rw[xX (by omega) hh _ (by omega) (by omega) hk];rw[Int.toNat_natCast]⟩
end spec_dTree
end
end Go.Fw
namespace Go.Fw
def eL:List (Nat×Nat×Int×Int)->List (Int×Int×List Int)->List (Int×Int×List Int)
 |[],ts=>ts
 | (i,j,a,c)::es,ts=>eL es (ts.flatMap λt=>[aV.joinM true t (i:Int) (j:Int) a c,aV.joinM false t (i:Int) (j:Int) a c])
def lj{ts:List (Int×Int×List Int)}{t:Int×Int×List Int}(h:t∈ts)(s:Bool)(i j:Nat)(a c:Int):aV.joinM s t (i:Int) (j:Int) a c∈ts.flatMap λt=>[aV.joinM true t (i:Int) (j:Int) a c,aV.joinM false t (i:Int) (j:Int) a c]:=by refine List.mem_flatMap.2 ⟨t,h, ?_⟩;cases s<;>simp
def iN(n:Nat):List (Nat×Nat×Int×Int):=(List.range n).map λi=>(i,i+1,1,1)
def CM:List (Nat×Nat×Int×Int):=[(0,1,1,1),(0,2,1,1),(0,3,1,1)]
def fE:List (Nat×Nat×Int×Int):=[(0,1,1,1),(1,2,2,1),(2,3,1,1)]
def CN:∀(es fs:List (Nat×Nat×Int×Int)) (ts:List (Int×Int×List Int)),eL (es++fs) ts=eL fs (eL es ts)
 |[],_,_=>rfl
 | (i,j,a,c)::es,fs,ts=>CN es fs _
def CO{b:List Int}:∀(l:List Nat) {s:spec_dTree.S}{ts:List (Int×Int×List Int)},s.2∈ts->(l.foldl (spec_dTree.chainS b) s).2∈eL (l.map λi=>(i,i+1,1,1)) ts
 |[],_,_,h=>h
 |i::l,s,ts,h=>CO l (s:=spec_dTree.chainS b s i) (lj h (cO.g b s.1 2).2 i (i+1) 1 1)
def CP{b:List Int}:∀(l:List Nat) {s:spec_dTree.S}{ts:List (Int×Int×List Int)},s.2∈ts->(l.foldl (spec_dTree.starS b) s).2∈eL (l.map λi=>(0,i,1,1)) ts
 |[],_,_,h=>h
 |i::l,s,ts,h=>CP l (s:=spec_dTree.starS b s i) (lj h (cO.g b s.1 2).2 0 i 1 1)
def qB{b:List Int}{r:Int×Int}(n c:Nat):(spec_dTree.chainG b r n c).2∈eL (iN c) [aD.g (n:Int)]:=CO (List.range c) (by simp)
def qC{b:List Int}{r:Int×Int}(c:Nat)(x y:Int):(spec_dTree.endB b (spec_dTree.chainG b r (c+2) c) (c+2) x y).2∈eL (iN c++[(c,c+1,x,y)]) [aD.g ((c+2:Nat):Int)]:=by
 rw[CN];have e1:((c+2:Nat):Int)-2=(c:Int):=by omega
 have e2:((c+2:Nat):Int)-1=((c+1:Nat):Int):=by omega
 have:=lj (qB (b:=b) (r:=r) (c+2) c) (cO.g b (spec_dTree.chainG b r (c+2) c).1 2).2 c (c+1) x y;unfold spec_dTree.endB aV.g;rw[e1,e2];exact this
def Lh{b:List Int}{r:Int×Int}:(aV.g b r (aD.g 2) 0 1 3 1).2∈eL [(0,1,3,1)] [aD.g ((2:Nat):Int)]:=lj (ts:=[aD.g ((2:Nat):Int)]) List.mem_cons_self (cO.g b r 2).2 0 1 3 1
def Li{b:List Int}{r:Int×Int}:(aV.g b r (aD.g 3) 0 1 1 1).2∈eL [(0,1,1,1)] [aD.g ((3:Nat):Int)]:=lj (ts:=[aD.g ((3:Nat):Int)]) List.mem_cons_self (cO.g b r 2).2 0 1 1 1
def Lj{b:List Int}{r:Int×Int}:(spec_dTree.starG b r).2∈eL CM [aD.g ((4:Nat):Int)]:=CP [1,2,3] (s:=(r,aD.g 4)) (ts:=[aD.g ((4:Nat):Int)]) List.mem_cons_self
def Lk{b:List Int}{r:Int×Int}:(spec_dTree.f3 b r).2∈eL fE [aD.g ((4:Nat):Int)] :=
 lj (lj (lj (ts:=[aD.g ((4:Nat):Int)]) List.mem_cons_self (cO.g b r 2).2 0 1 1 1) (cO.g b (spec_dTree.f1 b r).1 2).2 1 2 2 1) (cO.g b (spec_dTree.f2 b r).1 2).2 2 3 1 1
def Ll{k n most:Int}(h4:1+n<=most)(h0:0<=n):(4<=spec_dTree.k2 (spec_dTree.k1 k (1+n) most) most->spec_dTree.k2 (spec_dTree.k1 k (1+n) most) most<=6->2<=(1+n).toNat) /\
  (spec_dTree.k2 (spec_dTree.k1 k (1+n) most) most=8->4<=most)/\(spec_dTree.k2 (spec_dTree.k1 k (1+n) most) most=9->4<=most):=by
 refine⟨λha hb=>?_,λha=>?_,λha=>?_⟩
 ·unfold spec_dTree.k2 spec_dTree.k1 at ha hb;refine Classical.byContradiction λhc=>?_;by_cases q:4<=k/\k<=6;·rw[dt q.1,dt q.2,dt (show 1+n<2 by omega)]at ha hb;simp at ha hb
  ·have e:(decide (4<=k)&&(decide (k<=6)&&decide (1+n<2)))=false:=by simp only[Bool.and_eq_false_iff,decide_eq_false_iff_not];omega
   rw[e,Bool.false_or]at ha hb;revert ha hb;cases(decide (k=7)&&decide (most<2))<;>simp only[cond_true,cond_false]<;>(generalize((_:Bool)||_)=q;cases q<;>simp only[cond_true,cond_false]<;>intros<;>omega)
 ·refine Classical.byContradiction λhc=>?_;revert ha;generalize spec_dTree.k1 k (1+n) most=k';unfold spec_dTree.k2;by_cases e:k'=8;·subst e;rw[dt (show most<4 by omega)];simp
  ·cases hq:((decide (k'=8)&&decide (most<4))||((decide (k'=9)&&decide (most<4))||(decide (k'=10)&&decide (most<3))))<;>simp[e]
 ·refine Classical.byContradiction λhc=>?_;revert ha;generalize spec_dTree.k1 k (1+n) most=k';unfold spec_dTree.k2;by_cases e:k'=9;·subst e;rw[dt (show most<4 by omega)];simp
  ·cases hq:((decide (k'=8)&&decide (most<4))||((decide (k'=9)&&decide (most<4))||(decide (k'=10)&&decide (most<3))))<;>simp[e]
end Go.Fw
namespace Go.Fw
section
variable {J : Type}
namespace bw
def P(m:Int×Int×List Int)(i j:Int):Bool:=nX m i j
def g(m:Int×Int×List Int)(i j:Int):Int:=nY m i j
def Z0{J:Type}(N:Nat)(a:MT)(b c:Int)(kr:Int->Option J):Option J :=
 cond (lk N (av (ab ((ab (b*a.1))+c)) a.2.2.length)) (
  kr (a.2.2.getD (ab ((ab (b*a.1))+c)).toNat 0)) none
def Spec:Prop:=∀ (v0:MT) (v1 v2:Int),Ty.bd (.pair (.int .i64) (.pair (.int .i64) (.sl 0 (.int .i64)))) v0->P v0 v1 v2=true->∃N0,∀N,N0<=N->Z0 N v0 v1 v2 (λv6=>some ((),(v6,())))=some ((),((g v0 v1 v2),()))
def ok:Spec:=λm i j hb hp=>⟨0,λN hN=>by obtain⟨h1,h2,h3⟩:=B8 hb.2.2.1 hp;simp only[Z0,g,nY,h1];rw[ct (xv h2 h3)]⟩
end bw
namespace dV
def g(l:List Int)(n:Int):Bool:=l.any λx=>decide (x=n)
def Z1{J:Type}(N:Nat)(a:LI)(b:Int)(kn:LI->Int->Option J):Option J :=
 kn a b
def Z4{J:Type}(N:Nat)(a:LI)(b:Int)(kn:LI->I2 (Option J)):Option J :=
 kn a b 0
def Z7{J:Type}(N:Nat)(a:LI)(c b:Int)(kn:LI->I2 (Option J))(k0:Option J)(kr:Bool->Option J):Option J :=
 cond (lk N (decide (b<(a.length:Int))))
 (
  cond (lk N (av b a.length)) (
   cond (lk N (decide ((a.getD b.toNat 0)=c)))
   (
    kr true)
   (
    kn a c (ab (b+1)))) none)
 (
  k0)
def Z6L{J:Type}(N:Nat)(k0:Option J)(kr:Bool->Option J):Nat->LI->Int->Int->Option J
 |0,_,_,_=>none
 |M+1,a,b,c=>Z7 N a b c (λa b c=>Z6L N k0 kr M a b c) k0 kr
def Z6 N a b c k0 kr:=(Z6L N k0 kr N a b c:Option J)
def Z5 N a b c kn kr:=(Z6 N a b c kn kr:Option J)
def Z3 N a b kn kr:=(Z4 N a b (λa b c=>Z5 N a b c kn kr):Option J)
def Z8{J:Type}(N:Nat) (kr:Bool->Option J):Option J :=
 kr false
def Z2 N a b kr:=(Z3 N a b (Z8 N kr) kr:Option J)
def Z0 N a b kr:=(Z1 N a b (λa b=>Z2 N a b kr):Option J)
def Spec:Prop:=∀ (v0:LI) (v1:Int),Ty.bd (.sl 0 (.int .i64)) v0->∃N0,∀N,N0<=N->Z0 N v0 v1 (λv4=>some ((),(v4,())))=some ((),((g v0 v1),()))
def loop{J:Type}(N:Nat)(kr:Bool->Option J)(n:Int)(a:List Int)(ha:a.length<=maxLen):∀(M j:Nat),j<=a.length->a.length-j<M ->
  Z6L N (kr false) kr M a n (j:Int)=kr (g (a.drop j) n):=by
 intro M;induction M with
 |zero=>intro j _ h;omega
 |succ M ih =>
  intro j hj hM;simp only[Z6L,Z7];by_cases h:j<a.length;·rw[ct (dt (by omega)),ct (aR h),Int.toNat_natCast,bA (by omega),ih (j+1) h (by omega),iH 0 h];simp only[g,List.any_cons,aC];cases decide (a.getD j 0=n)<;>rfl
  ·rw[cf (df (by omega)),List.drop_of_length_le (by omega)];rfl
def ok:Spec:=λa n ha=>⟨a.length+1,λN hN=>by simp only[Z1,Z4,Z7,Z6,Z5,Z3,Z8,Z2,Z0];exact(loop N (λt=>some ((),(t,()))) n a ha.1 N 0 (by omega) (by omega)).trans rfl⟩
def g_iff{l:List Int}{n:Int}:g l n=true↔n∈l:=by simp[g]
end dV
namespace cg
def P(m:Int×Int×List Int)(i:Int):Bool:=az m&&(decide (0<=i)&&decide (i<m.1))
def g(m:Int×Int×List Int)(i:Int):List Int×List Int:=(aB (kX m i.toNat).1,aB (kX m i.toNat).2)
def Z1{J:Type}(N:Nat)(a:MT)(b:Int)(kn:I3 (LI->Option J)):Option J :=
 kn b a.1 a.2.1 a.2.2
def Z3{J:Type}(N:Nat)(a b c:Int)(d:LI)(kn:LI->I3 (LI->Option J)):Option J :=
 kn ([a]:List Int) a b c d
def Z5{J:Type}(N:Nat)(a:LI)(b c d:Int)(e:LI)(kn:LI->LI->I2 (LI->Option J)):Option J :=
 kn a ([b]:List Int) c d e
def Z8{J:Type}(N:Nat)(a b:LI)(c d:Int)(e:LI)(kn:LI->LI->I3 (LI->Option J)):Option J :=
 kn a b 0 c d e
def Z12{J:Type}(N:Nat)(a b:LI)(c d e:Int)(f:LI)(kn:LI->LI->I3 (LI->Option J))(k0:LI->LI->Option J):Option J :=
 cond (lk N (decide (c<(a.length:Int))))
 (
  kn a b c d e f)
 (
  k0 a b)
def Z16{J:Type}(N:Nat)(a b:LI)(c d e:Int)(f:LI)(kn:LI->LI->I4 (LI->Option J)):Option J :=
 kn a b c 0 d e f
def Z19{J:Type}(N:Nat)(a h:LI)(c b d e:Int)(f:LI)(kn:LI->LI->I4 (LI->Option J))(k2:LI->LI->I3 (LI->Option J)):Option J :=
 cond (lk N (decide (b<d)))
 (
  cond (lk N (av c a.length)) (
   cond (lk N (bw.P (d,(e,f)) (a.getD c.toNat 0) b)) (
    cond (lk N (!(decide ((bw.g (d,(e,f)) (a.getD c.toNat 0) b)=0))))
    (
     cond (!(lk N ((dV.g a b))))
     (
      cond (lk N (Nat.blt (a.length+([b]:List Int).length) 1099511627776)) (
       cond (lk N (av c (a++([b]:List Int)).length)) (
        cond (lk N (Nat.blt (h.length+([((a++([b]:List Int)).getD c.toNat 0)]:List Int).length) 1099511627776)) (
         kn (a++([b]:List Int)) (h++([((a++([b]:List Int)).getD c.toNat 0)]:List Int)) c (ab (b+1)) d e f) none) none) none)
     (
      kn a h c (ab (b+1)) d e f))
    (
     kn a h c (ab (b+1)) d e f)) none) none)
 (
  k2 a h c d e f)
def Z18L{J:Type}(N:Nat)(k2:LI->LI->I3 (LI->Option J)):Nat->LI->LI->Int->Int->Int->Int->LI->Option J
 |0,_,_,_,_,_,_,_=>none
 |M+1,a,b,c,d,e,f,g=>Z19 N a b c d e f g (λa b c d e f g=>Z18L N k2 M a b c d e f g) k2
def Z18 N a b c d e f g k2:=(Z18L N k2 N a b c d e f g:Option J)
def Z17 N a b c d e f g kn:=(Z18 N a b c d e f g kn:Option J)
def Z15 N a b c d e f kn:=(Z16 N a b c d e f (λa b c g d e f=>Z17 N a b c g d e f kn):Option J)
def Z14 N a b c d e f kn:=(Z15 N a b c d e f kn:Option J)
def Z20{J:Type}(N:Nat)(a b:LI)(c d e:Int)(f:LI)(kn:LI->LI->I3 (LI->Option J)):Option J :=
 kn a b (ab (c+1)) d e f
def Z13 N a b c d e f kn:=(Z14 N a b c d e f (λa b c d e f=>Z20 N a b c d e f kn):Option J)
def Z11 N a b c d e f kn k0:=(Z12 N a b c d e f (λa b c d e f=>Z13 N a b c d e f kn) k0:Option J)
def Z10L{J:Type}(N:Nat)(k0:LI->LI->Option J):Nat->LI->LI->Int->Int->Int->LI->Option J
 |0,_,_,_,_,_,_=>none
 |M+1,a,b,c,d,e,f=>Z11 N a b c d e f (λa b c d e f=>Z10L N k0 M a b c d e f) k0
def Z10 N a b c d e f k0:=(Z10L N k0 N a b c d e f:Option J)
def Z9 N a b c d e f kn:=(Z10 N a b c d e f kn:Option J)
def Z7 N a b c d e kn:=(Z8 N a b c d e (λa b f c d e=>Z9 N a b f c d e kn):Option J)
def Z21{J:Type}(N:Nat)(a b:LI)(kr:LI->LI->Option J):Option J :=
 kr a b
def Z6 N a b c d e kr:=(Z7 N a b c d e (λa b=>Z21 N a b kr):Option J)
def Z4 N a e b c d kr:=(Z5 N a e b c d (λa f b c d=>Z6 N a f b c d kr):Option J)
def Z2 N a b c d kr:=(Z3 N a b c d (λe a b c d=>Z4 N e a b c d kr):Option J)
def Z0 N b a kr:=(Z1 N b a (λa c d e=>Z2 N a c d e kr):Option J)
def Spec:Prop:=∀ (v0:MT) (v1:Int),Ty.bd (.pair (.int .i64) (.pair (.int .i64) (.sl 0 (.int .i64)))) v0->P v0 v1=true->∃N0,∀N,N0<=N->Z0 N v0 v1 (λv4 v5=>some ((),(v4,(v5,()))))=some ((),((g v0 v1).1,((g v0 v1).2,())))
def inner{J:Type}(N:Nat)(k2:List Int->List Int->Int->Int->Int->List Int->Option J)(m:Int×Int×List Int)(hd:az m=true)(i p:Nat):∀(M j:Nat) (s:List Nat×List Nat),dc m.1.toNat (ae m) i s->p<s.1.length->j<=m.1.toNat->m.1.toNat-j<M ->
  Z18L N k2 M (aB s.1) (aB s.2) (p:Int) (j:Int) m.1 m.2.1 m.2.2 =
   k2 (aB (gY (ae m) (s.1.getD p 0) ((List.range m.1.toNat).drop j) s).1) (aB (gY (ae m) (s.1.getD p 0) ((List.range m.1.toNat).drop j) s).2) (p:Int) m.1 m.2.1 m.2.2:=by
 obtain⟨n,r,hn,hr,hn1,hn5,hnr,hr8,hl⟩:=aN hd;intro M;induction M with
 |zero=>intro j s _ _ _ h;omega
 |succ M ih =>
  intro j s hs hp hj hM;have hle:=hs.le;have hlen:=hs.len;simp only[Z18L,Z19];by_cases h:j<m.1.toNat
  ·have hx:s.1.getD p 0<m.1.toNat:=hs.lt _ (bF 0 hp);have h1:Nat.blt ((aB s.1).length+([(j:Int)]).length) 1099511627776=true:=by simp[cv,Nat.blt_eq];omega
   have h2:Nat.blt ((aB s.2).length+([((aB (s.1++[j])).getD (p:Int).toNat 0)]).length) 1099511627776=true:=by simp[cv,Nat.blt_eq];omega
   rw[ct (dt (by omega)),ct (aR (by rw[cv];exact hp)),kV h,gY];simp only[Int.toNat_natCast,gX];rw[ct (show bw.P (m.1,(m.2.1,m.2.2)) _ _=true from gW hd (by omega) h),bA (by rw[bD];omega)];have hA:bw.g (m.1,(m.2.1,m.2.2)) ((s.1.getD p 0:Nat):Int) (j:Int)=ae m (s.1.getD p 0) j:=gA (by omega) _ _;by_cases ha:ae m (s.1.getD p 0) j=0;·rw[cf (nf (hA.trans ha)),if_neg (λhc=>hc.1 ha)];exact ih (j+1) s hs hp h (by omega)
   ·rw[ct (nt (λhc=>ha (hA.symm.trans hc)))];by_cases hm:j∈s.1;·rw[dO (by rw[aC,dV.g_iff.2 (Ci.2 hm)];rfl),if_neg (λhc=>hc.2 hm)];exact ih (j+1) s hs hp h (by omega)
    ·have hf:dV.g (aB s.1) (j:Int)=false:=by
      cases hc:dV.g (aB s.1) (j:Int);·rfl
      ·exact absurd (Ci.1 (dV.g_iff.1 hc)) hm
     rw[eI (by rw[aC,hf];rfl),ct h1,xG,ct (aR (by rw[cv];simp;omega)),if_pos ⟨ha,hm⟩];have e:(s.1++[j]).getD p 0=s.1.getD p 0:=iK hp;rw[gX,e,xG];rw[gX,Int.toNat_natCast,e]at h2;rw[ct h2];have:=ih (j+1) (s.1++[j],s.2++[s.1.getD p 0]) (hs.step hp h ⟨ha,hm⟩) (by simp;omega) h (by omega);simp only[e]at this;exact this
  ·rw[cf (df (by omega)),List.drop_of_length_le (by simp;omega),gY]
def loop{J:Type}(N:Nat)(hN:10<=N)(k0:List Int->List Int->Option J)(m:Int×Int×List Int)(hd:az m=true)(i:Nat):∀(M p:Nat) (s:List Nat×List Nat),dc m.1.toNat (ae m) i s->p<=m.1.toNat->m.1.toNat-p<M ->
  Z10L N k0 M (aB s.1) (aB s.2) (p:Int) m.1 m.2.1 m.2.2=k0 (aB (jr (ae m) m.1.toNat (m.1.toNat-p) p s).1) (aB (jr (ae m) m.1.toNat (m.1.toNat-p) p s).2):=by
 obtain⟨n,r,hn,hr,hn1,hn5,hnr,hr8,hl⟩:=aN hd;intro M;induction M with
 |zero=>intro p s _ _ h;omega
 |succ M ih =>
  intro p s hs hp hM;have hle:=hs.le;simp only[Z10L,Z11,Z12];by_cases h:p<s.1.length;·rw[ct (dt (by rw[cv];omega))];simp only[Z13,Z14,Z15,Z16,Z17,Z18,Z20];have hin:=inner (J:=J) N (λa b c d e f=>Z10L N k0 M a b (ab (c+1)) d e f) m hd i p N 0 s hs h (by omega) (by omega);rw[show((0:Nat):Int)=0 from rfl]at hin;rw[hin,bA (by rw[bD];omega),List.drop_zero];obtain⟨h1,h2,h3⟩:=tj (p:=p) (List.range m.1.toNat) s hs h (λx hx=>List.mem_range.1 hx);rw[ih (p+1) _ h1 (by omega) (by omega),show m.1.toNat-p=(m.1.toNat-(p+1))+1 by omega,jr,if_pos h]
  ·rw[cf (df (by rw[cv];omega))];cases hc:m.1.toNat-p with
   |zero=>rfl
   |succ f=>rw[jr,if_neg h]
def ok:Spec:=λm i hb hp=>⟨10,λN hN=>by simp only[P,Bool.and_eq_true,decide_eq_true_eq]at hp;obtain⟨hd,h0,h1⟩:=hp;obtain⟨x,rfl⟩:=Int.eq_ofNat_of_zero_le h0;obtain⟨n,r,hn,hr,hn1,hn5,hnr,hr8,hl⟩:=aN hd;simp only[Z0,Z1,Z2,Z3,Z4,Z5,Z6,Z7,Z8,Z9,Z10,Z21];have:=loop (J:=Unit×List Int×List Int×Unit) N hN (λa b=>some ((),(a,(b,())))) m hd x N 0 ([x],[x]) (dc.first (by omega)) (by omega) (by omega);exact this⟩
end cg
namespace fL
def g(n:Int):Int:=mx n (ab (0-n))
def Z0{J:Type}(N:Nat)(a:Int)(kr:Int->Option J):Option J :=
 kr (mx a (ab (0-a)))
def Spec:Prop:=∀ (v0:Int),∃N0,∀N,N0<=N->Z0 N v0 (λv2=>some ((),(v2,())))=some ((),((g v0),()))
def ok:Spec:=λn=>⟨0,λN hN=>by simp only[Z0,g]⟩
end fL
namespace eA
def P(a b:Int):Bool:=decide (0<=a)&&(decide (a<9223372036854775808)&&(decide (0<=b)&&decide (b<9223372036854775808)))
def g(a b:Int):Int:=(Int.gcd a b:Int)
def Z1{J:Type}(N:Nat)(a b:Int)(kn:I2 (Option J)):Option J :=
 kn a b
def Z5{J:Type}(N:Nat)(b a:Int)(kn:I2 (Option J))(k0:Int->Option J):Option J :=
 cond (lk N (!(decide (a=0))))
 (
  cond (lk N (!(decide (a=0)))) (
   kn a (Int.tmod b a)) none)
 (
  k0 b)
def Z4L{J:Type}(N:Nat)(k0:Int->Option J):Nat->Int->Int->Option J
 |0,_,_=>none
 |M+1,a,b=>Z5 N a b (λa b=>Z4L N k0 M a b) k0
def Z4 N a b k0:=(Z4L N k0 N a b:Option J)
def Z3 N a b kn:=(Z4 N a b kn:Option J)
def Z6{J:Type}(N:Nat)(a:Int)(kr:Int->Option J):Option J :=
 kr a
def Z2 N a b kr:=(Z3 N a b (λa=>Z6 N a kr):Option J)
def Z0 N a b kr:=(Z1 N a b (λa b=>Z2 N a b kr):Option J)
def Spec:Prop:=∀ (v0 v1:Int),P v0 v1=true->∃N0,∀N,N0<=N->Z0 N v0 v1 (λv4=>some ((),(v4,())))=some ((),((g v0 v1),()))
def loop{J:Type}(N:Nat)(k0:Int->Option J):∀(M:Nat) (a b:Nat),b<M->Z4L N k0 M (a:Int) (b:Int)=k0 (Nat.gcd b a:Nat):=by
 intro M;induction M with
 |zero=>intro a b h;omega
 |succ M ih =>
  intro a b hM;simp only[Z4L,Z5];by_cases h:b=0;·subst h;rw[cf (by simp),Nat.gcd_zero_left]
  ·rw[ct (nt (by omega)),ct (nt (by omega)),show Int.tmod (a:Int) (b:Int)=((a%b:Nat):Int)from rfl,ih _ _ (by have:=Nat.mod_lt a (Nat.pos_of_ne_zero h);omega),<-Nat.gcd_rec]
def ok:Spec:=λa b hp=>⟨b.toNat+1,λN hN=>by simp only[P,Bool.and_eq_true,decide_eq_true_eq]at hp;obtain⟨h1,h2,h3,h4⟩:=hp;obtain⟨x,rfl⟩:=Int.eq_ofNat_of_zero_le h1;obtain⟨y,rfl⟩:=Int.eq_ofNat_of_zero_le h3;simp only[Z1,Z5,Z4,Z3,Z6,Z2,Z0,g];rw[loop N _ N x y (by omega),Nat.gcd_comm];rfl⟩
end eA
namespace aQ
def P(m:Int×Int×List Int):Bool:=aS m
def g(m:Int×Int×List Int):List Int×Bool:=(be m,!decide (be m=[]))
def Z1{J:Type}(N:Nat)(a:MT)(kn:I2 (LI->Option J)):Option J :=
 kn a.1 a.2.1 a.2.2
def Z3{J:Type}(N:Nat)(a b:Int)(c:LI)(kn:LI->I2 (LI->Option J)):Option J :=
 cond (lk N (bE 0 a&&decide (a<1099511627776))) (
  kn (List.replicate a.toNat (0:Int)) a b c) none
def Z6{J:Type}(N:Nat)(a:LI)(b c:Int)(d:LI)(kn:LI->I3 (LI->Option J)):Option J :=
 kn a 0 b c d
def Z10{J:Type}(N:Nat)(b:LI)(c a d:Int)(e:LI)(kn:LI->I3 (LI->Option J))(k0:LI->I2 (LI->Option J)):Option J :=
 cond (lk N (decide (c<a)))
 (
  kn b c a d e)
 (
  k0 b a d e)
def Z14{J:Type}(N:Nat)(a:LI)(b c d:Int)(e:LI)(kn k1:LI->I3 (LI->Option J)):Option J :=
 cond (lk N (av b a.length)) (
  cond (lk N (decide (0<(a.getD b.toNat 0))))
  (
   k1 a b c d e)
  (
   kn a b c d e)) none
def Z16{J:Type}(N:Nat)(e:LI)(a b c:Int)(d:LI)(kn:LI->LI->LI->I3 (LI->Option J)):Option J :=
 cond (lk N (cg.P (b,(c,d)) a)) (
  kn e (cg.g (b,(c,d)) a).1 (cg.g (b,(c,d)) a).2 a b c d) none
def Z18{J:Type}(N:Nat)(b c d:LI)(a e f:Int)(g:LI)(kn:LI->LI->LI->I3 (LI->Option J)):Option J :=
 cond (lk N (av a b.length)) (
  kn (b.set a.toNat 1) c d a e f g) none
def Z21{J:Type}(N:Nat)(a b c:LI)(d e f:Int)(g:LI)(kn:LI->LI->LI->I4 (LI->Option J)):Option J :=
 kn a b c d 1 e f g
def Z24{J:Type}(N:Nat)(d b e:LI)(c a f h:Int)(i:LI)(kn:LI->LI->LI->I4 (LI->Option J))(k2:LI->LI->LI->I3 (LI->Option J)):Option J :=
 cond (lk N (decide (a<(b.length:Int))))
 (
  cond (lk N (av c d.length)) (
   cond (lk N (av a b.length)) (
    cond (lk N (av a e.length)) (
     cond (lk N (bw.P (f,(h,i)) (b.getD a.toNat 0) (e.getD a.toNat 0))) (
      cond (lk N (av c d.length)) (
       kn (d.set c.toNat (ab ((d.getD c.toNat 0)*(fL.g (bw.g (f,(h,i)) (b.getD a.toNat 0) (e.getD a.toNat 0)))))) b e c (ab (a+1)) f h i) none) none) none) none) none)
 (
  k2 d b e c f h i)
def Z23L{J:Type}(N:Nat)(k2:LI->LI->LI->I3 (LI->Option J)):Nat->LI->LI->LI->Int->Int->Int->Int->LI->Option J
 |0,_,_,_,_,_,_,_,_=>none
 |M+1,a,b,c,d,e,f,g,h=>Z24 N a b c d e f g h (λa b c d e f g h=>Z23L N k2 M a b c d e f g h) k2
def Z23 N a b c d e f g h k2:=(Z23L N k2 N a b c d e f g h:Option J)
def Z22 N a b c d e f g h kn:=(Z23 N a b c d e f g h kn:Option J)
def Z20 N a b c d e f g kn:=(Z21 N a b c d e f g (λa b c d h e f g=>Z22 N a b c d h e f g kn):Option J)
def Z26{J:Type}(N:Nat)(a c d:LI)(b e f:Int)(g:LI)(kn:LI->LI->LI->I4 (LI->Option J)):Option J :=
 cond (lk N (av b a.length)) (
  kn a c d b (a.getD b.toNat 0) e f g) none
def Z29{J:Type}(N:Nat)(a b c:LI)(d e f g:Int)(h:LI)(kn:LI->LI->LI->I5 (LI->Option J)):Option J :=
 kn a b c d e 1 f g h
def Z32{J:Type}(N:Nat)(h b c:LI)(j i a d e:Int)(f:LI)(kn:LI->LI->LI->I5 (LI->Option J))(k4:LI->LI->I4 (LI->Option J)):Option J :=
 let x1_:=(fL.g (bw.g (d,(e,f)) (b.getD a.toNat 0) (c.getD a.toNat 0)));let x2_:=(lk N (av a b.length));let x0_:=(h.set (b.getD a.toNat 0).toNat (ab (Int.tdiv (ab ((h.getD (c.getD a.toNat 0).toNat 0)*(fL.g (bw.g (d,(e,f)) (c.getD a.toNat 0) (b.getD a.toNat 0))))) x1_)));cond (lk N (decide (a<(b.length:Int))))
 (
 cond x2_ (
 cond (lk N (av a c.length)) (
 cond (lk N (av (c.getD a.toNat 0) h.length)) (
 cond (lk N (av a c.length)) (
 cond x2_ (
 cond x2_ (
 cond (lk N (av a c.length)) (
 cond (lk N (bw.P (d,(e,f)) (c.getD a.toNat 0) (b.getD a.toNat 0))) (
 cond (lk N (bw.P (d,(e,f)) (b.getD a.toNat 0) (c.getD a.toNat 0))) (
 cond (lk N (!(decide (x1_=0)))) (
 cond (lk N (av (b.getD a.toNat 0) h.length)) (
 cond x2_ (
 cond (lk N (av (b.getD a.toNat 0) x0_.length)) (
 cond (lk N (eA.P i (x0_.getD (b.getD a.toNat 0).toNat 0))) (
 kn x0_ b c j (eA.g i (x0_.getD (b.getD a.toNat 0).toNat 0)) (ab (a+1)) d e f) none) none) none) none) none) none) none) none) none) none) none) none) none) none)
 (
 k4 h b j i d e f)
def Z31L{J:Type}(N:Nat)(k4:LI->LI->I4 (LI->Option J)):Nat->LI->LI->LI->Int->Int->Int->Int->Int->LI->Option J
 |0,_,_,_,_,_,_,_,_,_=>none
 |M+1,a,b,c,d,e,f,g,h,i=>Z32 N a b c d e f g h i (λa b c d e f g h i=>Z31L N k4 M a b c d e f g h i) k4
def Z31 N a b c d e f g h i k4:=(Z31L N k4 N a b c d e f g h i:Option J)
def Z30 N a b c d e f g h i kn:=(Z31 N a b c d e f g h i kn:Option J)
def Z28 N a b c d e f g h kn:=(Z29 N a b c d e f g h (λa b c d e i f g h=>Z30 N a b c d e i f g h kn):Option J)
def Z34{J:Type}(N:Nat)(a b:LI)(c d e f:Int)(g:LI)(kn:LI->LI->I5 (LI->Option J)):Option J :=
 kn a b c d 0 e f g
def Z37{J:Type}(N:Nat)(c a:LI)(e d b f g:Int)(h:LI)(kn:LI->LI->I5 (LI->Option J))(k6:LI->I3 (LI->Option J)):Option J :=
 cond (lk N (decide (b<(a.length:Int))))
 (
  cond (lk N (av b a.length)) (
   cond (lk N (av b a.length)) (
    cond (lk N (av (a.getD b.toNat 0) c.length)) (
     cond (lk N (!(decide (d=0)))) (
      cond (lk N (av (a.getD b.toNat 0) c.length)) (
       kn (c.set (a.getD b.toNat 0).toNat (ab (Int.tdiv (c.getD (a.getD b.toNat 0).toNat 0) d))) a e d (ab (b+1)) f g h) none) none) none) none) none)
 (
  k6 c e f g h)
def Z36L{J:Type}(N:Nat)(k6:LI->I3 (LI->Option J)):Nat->LI->LI->Int->Int->Int->Int->Int->LI->Option J
 |0,_,_,_,_,_,_,_,_=>none
 |M+1,a,b,c,d,e,f,g,h=>Z37 N a b c d e f g h (λa b c d e f g h=>Z36L N k6 M a b c d e f g h) k6
def Z36 N a b c d e f g h k6:=(Z36L N k6 N a b c d e f g h:Option J)
def Z35 N a b c d e f g h kn:=(Z36 N a b c d e f g h kn:Option J)
def Z33 N a b c d e f g kn:=(Z34 N a b c d e f g (λa b c d h e f g=>Z35 N a b c d h e f g kn):Option J)
def Z27 N a b h c d e f g kn:=(Z28 N a b h c d e f g (λa b c d e f g=>Z33 N a b c d e f g kn):Option J)
def Z25 N a b c d e f g kn:=(Z26 N a b c d e f g (λa b c d h e f g=>Z27 N a b c d h e f g kn):Option J)
def Z19 N a b c d e f g kn:=(Z20 N a b c d e f g (λa b c d e f g=>Z25 N a b c d e f g kn):Option J)
def Z17 N a b c d e f g kn:=(Z18 N a b c d e f g (λa b c d e f g=>Z19 N a b c d e f g kn):Option J)
def Z15 N a b c d e kn:=(Z16 N a b c d e (λa f g b c d e=>Z17 N a f g b c d e kn):Option J)
def Z13 N a b c d e kn k1:=(Z14 N a b c d e (λa b c d e=>Z15 N a b c d e kn) k1:Option J)
def Z12 N a b c d e kn:=(Z13 N a b c d e kn kn:Option J)
def Z38{J:Type}(N:Nat)(a:LI)(b c d:Int)(e:LI)(kn:LI->I3 (LI->Option J)):Option J :=
 kn a (ab (b+1)) c d e
def Z11 N a b c d e kn:=(Z12 N a b c d e (λa b c d e=>Z38 N a b c d e kn):Option J)
def Z9 N a b c d e kn k0:=(Z10 N a b c d e (λa b c d e=>Z11 N a b c d e kn) k0:Option J)
def Z8L{J:Type}(N:Nat)(k0:LI->I2 (LI->Option J)):Nat->LI->Int->Int->Int->LI->Option J
 |0,_,_,_,_,_=>none
 |M+1,a,b,c,d,e=>Z9 N a b c d e (λa b c d e=>Z8L N k0 M a b c d e) k0
def Z8 N a b c d e k0:=(Z8L N k0 N a b c d e:Option J)
def Z7 N a b c d e kn:=(Z8 N a b c d e kn:Option J)
def Z5 N a b c d kn:=(Z6 N a b c d (λa e b c d=>Z7 N a e b c d kn):Option J)
def Z41{J:Type}(N:Nat)(a:LI)(b c:Int)(d:LI)(kn:LI->I3 (LI->Option J)):Option J :=
 kn a 0 b c d
def Z45{J:Type}(N:Nat)(a:LI)(b c d:Int)(e:LI)(kn:LI->I3 (LI->Option J))(k8:LI->Option J):Option J :=
 cond (lk N (decide (b<c)))
 (
  kn a b c d e)
 (
  k8 a)
def Z49{J:Type}(N:Nat)(a:LI)(b c d:Int)(e:LI)(kn:LI->I4 (LI->Option J)):Option J :=
 kn a b 0 c d e
def Z52{J:Type}(N:Nat)(d:LI)(a b c e:Int)(f:LI)(kn:LI->I4 (LI->Option J))(k10:LI->I3 (LI->Option J))(kr:LI->Bool->Option J):Option J :=
 cond (lk N (decide (b<c)))
 (
  cond (lk N (av a d.length)) (
   cond (lk N (av b d.length)) (
    cond (lk N (bw.P (c,(e,f)) a b)) (
     cond (lk N (bw.P (c,(e,f)) b a)) (
      cond (lk N (!(decide ((ab ((d.getD a.toNat 0)*(bw.g (c,(e,f)) a b)))=(ab (0-(ab ((d.getD b.toNat 0)*(bw.g (c,(e,f)) b a)))))))))
      (
       kr ([]:List Int) false)
      (
       kn d a (ab (b+1)) c e f)) none) none) none) none)
 (
  k10 d a c e f)
def Z51L{J:Type}(N:Nat)(k10:LI->I3 (LI->Option J))(kr:LI->Bool->Option J):Nat->LI->Int->Int->Int->Int->LI->Option J
 |0,_,_,_,_,_,_=>none
 |M+1,a,b,c,d,e,f=>Z52 N a b c d e f (λa b c d e f=>Z51L N k10 kr M a b c d e f) k10 kr
def Z51 N a b c d e f k10 kr:=(Z51L N k10 kr N a b c d e f:Option J)
def Z50 N a b c d e f kn kr:=(Z51 N a b c d e f kn kr:Option J)
def Z48 N a b c d e kn kr:=(Z49 N a b c d e (λa b f c d e=>Z50 N a b f c d e kn kr):Option J)
def Z47 N a b c d e kn kr:=(Z48 N a b c d e kn kr:Option J)
def Z53{J:Type}(N:Nat)(a:LI)(b c d:Int)(e:LI)(kn:LI->I3 (LI->Option J)):Option J :=
 kn a (ab (b+1)) c d e
def Z46 N a b c d e kn kr:=(Z47 N a b c d e (λa b c d e=>Z53 N a b c d e kn) kr:Option J)
def Z44 N a b c d e kn k8 kr:=(Z45 N a b c d e (λa b c d e=>Z46 N a b c d e kn kr) k8:Option J)
def Z43L{J:Type}(N:Nat)(k8:LI->Option J)(kr:LI->Bool->Option J):Nat->LI->Int->Int->Int->LI->Option J
 |0,_,_,_,_,_=>none
 |M+1,a,b,c,d,e=>Z44 N a b c d e (λa b c d e=>Z43L N k8 kr M a b c d e) k8 kr
def Z43 N a b c d e k8 kr:=(Z43L N k8 kr N a b c d e:Option J)
def Z42 N a b c d e kn kr:=(Z43 N a b c d e kn kr:Option J)
def Z40 N a b c d kn kr:=(Z41 N a b c d (λa e b c d=>Z42 N a e b c d kn kr):Option J)
def Z54{J:Type}(N:Nat)(a:LI)(kr:LI->Bool->Option J):Option J :=
 kr a true
def Z39 N a b c d kr:=(Z40 N a b c d (λa=>Z54 N a kr) kr:Option J)
def Z4 N a b c d kr:=(Z5 N a b c d (λa b c d=>Z39 N a b c d kr):Option J)
def Z2 N a b c kr:=(Z3 N a b c (λd a b c=>Z4 N d a b c kr):Option J)
def Z0 N a kr:=(Z1 N a (λb c d=>Z2 N b c d kr):Option J)
def Spec:Prop:=∀ (v0:MT),Ty.bd (.pair (.int .i64) (.pair (.int .i64) (.sl 0 (.int .i64)))) v0->P v0=true->∃N0,∀N,N0<=N->Z0 N v0 (λv2 v3=>some ((),(v2,(v3,()))))=some ((),((g v0).1,((g v0).2,())))
def xY{a:Int}(h:-99<=a/\a<=99):fL.g a=bG a:=by unfold fL.g;rw[aL (by omega) (by omega),mB];unfold bG;omega
section
variable {J : Type} {N : Nat} {m : Int × Int × List Int} {s : List Nat × List Nat} {i : Nat}
def at_g(hd:0<=m.1)(a b:Nat):bw.g (m.1,(m.2.1,m.2.2)) (a:Int) (b:Int)=ae m a b:=gA hd a b
def at_p(hd:az m=true){a b:Nat}(ha:a<m.1.toNat)(hb:b<m.1.toNat):bw.P (m.1,(m.2.1,m.2.2)) (a:Int) (b:Int)=true:=by obtain⟨n,r,hn,hr,hn1,hn5,hnr,hr8,hl⟩:=aN hd;exact gW hd (by omega) hb
def loop1(hs:aS m=true)(h:dc m.1.toNat (ae m) i s)(hi:i<m.1.toNat)(k2:List Int->List Int->List Int->Int->Int->Int->List Int->Option J)(d0:List Int)(hd0:d0.length=m.1.toNat):∀(M k:Nat),1<=k->k<=s.1.length->s.1.length-k<M ->
  Z23L N k2 M (d0.set i (cY (qK m s) k)) (aB s.1) (aB s.2) (i:Int) (k:Int) m.1 m.2.1 m.2.2=k2 (d0.set i (cY (qK m s) s.1.length)) (aB s.1) (aB s.2) (i:Int) m.1 m.2.1 m.2.2:=by
 have hdim:=cD (cR hs);obtain⟨n,r,hn,hr,hn1,hn5,hnr,hr8,hl⟩:=aN hdim;have hle:=h.le;intro M;induction M with
 |zero=>intro k _ _ hM;omega
 |succ M ih =>
  intro k h1 hk hM;simp only[Z23L,Z24];by_cases hlt:k<s.1.length
  ·have hb:=qn (qq hs h) (k+1) (by omega);have hp9:=qo (k:=k+1) (by omega);have e:qK m s k=fL.g (ae m (s.1.getD k 0) (s.2.getD k 0)):=by rw[xY (fV (cR hs) _ _),qK,if_neg (by omega)]
   rw[ct (dt (by rw[cv];omega)),ct (aR (by rw[List.length_set];omega)),ct (aR (by rw[cv];omega)),ct (aR (by rw[cv,h.len];omega))];simp only[Int.toNat_natCast,gX];rw[ct (at_p hdim (h.lt _ (bF 0 hlt)) (qp h h1 hlt)),ct (aR (by rw[List.length_set];omega)),List.set_set,cA (by omega),if_pos rfl,at_g (by omega),<-e,
    show cY (qK m s) k*qK m s k=cY (qK m s) (k+1)from rfl,aL (by omega) (by omega),bA (by rw[bD];omega)]
   exact ih (k+1) (by omega) (by omega) (by omega)
  ·rw[cf (df (by rw[cv];omega)),show k=s.1.length by omega]
def loop2(hs:aS m=true)(h:dc m.1.toNat (ae m) i s)(k4:List Int->List Int->Int->Int->Int->Int->List Int->Option J)(d0:List Int):∀(M k:Nat) (d:List Int) (g:Int),1<=k->k<=s.1.length->s.1.length-k<M->T2 m s d0 k d g ->
  ∃d' g',T2 m s d0 s.1.length d' g'/\Z31L N k4 M d (aB s.1) (aB s.2) (i:Int) g (k:Int) m.1 m.2.1 m.2.2=k4 d' (aB s.1) (i:Int) g' m.1 m.2.1 m.2.2:=by
 have hdim:=cD (cR hs);obtain⟨n,r,hn,hr,hn1,hn5,hnr,hr8,hl⟩:=aN hdim;have hle:=h.le;intro M;induction M with
 |zero=>intro k _ _ _ _ hM;omega
 |succ M ih =>
  intro k d g h1 hk hM ht;simp only[Z31L,Z32];by_cases hlt:k<s.1.length
  ·obtain⟨⟨a1,a2⟩,⟨b1,b2⟩,hst⟩:=ht.step hs h (by omega) h1 hlt;obtain⟨⟨hq,_⟩,hp,_⟩:=tl hs h h1 hlt;have hg:=ht.g_range h1;have hx:=h.lt _ (bF 0 hlt);have hf:=qp h h1 hlt;have e1:fL.g (ae m (s.1.getD k 0) (s.2.getD k 0))=qK m s k:=by rw[xY (fV (cR hs) _ _),qK,if_neg (by omega)]
   have e2:fL.g (ae m (s.2.getD k 0) (s.1.getD k 0))=pK m s k:=by rw[xY (fV (cR hs) _ _),pK]
   have c1:av (k:Int) (aB s.1).length=true:=aR (by rw[cv];omega);have c2:av (k:Int) (aB s.2).length=true:=aR (by rw[cv,h.len];omega);rw[ct (dt (by rw[cv];omega)),ct c1,ct c2];simp only[Int.toNat_natCast,gX];rw[ct (aR (by rw[ht.len];exact hf)),ct c2,ct c1,ct c1,ct c2,ct (at_p hdim hf hx),ct (at_p hdim hx hf)];simp only[at_g (show 0<=m.1 by omega),e1,e2];rw[ct (nt (by omega)),ct (aR (by rw[ht.len];exact hx)),ct c1];simp only[aL (show -9223372036854775808<=d.getD (s.2.getD k 0) 0*pK m s k by omega) (by omega)];simp only[aL (show -9223372036854775808<=Int.tdiv (d.getD (s.2.getD k 0) 0*pK m s k) (qK m s k) by omega) (by omega)];rw[ct (aR (by rw[List.length_set,ht.len];exact hx)),cA (by rw[ht.len];exact hx),if_pos rfl];rw[ct (show eA.P g _=true by simp only[eA.P,Bool.and_eq_true,decide_eq_true_eq];exact⟨by omega,by omega,by omega,by omega⟩),bA (by rw[bD];omega)];exact ih (k+1) _ _ (by omega) (by omega) (by omega) hst
  ·have e:k=s.1.length:=by omega
   subst e;exact⟨d,g,ht,by rw[cf (df (by rw[cv];omega))]⟩
def loop3(hs:aS m=true)(h:dc m.1.toNat (ae m) i s)(k6:List Int->Int->Int->Int->List Int->Option J)(d0 d2:List Int)(g:Int)(h2:T2 m s d0 s.1.length d2 g):∀(M k:Nat) (d:List Int),k<=s.1.length->s.1.length-k<M->T3 m s d2 g k d ->
  ∃d',T3 m s d2 g s.1.length d'/\Z36L N k6 M d (aB s.1) (i:Int) g (k:Int) m.1 m.2.1 m.2.2=k6 d' (i:Int) m.1 m.2.1 m.2.2:=by
 have hle:=h.le;have hdim:=cD (cR hs);obtain⟨n,r,hn,hr,hn1,hn5,hnr,hr8,hl⟩:=aN hdim;have hg:=h2.g_range h.pos;intro M;induction M with
 |zero=>intro k _ _ hM;omega
 |succ M ih =>
  intro k d hk hM ht;simp only[Z36L,Z37];by_cases hlt:k<s.1.length
  ·have hx:=h.lt _ (bF 0 hlt);have c1:av (k:Int) (aB s.1).length=true:=aR (by rw[cv];omega);have hv:=h2.val k hlt;have hp8:=qo (k:=4+k) (by omega);have hdv:0<=Int.tdiv (d2.getD (s.1.getD k 0) 0) g/\Int.tdiv (d2.getD (s.1.getD k 0) 0) g<=9227446944279201:=by rw[Int.tdiv_eq_ediv_of_nonneg (by omega)];refine⟨Int.ediv_nonneg (by omega) (by omega), ?_⟩;have:=Int.ediv_le_self (a:=d2.getD (s.1.getD k 0) 0) g (by omega);omega
   rw[ct (dt (by rw[cv];omega)),ct c1,ct c1];simp only[Int.toNat_natCast,gX];rw[ct (aR (by rw[ht.len];exact hx)),ct (nt (by omega)),ct (aR (by rw[ht.len];exact hx)),ht.cur h.nd h.lt hlt,aL (by omega) (by omega),bA (by rw[bD];omega)];exact ih (k+1) _ (by omega) (by omega) (ht.step h.nd h.lt hlt)
  ·have e:k=s.1.length:=by omega
   subst e;exact⟨d,ht,by rw[cf (df (by rw[cv];omega))]⟩
def outer(hN:10<=N)(hs:aS m=true)(k0:List Int->Int->Int->List Int->Option J):∀(M i:Nat) (d:List Int),i<=m.1.toNat->m.1.toNat-i<M->d.length=m.1.toNat->ju m.1.toNat (ae m) (λx=>d.getD x 0)->(∀x,x<i->0<d.getD x 0) ->
  ∃d',(d'.length=m.1.toNat/\ju m.1.toNat (ae m) (λx=>d'.getD x 0)/\∀x,x<m.1.toNat->0<d'.getD x 0)/\Z8L N k0 M d (i:Int) m.1 m.2.1 m.2.2=k0 d' m.1 m.2.1 m.2.2:=by
 have hdim:=cD (cR hs);obtain⟨n,r,hn,hr,hn1,hn5,hnr,hr8,hl⟩:=aN hdim;intro M;induction M with
 |zero=>intro i _ _ hM;omega
 |succ M ih =>
  intro i d hi hM hdl hpt hpos;simp only[Z8L,Z9,Z10];by_cases hlt:i<m.1.toNat
  ·rw[ct (dt (by omega))];simp only[Z11,Z12,Z13,Z14];rw[ct (aR (by omega)),Int.toNat_natCast];by_cases hd:0<d.getD i 0
   ·rw[ct (dt hd)];simp only[Z38];rw[bA (by rw[bD];omega)];exact ih (i+1) d hlt (by omega) hdl hpt (λx hx=>by
     by_cases e:x=i;·subst e;exact hd
     ·exact hpos x (by omega))
   ·rw[cf (df hd)];obtain⟨h,hcl⟩:=Kn hlt;simp only[Z15,Z16];rw[ct (show cg.P (m.1,(m.2.1,m.2.2)) (i:Int)=true by simp only[cg.P,Bool.and_eq_true,decide_eq_true_eq];exact⟨hdim,by omega,by omega⟩)];simp only[Z17,Z18];rw[ct (aR (by omega)),Int.toNat_natCast];have eP:cg.g (m.1,(m.2.1,m.2.2)) (i:Int)=(aB (kX m i).1,aB (kX m i).2):=rfl;rw[eP];generalize kX m i=s at h hcl;have hle:=h.le;simp only[Z19,Z20,Z21,Z22,Z23];have l1:=loop1 (J:=J) (N:=N) hs h hlt (λa b c d e f g=>Z25 N a b c d e f g (λa b c d e=>Z38 N a b c d e (λa b c d e=>Z8L N k0 M a b c d e))) d hdl N 1 (by omega) h.pos (by omega);rw[show cY (qK m s) 1=1 by simp[cY,qK]]at l1;rw[show(((1:Nat):Int))=1 from rfl]at l1;rw[l1];simp only[Z25,Z26];have hset:∀v,(d.set i v).length=m.1.toNat:=λv=>by rw[List.length_set];exact hdl
    rw[ct (aR (by rw[hset];exact hlt)),Int.toNat_natCast,cA (by omega),if_pos rfl];simp only[Z27,Z28,Z29,Z30,Z31];have hH:=qn (qq hs h) s.1.length (by omega);have hHp:(99:Int) ^ s.1.length<=99 ^ (4+0)\/s.1.length=5:=by
     by_cases e:s.1.length=5;·exact Or.inr e
     ·left;have:99 ^ s.1.length<=99 ^ (4+0):=Nat.pow_le_pow_right (by omega) (by omega);exact_mod_cast this
    have hH4:cY (qK m s) s.1.length<=99 ^ (4+0):=by
     rcases hHp with hc|hc;·omega
     ·rw[hc];have q1:cY (qK m s) 1=1:=by simp[cY,qK]
      have b:∀k,1<=k->k<=s.1.length->cY (qK m s) k<=99 ^ (k-1):=by
       intro k;induction k with
       |zero=>intro h _;omega
       |succ k ihk =>
        intro _ hk;by_cases e:k=0;·subst e;rw[q1];decide
        ·have c1:=ihk (by omega) (by omega);have c2:=qq hs h k (by omega);have c3:=qn (qq hs h) k (by omega);have:cY (qK m s) k*qK m s k<=99 ^ (k-1)*99:=Int.mul_le_mul c1 c2.2 (by omega) (Int.pow_nonneg (by omega));rw[<-Int.pow_succ,show(k-1).succ=k by omega]at this;exact this
      exact b 5 (by omega) (by omega)
    have t0:T2 m s d 1 (d.set i (cY (qK m s) s.1.length)) (cY (qK m s) s.1.length):=by
     refine⟨hset _, ?_, ?_,λk h1 h2=>by omega, ?_⟩;·intro x hx hall;rw[cA (by omega),if_neg (λe=>hall 0 (by omega) (by rw[h.hd];exact e.symm))]
     ·intro k hk;have e:k=0:=by omega
      subst e;rw[h.hd,cA (by omega),if_pos rfl];refine⟨hH.1,hH4,⟨cY (qK m s) 1,rfl⟩⟩
     ·show _=((ce [(d.set i (cY (qK m s) s.1.length)).getD (s.1.getD 0 0) 0]:Nat):Int);rw[h.hd,cA (by omega),if_pos rfl,ce,ce,Nat.gcd_zero_right];omega
    obtain⟨d2,g2,ht2,l2⟩:=loop2 (J:=J) (N:=N) hs h (λa b c d e f g=>Z33 N a b c d e f g (λa b c d e=>Z38 N a b c d e (λa b c d e=>Z8L N k0 M a b c d e))) d N 1 _ _ (by omega) h.pos (by omega) t0;rw[show(((1:Nat):Int))=1 from rfl]at l2;rw[l2];simp only[Z33,Z34,Z35,Z36];obtain⟨d3,ht3,l3⟩:=loop3 (J:=J) (N:=N) hs h (λa b c d e=>Z38 N a b c d e (λa b c d e=>Z8L N k0 M a b c d e)) d d2 g2 ht2 N 0 d2 (by omega) (by omega) ⟨ht2.len,λ_ _ _=>rfl,λk hk=>by omega⟩;rw[show(((0:Nat):Int))=0 from rfl]at l3;rw[l3];obtain⟨p1,p2,p3⟩:=Kr hs hlt h (by omega) hcl hpt (by omega) ht2 ht3;simp only[Z38];rw[bA (by rw[bD];omega)];exact ih (i+1) d3 hlt (by omega) ht3.len p1 (λx hx=>by
     by_cases e:x=i;·subst e;exact p2
     ·exact p3 x (by omega) (hpos x (by omega)))
  ·rw[cf (df (by omega))];exact⟨d,⟨hdl,hpt,λx hx=>hpos x (by omega)⟩,rfl⟩
def oh(m:Int×Int×List Int)(d:List Int)(i j:Nat):Prop:=d.getD i 0*ae m i j=-(d.getD j 0*ae m j i)
def CQ(hs:bi m=true){d:List Int}(hd:ju m.1.toNat (ae m) (λx=>d.getD x 0)){i j:Nat}(hi:i<m.1.toNat)(hj:j<m.1.toNat) :
  (ab (d.getD i 0*ae m i j)=ab (0-ab (d.getD j 0*ae m j i)))↔oh m d i j:=by
 have key:∀a b:Nat,a<m.1.toNat->-913517247483640899<=d.getD a 0*ae m a b/\d.getD a 0*ae m a b<=913517247483640899:=by intro a b ha;obtain⟨h1,h2,_⟩:=hd a ha;have h3:=fV hs a b;have h1':0<=d.getD a 0:=h1;have h2':d.getD a 0<=9227446944279201:=h2;have c1:d.getD a 0*ae m a b<=d.getD a 0*99:=Int.mul_le_mul_of_nonneg_left h3.2 h1';have c2:d.getD a 0*(-99)<=d.getD a 0*ae m a b:=Int.mul_le_mul_of_nonneg_left h3.1 h1';omega
 have k1:=key i j hi;have k2:=key j i hj;rw[aL (by omega) (by omega),aL (n:=d.getD j 0*ae m j i) (by omega) (by omega),aL (by omega) (by omega),Int.zero_sub];rfl
def Lm(hs:aS m=true){d:List Int}(hdl:d.length=m.1.toNat)(hd:ju m.1.toNat (ae m) (λx=>d.getD x 0))(k10:List Int->Int->Int->Int->List Int->Option J)(kr:List Int->Bool->Option J){i:Nat}(hi:i<m.1.toNat):∀(M j:Nat),j<=m.1.toNat->m.1.toNat-j<M ->
  (Z51L N k10 kr M d (i:Int) (j:Int) m.1 m.2.1 m.2.2=kr [] false/\∃j',j'<m.1.toNat/\¬ oh m d i j') \/
  (Z51L N k10 kr M d (i:Int) (j:Int) m.1 m.2.1 m.2.2=k10 d (i:Int) m.1 m.2.1 m.2.2/\∀j',j<=j'->j'<m.1.toNat->oh m d i j'):=by
 have hdim:=cD (cR hs);obtain⟨n,r,hn,hr,hn1,hn5,hnr,hr8,hl⟩:=aN hdim;intro M;induction M with
 |zero=>intro j _ hM;omega
 |succ M ih =>
  intro j hj hM;simp only[Z51L,Z52];by_cases hlt:j<m.1.toNat
  ·rw[ct (dt (by omega)),ct (aR (by omega)),ct (aR (by omega)),ct (at_p hdim hi hlt),ct (at_p hdim hlt hi)];have hA:bw.g (m.1,(m.2.1,m.2.2)) (i:Int) (j:Int)=ae m i j:=at_g (by omega) _ _;have hB:bw.g (m.1,(m.2.1,m.2.2)) (j:Int) (i:Int)=ae m j i:=at_g (by omega) _ _;simp only[Int.toNat_natCast,hA,hB];by_cases he:oh m d i j
   ·rw[cf (nf ((CQ (cR hs) hd hi hlt).2 he)),bA (by rw[bD];omega)];rcases ih (j+1) hlt (by omega)with hc|hc;·exact Or.inl hc
    ·refine Or.inr ⟨hc.1,λj' h1 h2=>?_⟩;by_cases e:j'=j;·subst e;exact he
     ·exact hc.2 j' (by omega) h2
   ·rw[ct (nt (λhc=>he ((CQ (cR hs) hd hi hlt).1 hc)))];exact Or.inl ⟨rfl,j,hlt,he⟩
  ·rw[cf (df (by omega))];exact Or.inr ⟨rfl,λj' h1 h2=>by omega⟩
def Ln(hN:10<=N)(hs:aS m=true){d:List Int}(hdl:d.length=m.1.toNat)(hd:ju m.1.toNat (ae m) (λx=>d.getD x 0))(k8:List Int->Option J)(kr:List Int->Bool->Option J):∀(M i:Nat),i<=m.1.toNat->m.1.toNat-i<M ->
  (Z43L N k8 kr M d (i:Int) m.1 m.2.1 m.2.2=kr [] false/\∃i' j',i'<m.1.toNat/\j'<m.1.toNat/\¬ oh m d i' j') \/
  (Z43L N k8 kr M d (i:Int) m.1 m.2.1 m.2.2=k8 d/\∀i',i<=i'->i'<m.1.toNat->∀j',j'<m.1.toNat->oh m d i' j'):=by
 have hdim:=cD (cR hs);obtain⟨n,r,hn,hr,hn1,hn5,hnr,hr8,hl⟩:=aN hdim;intro M;induction M with
 |zero=>intro i _ hM;omega
 |succ M ih =>
  intro i hi hM;simp only[Z43L,Z44,Z45];by_cases hlt:i<m.1.toNat
  ·rw[ct (dt (by omega))];simp only[Z46,Z47,Z48,Z49,Z50,Z51];have hc:=Lm (J:=J) (N:=N) hs hdl hd (λa b c d e=>Z53 N a b c d e (λa b c d e=>Z43L N k8 kr M a b c d e)) kr hlt N 0 (by omega) (by omega);rw[show((0:Nat):Int)=0 from rfl]at hc;rcases hc with⟨hc,j',h1,h2⟩|⟨hc,h1⟩;·exact Or.inl ⟨hc,i,j',hlt,h1,h2⟩
   ·rw[hc];simp only[Z53];rw[bA (by rw[bD];omega)];rcases ih (i+1) hlt (by omega)with h2|h2;·exact Or.inl h2
    ·refine Or.inr ⟨h2.1,λi' h3 h4=>?_⟩;by_cases e:i'=i;·subst e;exact λj' hj'=>h1 j' (by omega) hj'
     ·exact h2.2 i' (by omega) h4
  ·rw[cf (df (by omega))];exact Or.inr ⟨rfl,λi' h1 h2=>by omega⟩
end
def ok:Spec:=λm hb hp=>⟨10,λN hN=>by
 have hs:aS m=true:=hp;have hdim:=cD (cR hs);obtain⟨n,r,hn,hr,hn1,hn5,hnr,hr8,hl⟩:=aN hdim;simp only[Z0,Z1,Z2,Z3];rw[ct (by rw[nV (by omega),dt (by omega)];rfl)];simp only[Z4,Z5,Z6,Z7,Z8];have hz:∀x,(List.replicate m.1.toNat (0:Int)).getD x 0=0:=λx=>by rw[List.getD_eq_getElem?_getD,List.getElem?_replicate];split<;>rfl
 obtain⟨d,⟨h1,h2,h3⟩,h4⟩:=outer (J:=Unit×List Int×Bool×Unit) hN hs (λa b c d=>Z39 N a b c d (λt2 t3=>some ((),(t2,(t3,()))))) N 0 (List.replicate m.1.toNat 0) (by omega) (by omega) (by simp) (λj hj=>by show 0<=(List.replicate m.1.toNat (0:Int)).getD j 0/\(List.replicate m.1.toNat (0:Int)).getD j 0<=_/\(0<(List.replicate m.1.toNat (0:Int)).getD j 0->_);rw[hz];exact⟨by omega,by omega,λhc=>by omega⟩) (λx hx=>by omega);rw[show((0:Nat):Int)=0 from rfl]at h4;rw[h4];simp only[Z39,Z40,Z41,Z42,Z43];have hc:=Ln (J:=Unit×List Int×Bool×Unit) hN hs h1 h2 (λd4=>Z54 N d4 (λt2 t3=>some ((),(t2,(t3,()))))) (λt2 t3=>some ((),(t2,(t3,())))) N 0 (by omega) (by omega);rw[show((0:Nat):Int)=0 from rfl]at hc;rcases hc with⟨hc,i',j',h5,h6,h7⟩|⟨hc,h5⟩;·rw[hc,g,Kt hs h2 h3 h5 h6 h7];rfl
 ·have h6:=Co h1 h2 h3 (λi hi j hj=>h5 i (by omega) hi j hj);rw[hc,g,h6];simp only[Z54];rw[df (λe=>by rw[e]at h1;simp at h1;omega)];rfl⟩
def fac_ex{m:Int×Int×List Int}(hs:aS m=true)(h:∃e,cz m.1.toNat (ae m) e):be m≠[]:=by
 have hdim:=cD (cR hs);obtain⟨n,r,hn,hr,hn1,hn5,hnr,hr8,hl⟩:=aN hdim;have hz:∀x,(List.replicate m.1.toNat (0:Int)).getD x 0=0:=λx=>by rw[List.getD_eq_getElem?_getD,List.getElem?_replicate];split<;>rfl
 obtain⟨d,⟨h1,h2,h3⟩,h4⟩:=outer (J:=Unit) (N:=10) (Nat.le_refl _) hs (λ_ _ _ _=>none) 10 0 (List.replicate m.1.toNat 0) (by omega) (by omega) (by simp) (λj hj=>by show 0<=(List.replicate m.1.toNat (0:Int)).getD j 0/\(List.replicate m.1.toNat (0:Int)).getD j 0<=_/\(0<(List.replicate m.1.toNat (0:Int)).getD j 0->_);rw[hz];exact⟨by omega,by omega,λhc=>by omega⟩) (λx hx=>by omega);obtain⟨e,he⟩:=h;rw[Co h1 h2 h3 (λi hi j hj=>Ks hs h2 h3 he hi hj)];intro hc;rw[hc]at h1;simp at h1;omega
end aQ
end
end Go.Fw
namespace Go.Fw
def om(m:Int×Int×List Int):(bi m&&!decide (be m=[]))=(aS m&&!decide (be m=[])):=by
 by_cases h:be m=[];·rw[dt h];simp
 ·cases hs:bi m;·simp[aS,hs]
  ·rw[Km hs h]
def CR{m:Int×Int×List Int}{k:Nat}(h:(aS m&&!decide (be m=[]))=true)(hk:k<m.1.toNat):(bi (aI m k)&&!decide (be (aI m k)=[]))=aS (aI m k):=by
 simp only[Bool.and_eq_true,Bool.not_eq_true',decide_eq_false_iff_not]at h;cases hs:aS (aI m k);·rw[om,hs];rfl
 ·have hd:=cD (cR h.1);have:=aQ.fac_ex hs ⟨_,kY hd hk (nZ h.2).2.1⟩;rw[om,hs,df this];rfl
def tz{a b:Int×Int×List Int}(ha:az a=true)(h1:a.1=b.1)(h2:a.2.1=b.2.1)(hl:a.2.2.length=b.2.2.length)(h:∀i j,i<a.2.1.toNat->j<a.1.toNat->ae a i j=ae b i j):a=b:=by
 obtain⟨n,r,hn,hr,hn1,hn5,hnr,hr8,hla⟩:=aN ha;obtain⟨a1,a2,a3⟩:=a;obtain⟨b1,b2,b3⟩:=b;simp only at h1 h2 hn hr;subst h1 h2;have:a3=b3:=by
  apply List.ext_getElem hl;intro p p1 p2;have hla':a3.length=r*n:=hla;have hp:p<r*n:=by omega
  have hi:p / n<r:=Nat.div_lt_of_lt_mul (by rw[Nat.mul_comm];exact hp);have hj:p%n<n:=Nat.mod_lt _ (by omega);have:=h (p / n) (p%n) (by show p / n<a2.toNat;omega) (by show p%n<a1.toNat;omega);have e:p / n*a1.toNat+p%n=p:=by rw[show a1.toNat=n by omega,Nat.mul_comm];exact Nat.div_add_mod p n
  unfold ae at this;rw[e]at this;simp only[List.getD_eq_getElem?_getD,List.getElem?_eq_getElem p1,List.getElem?_eq_getElem p2,Option.getD_some]at this;exact this
 rw[this]
structure dy(m:Int×Int×List Int)(d:Nat->Int):Prop where
 shaped:bi m=true
 good:cz m.1.toNat (ae m) d
def dy.sizes{m:Int×Int×List Int}{d:Nat->Int}(h:dy m d):aS m=true:=by rw[aS,h.shaped,Bool.true_and,List.all_eq_true];intro i hi;rw[List.all_eq_true];intro j hj;exact n7 h.good (List.mem_range.1 hi) (List.mem_range.1 hj)
def dy.fac{m:Int×Int×List Int}{d:Nat->Int}(h:dy m d):be m≠[]:=aQ.fac_ex h.sizes ⟨d,h.good⟩
def dy.ok{m:Int×Int×List Int}{d:Nat->Int}(h:dy m d):(aS m&&!decide (be m=[]))=true:=by rw[h.sizes,df h.fac];rfl
def dy.dim{m:Int×Int×List Int}{d:Nat->Int}(h:dy m d):az m=true:=cD h.shaped
def Lo{m:Int×Int×List Int}(h:(aS m&&!decide (be m=[]))=true):∃d,dy m d:=by simp only[Bool.and_eq_true,Bool.not_eq_true',decide_eq_false_iff_not]at h;exact⟨_,cR h.1,(nZ h.2).2.1⟩
def oq{m:Int×Int×List Int}:bi m=true↔az m=true/\∀x∈m.2.2,-99<=x/\x<=99:=by simp only[bi,gB,Bool.and_eq_true,List.all_eq_true,cy]
def dy.mut{m:Int×Int×List Int}{d:Nat->Int}(h:dy m d){k:Nat}(hk:k<m.1.toNat)(hs:aS (aI m k)=true):dy (aI m k) d:=⟨cR hs,kY h.dim hk h.good⟩
def fX{m:Int×Int×List Int}(hd:az m=true)(names:List Int){p q:Nat}(hp:p<m.2.1.toNat)(hq:q<m.1.toNat) :
  ae (b9 m names) p q=ae m (dQ m.1.toNat (names.map Int.toNat) p) (cx (names.map Int.toNat) q):=by
 obtain⟨n,r,hn,hr,hn1,hn5,hnr,hr8,hl⟩:=aN hd;have e0:m.1.toNat=n:=by omega
 have hlt:=fU (n:=n) (r:=r) (i:=p) (j:=q) (by omega) (by omega);unfold ae b9;show((List.range m.2.2.length).map λp=>m.2.2.getD (fI m.1.toNat (names.map Int.toNat) p) 0).getD (p*m.1.toNat+q) 0=_;rw[List.getD_eq_getElem?_getD,List.getElem?_map,List.getElem?_range (by rw[e0];omega)];show m.2.2.getD (fI m.1.toNat (names.map Int.toNat) (p*m.1.toNat+q)) 0=_;unfold fI;rw[Cp hq,Cq hq]
def mH{m:Int×Int×List Int}(names:List Int)(h:az m=true):az (b9 m names)=true:=by simpa[az,b9]using h
def dy.ren{m:Int×Int×List Int}{d:Nat->Int}(h:dy m d){names:List Int}(hn:fo names m.1=true):dy (b9 m names) λp=>d (cx (names.map Int.toNat) p):=by
 obtain⟨L,rfl,h1,h2,h3⟩:=j0 hn;have hd:=h.dim;obtain⟨n,r,en,hr,hn1,hn5,hnr,hr8,hl⟩:=aN hd;refine⟨oq.2 ⟨mH _ hd,λx hx=>?_⟩,λu hu=>?_⟩
 ·have h0:=(oq.1 h.shaped).2;obtain⟨p,_,rfl⟩:=List.mem_map.1 hx;rw[List.getD_eq_getElem?_getD];cases hq:m.2.2[fI m.1.toNat ((aB L).map Int.toNat) p]? with
  |none=>exact⟨by decide,by decide⟩
  |some y=>exact h0 y (List.mem_of_getElem? hq)
 ·have hu:u<m.1.toNat:=hu;rw[g9];have pu:=(dP (eJ h1 h2 h3 hu)).1;refine⟨(h.good _ (by omega)).1,λv hv=>?_⟩;have hv:v<m.1.toNat:=hv;have pv:=(dP (eJ h1 h2 h3 hv)).1;rw[fX hd _ (by omega) hv,fX hd _ (by omega) hu,g9];unfold dQ;rw[if_pos hu,if_pos hv];exact(h.good _ (by omega)).2 _ (by omega)
def Lp(k:Int)(l:List Int):List (List Int):=(List.range (l.length+1)).map λi=>JV l ((i:Nat):Int) [k]
def hZ:Nat->List (List Int)
 |0=>[[]]
 |k+1=>(hZ k).flatMap (Lp (k:Nat))
def dY(n:Nat):Nat->List Int->List (List Int)
 |0,f=>[f]
 |k+1,f=>(List.range n).flatMap λx=>cond (f.any λy=>decide (y=((x:Nat):Int))) [] (dY n k (f++[((x:Nat):Int)]))
set_option maxRecDepth 100000 in
def xZ:((List.range 6).all λn=>(hZ n).all (λo=>(dY n n []).contains o&&fo o n)&&(dY n n []).all (λo=>(hZ n).contains o)&&(hZ n).contains ((List.range n).map Int.ofNat))=true:=by decide +kernel
def tA{n:Nat}(hn:n<=5)(o:List Int):o∈hZ n↔o∈dY n n []:=by have h:=List.all_eq_true.1 xZ n (List.mem_range.2 (by omega));simp only[Bool.and_eq_true,List.all_eq_true]at h;obtain⟨⟨h1,h2⟩,h3⟩:=h;exact⟨λho=>List.contains_iff_mem.1 (h1 o ho).1,λho=>List.contains_iff_mem.1 (h2 o ho)⟩
def tB{n:Nat}(hn:n<=5){o:List Int}(ho:o∈hZ n):fo o n=true:=by have h:=List.all_eq_true.1 xZ n (List.mem_range.2 (by omega));simp only[Bool.and_eq_true,List.all_eq_true]at h;exact(h.1.1 o ho).2
def ya{n:Nat}(hn:n<=5):(List.range n).map Int.ofNat∈hZ n:=by have h:=List.all_eq_true.1 xZ n (List.mem_range.2 (by omega));simp only[Bool.and_eq_true,List.all_eq_true]at h;exact List.contains_iff_mem.1 h.2
def Lt:((List.range 6).all λn=>(List.range (n*n)).all λp=>decide (fI n (((List.range n).map Int.ofNat).map Int.toNat) p=p))=true:=by decide +kernel
def tC{m:Int×Int×List Int}(h:az m=true)(hr:m.2.1=m.1):b9 m ((List.range m.1.toNat).map Int.ofNat)=m:=by
 obtain⟨n,r,hn,hr',hn1,hn5,hnr,hr8,hl⟩:=aN h;have e:r=n:=by omega
 subst e;have hb:=List.all_eq_true.1 Lt r (List.mem_range.2 (by omega));rw[List.all_eq_true]at hb;have e1:m.1.toNat=r:=by omega
 unfold b9;rw[e1];refine congrArg (λz=>(m.1,m.2.1,z)) ?_;apply List.ext_getElem?;intro p;by_cases hp:p<m.2.2.length;·rw[List.getElem?_map,List.getElem?_range hp,Option.map_some];have:=of_decide_eq_true (hb p (List.mem_range.2 (by omega)));rw[this,List.getD_eq_getElem?_getD,List.getElem?_eq_getElem hp,Option.getD_some]
 ·rw[List.getElem?_eq_none (by simp;omega),List.getElem?_eq_none (Nat.le_of_not_lt hp)]
def yb:∀a:List Int,cn a a=false
 |[]=>rfl
 |x::xs=>by rw[cn,if_pos rfl];exact yb xs
def qD:∀{a b c:List Int},cn a b=true->cn b c=true->cn a c=true
 |[],[],_,h,_=>by cases h
 |[],_::_,[],_,h=>by cases h
 |[],_::_,_::_,_,_=>rfl
 |_::_,[],_,h,_=>by cases h
 |_::_,_::_,[],_,h=>by cases h
 |x::xs,y::ys,z::zs,h1,h2=>by
  rw[cn]at h1 h2 ⊢;by_cases e1:x=y
  ·subst e1;rw[if_pos rfl]at h1;by_cases e2:x=z;·rw[if_pos e2]at h2 ⊢;exact qD h1 h2
   ·rw[if_neg e2]at h2 ⊢;exact h2
  ·rw[if_neg e1]at h1;have h1:=of_decide_eq_true h1;by_cases e2:y=z;·subst e2;rw[if_neg e1];exact decide_eq_true h1
   ·rw[if_neg e2]at h2;have h2:=of_decide_eq_true h2;rw[if_neg (by omega)];exact decide_eq_true (by omega)
def ot:∀{a b:List Int},cn a b=false->cn b a=false->a=b
 |[],[],_,_=>rfl
 |[],_::_,h,_=>by cases h
 |_::_,[],_,h=>by cases h
 |x::xs,y::ys,h1,h2=>by
  rw[cn]at h1 h2;by_cases e:x=y;·subst e;rw[if_pos rfl]at h1 h2;rw[ot h1 h2]
  ·rw[if_neg e]at h1;rw[if_neg (Ne.symm e)]at h2;have h1:=of_decide_eq_false h1;have h2:=of_decide_eq_false h2;omega
def de(f:List Int->List Int)(b:List Int)(os:List (List Int)):List Int:=os.foldl (λb o=>if cn (f o) b=true then f o else b) b
def qE(f:List Int->List Int):∀(os:List (List Int)) (b:List Int),de f b os=b\/∃o∈os,de f b os=f o
 |[],b=>.inl rfl
 |o::os,b=>by
  have e:de f b (o::os)=de f (if cn (f o) b=true then f o else b) os:=rfl;rw[e];rcases qE f os (if cn (f o) b=true then f o else b)with h|⟨o',h1,h2⟩
  ·rw[h];split;·exact .inr ⟨o,List.mem_cons_self ..,rfl⟩
   ·exact .inl rfl
  ·exact .inr ⟨o',List.mem_cons_of_mem _ h1,h2⟩
def tD(f:List Int->List Int):∀(os:List (List Int)) (b:List Int),cn b (de f b os)=false/\∀o∈os,cn (f o) (de f b os)=false
 |[],b=>⟨yb b,λo ho=>by cases ho⟩
 |o::os,b=>by
  have e:de f b (o::os)=de f (if cn (f o) b=true then f o else b) os:=rfl;rw[e];obtain⟨h1,h2⟩:=tD f os (if cn (f o) b=true then f o else b);generalize de f (if cn (f o) b=true then f o else b) os=r at h1 h2;have fin:cn b r=false/\cn (f o) r=false:=by
   by_cases h:cn (f o) b=true
   ·rw[if_pos h]at h1;refine⟨?_,h1⟩;cases hc:cn b r;·rfl
    ·rw[qD h hc]at h1;cases h1
   ·rw[if_neg h]at h1;refine⟨h1, ?_⟩;cases hc:cn (f o) r;·rfl
    ·cases hd:cn b (f o);·have:=ot hd (by simpa using h);rw[this]at h1;rw[h1]at hc;cases hc
     ·rw[qD hd hc]at h1;cases h1
  exact⟨fin.1,λo' ho'=>by
   rcases List.mem_cons.1 ho' with rfl|ho';·exact fin.2
   ·exact h2 o' ho'⟩
def dC(m:Int×Int×List Int)(o:List Int):List Int:=(b9 m o).2.2
def cB(m:Int×Int×List Int):Int×Int×List Int:=(m.1,m.2.1,de (dC m) m.2.2 (dY m.1.toNat m.1.toNat []))
end Go.Fw
