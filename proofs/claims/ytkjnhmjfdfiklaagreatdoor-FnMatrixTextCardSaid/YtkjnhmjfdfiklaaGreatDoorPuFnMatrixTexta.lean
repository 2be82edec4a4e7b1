/- The plain part: what the functions compute, in lists and numbers. Nothing is assumed. -/
import Derived.Test.YtkjnhmjfdfiklaaGreatDoorFwd
import Derived.Lib.ItoaLen
import Derived.Lib.Join
import Derived.Lib.SplitLaws
import Derived.Lib.AtoiAll
noncomputable section
set_option linter.defProp false
set_option linter.unusedVariables false
namespace Go.Fw
def inK(n lo hi:Int):Bool:=decide (lo<=n)&&decide (n<=hi)
def prevE(l:List (List Int×Int)):Nat->Option (List Int)
 | 0=>none
 | j+1=>some (l.getD j ([],0)).1
end Go.Fw
namespace Go.Fw
def zky{α:Type}(n j:Nat)(F G:Nat->α):List α:=(List.range n).map λi=>if i<j then F i else G i
section
variable {α : Type} {n j : Nat} {F G : Nat → α}
def zac:(zky n j F G).length=n:=by simp[zky]
def zgz{i:Nat}(h:i<n)(d:α):((List.range n).map F).getD i d=F i:=by
 rw[List.getD_eq_getElem?_getD,List.getElem?_map,List.getElem?_range h]
 rfl
def upto_get{i:Nat}(h:i<n)(d:α):(zky n j F G).getD i d=if i<j then F i else G i:=zgz h d
def zmu(h:j<n):(zky n j F G).set j (F j)=zky n (j+1) F G:=by
 apply List.ext_getElem?
 intro i
 by_cases hi:i<n
 ·by_cases e:j=i
  ·subst e
   rw[List.getElem?_set_self (by rw[zac];exact h)]
   simp[zky,List.getElem?_map,List.getElem?_range h]
  ·rw[List.getElem?_set_ne e]
   simp only[zky,List.getElem?_map,List.getElem?_range hi,Option.map_some]
   by_cases h1:i<j
   ·rw[if_pos h1,if_pos (by omega)]
   ·rw[if_neg h1,if_neg (by omega)]
 ·rw[List.getElem?_eq_none (by rw[List.length_set,zac];omega),List.getElem?_eq_none (by rw[zac];omega)]
def zie:zky n 0 F G=(List.range n).map G:=by simp[zky]
def zig:zky n n F G=(List.range n).map F:=by
 unfold zky
 apply List.map_congr_left
 intro i hi
 rw[if_pos (List.mem_range.1 hi)]
def zd7{l:List α}(d:α)(h:l.length=n):(List.range n).map (λi=>l.getD i d)=l:=by
 apply List.ext_getElem?
 intro i
 by_cases hi:i<n
 ·rw[List.getElem?_map,List.getElem?_range hi,Option.map_some,List.getD_eq_getElem?_getD,List.getElem?_eq_getElem (by omega),Option.getD_some]
 ·rw[List.getElem?_eq_none (by simp;omega),List.getElem?_eq_none (by omega)]
end
end Go.Fw
namespace Go.Fw
def zkr(x y:Int)(n:Nat)(hy:y=(n:Int))(hn:n<2147483648):0<=z81 .and .i64 x y/\z81 .and .i64 x y<=n:=by
 subst hy
 have e:z81 .and .i64 x (n:Int)=IntKind.i64.wrap ((BitVec.ofInt 64 x &&& BitVec.ofInt 64 (n:Int)).toNat:Int):=rfl
 have h1:(BitVec.ofInt 64 x &&& BitVec.ofInt 64 (n:Int)).toNat<=n:=by
  rw[BitVec.toNat_and]
  refine Nat.le_trans Nat.and_le_right ?_
  rw[BitVec.toNat_ofInt]
  omega
 rw[e]
 generalize(BitVec.ofInt 64 x &&& BitVec.ofInt 64 (n:Int)).toNat=k at h1
 have:IntKind.i64.wrap (k:Int)=(k:Int):=by
  simp[IntKind.wrap,IntKind.bits,IntKind.signed]
  omega
 rw[this]
 omega
def z1z(b:List Int)(r:Int×Int):Bool:=decide (0<=r.1)&&(decide (r.1<=(b.length:Int))&&decide (b.length<=maxLen))
def z8k{b:List Int}{r:Int×Int}:z1z b r=true↔0<=r.1/\r.1<=(b.length:Int)/\b.length<=maxLen:=by simp[z1z]
end Go.Fw
namespace Go.Fw
def atP(m:Int×Int×List Int)(i j:Int):Bool:=decide (0<=i)&&(decide (0<=j)&&(decide (0<=m.1)&&decide (i*m.1+j<(m.2.2.length:Int))))
def atK(m:Int×Int×List Int)(i j:Int):Int:=m.2.2.getD (i*m.1+j).toNat 0
def zo6{m:Int×Int×List Int}{i j:Int}(hl:m.2.2.length<=maxLen)(h:atP m i j=true):w64 (w64 (i*m.1)+j)=i*m.1+j/\0<=i*m.1+j/\i*m.1+j<(m.2.2.length:Int):=by
 simp only[atP,Bool.and_eq_true,decide_eq_true_eq]at h
 obtain⟨h1,h2,h3,h4⟩:=h
 have h5:0<=i*m.1:=Int.mul_nonneg h1 h3
 rw[z0y]at hl
 have e:w64 (i*m.1)=i*m.1:=z1c (by omega) (by omega)
 rw[e,z1c (by omega) (by omega)]
 exact⟨rfl,by omega,h4⟩
def ent(m:Int×Int×List Int)(i j:Nat):Int:=m.2.2.getD (i*m.1.toNat+j) 0
def za5{m:Int×Int×List Int}(h:0<=m.1)(i j:Nat):atK m (i:Int) (j:Int)=ent m i j:=by
 unfold atK ent
 congr 1
 obtain⟨n,hn⟩:=Int.eq_ofNat_of_zero_le h
 rw[hn]
 norm_cast
def z3i(m:Int×Int×List Int):Bool:=inK m.1 1 5&&(inK m.2.1 m.1 8&&decide ((m.2.2.length:Int)=m.1*m.2.1))
def entK(l:List Int):Bool:=l.all λx=>inK x (-99) 99
def z0t(m:Int×Int×List Int):Bool:=z3i m&&entK m.2.2
def zcr(a b:Int):Bool:=(decide (0<a) == decide (b<0))&&(decide (a=0) == decide (b=0))
def z23(m:Int×Int×List Int):Bool:=z0t m&&(List.range m.1.toNat).all λi=>(List.range m.1.toNat).all λj=>zcr (ent m i j) (ent m j i)
def z2b{n lo hi:Int}:inK n lo hi=true↔lo<=n/\n<=hi:=by simp[inK]
def z12{m:Int×Int×List Int}(h:z3i m=true):∃n r:Nat,m.1=(n:Int)/\m.2.1=(r:Int)/\1<=n/\n<=5/\n<=r/\r<=8/\m.2.2.length=r*n:=by
 simp only[z3i,Bool.and_eq_true,z2b,decide_eq_true_eq]at h
 obtain⟨⟨h1,h2⟩,⟨h3,h4⟩,h5⟩:=h
 obtain⟨n,hn⟩:=Int.eq_ofNat_of_zero_le (show 0<=m.1 by omega)
 obtain⟨r,hr⟩:=Int.eq_ofNat_of_zero_le (show 0<=m.2.1 by omega)
 refine⟨n,r,hn,hr,by omega,by omega,by omega,by omega, ?_⟩
 rw[hn,hr,Int.mul_comm]at h5
 exact_mod_cast h5
def z7t{n r i j:Nat}(hi:i<r)(hj:j<n):i*n+j<r*n:=by
 have:=Nat.mul_le_mul_right n (show i+1<=r from hi)
 rw[Nat.add_mul]at this
 omega
def zmi{m:Int×Int×List Int}(h:z3i m=true){i j:Nat}(hi:i<m.2.1.toNat)(hj:j<m.1.toNat):atP m (i:Int) (j:Int)=true:=by
 obtain⟨n,r,hn,hr,_,_,_,_,hl⟩:=z12 h
 have:=z7t (n:=n) (r:=r) (i:=i) (j:=j) (by omega) (by omega)
 simp only[atP,Bool.and_eq_true,decide_eq_true_eq,hn,hl]
 refine⟨by omega,by omega,by omega, ?_⟩
 exact_mod_cast this
def zua{l:List Int}(h:entK l=true)(i:Nat):-99<=l.getD i 0/\l.getD i 0<=99:=by
 by_cases hi:i<l.length
 ·have:=(List.all_eq_true.1 h) _ (z1l 0 hi)
  exact z2b.1 this
 ·rw[List.getD_eq_getElem?_getD,List.getElem?_eq_none (by omega),Option.getD_none];omega
def z4e{j n:Nat}(h:j<n):(List.range n).drop j=j::(List.range n).drop (j+1):=by
 rw[z4c 0 (by simpa using h),List.getD_eq_getElem?_getD,List.getElem?_range h,Option.getD_some]
end Go.Fw
namespace Go.Fw
def z3m(n:Int):ByteArray:=⟨(Lib.itoa n).toArray⟩
def lsd(u:Nat):List Int:=(Lib.decDigits u).reverse.map λb=>(b.toNat:Int)
def u8_dig{t:Nat}(h:t<10):((UInt8.ofNat (48+t)).toNat:Int)=48+(t:Int):=by
 rw[UInt8.toNat_ofNat']
 omega
def zjg{u:Nat}(h:u<10):lsd u=[48+(u:Int)]:=by
 rw[lsd,Lib.decDigits,dif_pos h]
 simp only[List.reverse_cons,List.reverse_nil,List.nil_append,List.map_cons,List.map_nil]
 rw[u8_dig h]
def zrq{u:Nat}(h:¬ u<10):lsd u=(48+((u%10:Nat):Int))::lsd (u / 10):=by
 rw[lsd,Lib.decDigits,dif_neg h,List.reverse_append]
 simp only[List.reverse_cons,List.reverse_nil,List.nil_append,List.singleton_append,List.map_cons]
 rw[u8_dig (Nat.mod_lt _ (by omega))]
 rfl
def zas(l:List UInt8):strOfNums (l.map λb=>(b.toNat:Int))=⟨l.toArray⟩:=by
 unfold strOfNums
 rw[List.map_map]
 congr 2
 conv=>rhs;rw[<-List.map_id l]
 apply List.map_congr_left
 intro b _
 simp
def nums_lsd(u:Nat):strOfNums (lsd u).reverse=⟨(Lib.decDigits u).toArray⟩:=by
 rw[lsd,<-List.map_reverse,List.reverse_reverse,zas]
def nums_neg(u:Nat):strOfNums (45::(lsd u).reverse)=⟨(45::Lib.decDigits u).toArray⟩:=by
 rw[lsd,<-List.map_reverse,List.reverse_reverse]
 exact zas (45::Lib.decDigits u)
def zmv(k:Int):Int.tmod k 10=if k<0 then -((k.natAbs%10:Nat):Int)else((k.natAbs%10:Nat):Int):=by
 split
 ·rename_i h
  obtain⟨u,rfl⟩:∃u:Nat,k=-(u:Int):=⟨k.natAbs,by omega⟩
  rw[Int.neg_tmod,Int.natAbs_neg,Int.natAbs_natCast]
  rfl
 ·rename_i h
  obtain⟨u,rfl⟩:∃u:Nat,k=(u:Int):=⟨k.toNat,by omega⟩
  rw[Int.natAbs_natCast]
  rfl
def tdiv_nat(k:Int):Int.tdiv k 10=if k<0 then -((k.natAbs / 10:Nat):Int)else((k.natAbs / 10:Nat):Int):=by
 split
 ·rename_i h
  obtain⟨u,rfl⟩:∃u:Nat,k=-(u:Int):=⟨k.natAbs,by omega⟩
  rw[Int.neg_tdiv,Int.natAbs_neg,Int.natAbs_natCast]
  rfl
 ·rename_i h
  obtain⟨u,rfl⟩:∃u:Nat,k=(u:Int):=⟨k.toNat,by omega⟩
  rw[Int.natAbs_natCast]
  rfl
def w8_id{n:Int}(h0:0<=n)(h1:n<256):w8 n=n:=by
 unfold w8
 rw[IntKind.wrap_u8]
 omega
def dig_pos{k:Int}(h:¬ Int.tmod k 10<0):w8 (w64 (48+Int.tmod k 10))=48+((k.natAbs%10:Nat):Int):=by
 have hm:k.natAbs%10<10:=Nat.mod_lt _ (by omega)
 have e:Int.tmod k 10=((k.natAbs%10:Nat):Int):=by
  rw[zmv]at h ⊢
  split
  ·rename_i hk
   rw[if_pos hk]at h
   omega
  ·rfl
 rw[e,z1c (by omega) (by omega),w8_id (by omega) (by omega)]
def dig_neg{k:Int}(h:Int.tmod k 10<0):w8 (w64 (48+w64 (0-Int.tmod k 10)))=48+((k.natAbs%10:Nat):Int):=by
 have hm:k.natAbs%10<10:=Nat.mod_lt _ (by omega)
 have e:Int.tmod k 10=-((k.natAbs%10:Nat):Int):=by
  rw[zmv]at h ⊢
  split
  ·rfl
  ·rename_i hk
   rw[if_neg hk]at h
   omega
 have e1:w64 (0 - -((k.natAbs%10:Nat):Int))=((k.natAbs%10:Nat):Int):=by rw[z1c (by omega) (by omega)];omega
 rw[e,e1,z1c (by omega) (by omega),w8_id (by omega) (by omega)]
def z9o(k:Int):(Int.tdiv k 10).natAbs=k.natAbs / 10:=by
 rw[tdiv_nat]
 split<;>omega
end Go.Fw
namespace Go.Fw
def zo5(a b:List UInt8):(⟨a.toArray⟩:ByteArray)++⟨b.toArray⟩=⟨(a++b).toArray⟩:=by
 apply ByteArray.ext
 simp
def zbg(n:Int):(z3m n).data.toList=Lib.itoa n:=by simp[z3m]
def zp7{n:Int}(h:zf0 n=true):(z3m n).size<=21:=by
 simp only[zf0,Bool.and_eq_true,decide_eq_true_eq]at h
 have:=Lib.itoa_length_le n h.1 h.2
 show(Lib.itoa n).toArray.size<=21
 simpa using this
def z2k(l:List Int):List UInt8:=Lib.join (l.map Lib.itoa) [32]
def z2l(l:List Int):ByteArray:=⟨(z2k l).toArray⟩
def zg2{l:List Int}(h:l≠[])(n:Int):z2k (l++[n])=z2k l++[32]++Lib.itoa n:=by
 unfold z2k Lib.join
 cases l with
 | nil=>exact absurd rfl h
 | cons x xs =>
  rw[List.map_append,List.map_cons,List.map_cons,List.map_nil]
  induction xs generalizing x with
  | nil=>simp[List.intercalate,List.intersperse]
  | cons y ys ih =>
   have:=ih y (by simp)
   simp only[List.map_cons,List.cons_append,List.intercalate,List.intersperse,List.flatten_cons,List.append_assoc]at this ⊢
   rw[this]
def zjl(n:Int):z2k [n]=Lib.itoa n:=by simp[z2k,Lib.join,List.intercalate]
def zs0:z2k []=[]:=rfl
def zay{l:List Int}(h:l.all zf0=true):(z2k l).length<=22*l.length:=by
 have key:∀j,j<=l.length->(z2k (l.take j)).length<=22*j:=by
  intro j
  induction j with
  | zero=>intro _;simp[zs0]
  | succ j ih =>
   intro hj
   have h2:zf0 (l.getD j 0)=true:=List.all_eq_true.1 h _ (z1l 0 hj)
   have hn:(Lib.itoa (l.getD j 0)).length<=21:=by
    simp only[zf0,Bool.and_eq_true,decide_eq_true_eq]at h2
    exact Lib.itoa_length_le _ h2.1 h2.2
   have:=ih (by omega)
   rw[<-z55 0 hj]
   by_cases he:l.take j=[]
   ·rw[he,List.nil_append,zjl]
    omega
   ·rw[zg2 he]
    simp only[List.length_append,List.length_cons,List.length_nil]
    omega
 have:=key l.length (Nat.le_refl _)
 rwa [List.take_length]at this
def zmy(l:List Int):Bool:=decide (l.length<=2097152)&&l.all zf0
end Go.Fw
namespace Go.Fw
def zrz{xs:List (List UInt8)}(h:xs≠[])(x sep:List UInt8):Lib.join (xs++[x]) sep=Lib.join xs sep++sep++x:=by
 cases xs with
 | nil=>exact absurd rfl h
 | cons y ys =>
  rw[List.cons_append,Lib.join_cons,Lib.join_cons]
  simp[Lib.joinTail,List.append_assoc]
def zna{B:Nat}{sep:List UInt8}:∀{xs:List (List UInt8)},(∀x∈xs,x.length<=B)->(Lib.join xs sep).length<=(B+sep.length)*xs.length
 | [],_=>by simp[Lib.join_nil]
 | y::ys,h=>by
  have hy:=h y (List.mem_cons_self ..)
  have ht:∀(zs:List (List UInt8)),(∀z∈zs,z.length<=B)->(Lib.joinTail sep zs).length<=(B+sep.length)*zs.length:=by
   intro zs
   induction zs with
   | nil=>intro _;simp[Lib.joinTail]
   | cons z zs ih =>
    intro hz
    have h1:=hz z (List.mem_cons_self ..)
    have h2:=ih λx hx=>hz x (List.mem_cons_of_mem _ hx)
    have e:(Lib.joinTail sep (z::zs)).length=sep.length+z.length+(Lib.joinTail sep zs).length:=by simp[Lib.joinTail,List.length_append];omega
    rw[e,List.length_cons,Nat.mul_succ]
    omega
  have:=ht ys λx hx=>h x (List.mem_cons_of_mem _ hx)
  rw[Lib.join_cons,List.length_append,List.length_cons,Nat.mul_succ]
  omega
def txt(l:List UInt8):ByteArray:=⟨l.toArray⟩
def z5w(l:List UInt8):(txt l).size=l.length:=by simp[txt,ByteArray.size]
def zad(l:List UInt8):(txt l).data.toList=l:=by simp[txt]
def zl2(a b:List UInt8):txt a++txt b=txt (a++b):=zo5 a b
def map_txt(xs:List (List UInt8)):(xs.map txt).map (·.data.toList)=xs:=by
 rw[List.map_map]
 conv=>rhs;rw[<-List.map_id xs]
 exact List.map_congr_left λx _=>zad x
end Go.Fw
namespace Go.Fw
def z7q:List Int->Nat
 | []=>0
 | x::xs=>Nat.gcd x.natAbs (z7q xs)
def zlq(l m:List Int):z7q (l++m)=Nat.gcd (z7q l) (z7q m):=by
 induction l with
 | nil=>simp[z7q]
 | cons x xs ih=>rw[List.cons_append,z7q,ih,z7q,Nat.gcd_assoc]
def zd9(c:Int)(l:List Int):z7q (l.map λx=>c*x)=c.natAbs*z7q l:=by
 induction l with
 | nil=>simp[z7q]
 | cons x xs ih=>rw[List.map_cons,z7q,ih,z7q,Int.natAbs_mul,Nat.gcd_mul_left]
def zda{l:List Int}{x:Int}(h:x∈l):((z7q l:Nat):Int)∣x:=by
 induction l with
 | nil=>cases h
 | cons y ys ih =>
  rw[z7q]
  rcases List.mem_cons.1 h with e | e
  ·subst e;exact Int.ofNat_dvd_left.2 (Nat.gcd_dvd_left _ _)
  ·exact Int.dvd_trans (Int.natCast_dvd_natCast.2 (Nat.gcd_dvd_right _ _)) (ih e)
def za8(n:Nat)(A:Nat->Nat->Int)(d:Nat->Int):Prop:=∀i,i<n->0<d i/\∀j,j<n->d i*A i j=-(d j*A j i)
def Prim(n:Nat)(A:Nat->Nat->Int)(d:Nat->Int):Prop:=∀i,i<n->∃L:List Nat,(∀k∈L,k<n)/\z7q (L.map d)=1/\∀e,za8 n A e->∀k∈L,d i*e k=d k*e i
def zn2{n:Nat}{A:Nat->Nat->Int}{d e:Nat->Int}(hd:za8 n A d)(he:za8 n A e)(pd:Prim n A d){i:Nat}(hi:i<n):d i∣e i:=by
 obtain⟨L,h1,h2,h3⟩:=pd i hi
 have h4:(L.map d).map (λx=>e i*x)=(L.map e).map (λx=>d i*x):=by
  rw[List.map_map,List.map_map]
  apply List.map_congr_left
  intro k hk
  show e i*d k=d i*e k
  rw[h3 e he k hk,Int.mul_comm]
 have h5:(e i).natAbs*1=(d i).natAbs*z7q (L.map e):=by rw[<-h2,<-zd9,<-zd9,h4]
 exact Int.natAbs_dvd_natAbs.1 ⟨z7q (L.map e),by rw[<-h5,Nat.mul_one]⟩
def good_one{n:Nat}{A:Nat->Nat->Int}{d e:Nat->Int}(hd:za8 n A d)(he:za8 n A e)(pd:Prim n A d)(pe:Prim n A e){i:Nat}(hi:i<n):d i=e i:=by
 have h1:=zn2 hd he pd hi
 have h2:=zn2 he hd pe hi
 have:=(hd i hi).1
 have:=(he i hi).1
 exact Int.dvd_antisymm (by omega) (by omega) h1 h2
def zaz{n:Nat}{A:Nat->Nat->Int}{e:Nat->Int}(he:za8 n A e){i j:Nat}(hi:i<n)(hj:j<n)(h:A i j=0):A j i=0:=by
 have h1:=(he i hi).2 j hj
 rw[h,Int.mul_zero]at h1
 have h2:e j*A j i=0:=by omega
 rcases Int.mul_eq_zero.1 h2 with h3 | h3
 ·have:=(he j hj).1;omega
 ·exact h3
def ziw{a b e f p q:Int}(he:0<e)(hf:0<f)(h:a*f=b*e)(hg:e*p=-(f*q)):a*p=-(b*q):=by
 have h1:f*(a*p)=f*(-(b*q)):=by
  calc f*(a*p)=(a*f)*p:=by rw[<-Int.mul_assoc,Int.mul_comm f a]
   _=b*(e*p):=by rw[h,Int.mul_assoc]
   _=f*(-(b*q)):=by rw[hg,Int.mul_neg,Int.mul_neg,Int.mul_left_comm]
 exact Int.eq_of_mul_eq_mul_left (by omega) h1
def zos{a b e f p q:Int}(hp:p≠0)(he:0<e)(h:a*p=-(b*q))(hg:e*p=-(f*q))(hq:q≠0):a*f=b*e:=by
 have h1:q*(a*f)=q*(b*e):=by
  calc q*(a*f)=a*(f*q):=by rw[Int.mul_left_comm,Int.mul_comm q f]
   _=a * -(e*p):=by rw[hg,Int.neg_neg]
   _=e*(-(a*p)):=by rw[Int.mul_neg,Int.mul_neg,Int.mul_left_comm]
   _=q*(b*e):=by rw[h,Int.neg_neg,Int.mul_left_comm,Int.mul_comm e q,Int.mul_left_comm]
 exact Int.eq_of_mul_eq_mul_left hq h1
def zfr{a b c e f g:Int}(hf:f≠0)(h1:a*f=b*e)(h2:b*g=c*f):a*g=c*e:=by
 have h3:f*(a*g)=f*(c*e):=by
  calc f*(a*g)=(a*f)*g:=by rw[<-Int.mul_assoc,Int.mul_comm f a]
   _=e*(b*g):=by rw[h1,Int.mul_comm b e,Int.mul_assoc]
   _=f*(c*e):=by rw[h2,Int.mul_left_comm,Int.mul_comm e f,Int.mul_left_comm]
 exact Int.eq_of_mul_eq_mul_left hf h3
open Classical in
def z3u(m:Int×Int×List Int):List Int :=
 if h:∃l:List Int,l.length=m.1.toNat/\za8 m.1.toNat (ent m) (λi=>l.getD i 0)/\Prim m.1.toNat (ent m) (λi=>l.getD i 0)then Classical.choose h else[]
def zsa{m:Int×Int×List Int}{l:List Int}(h1:l.length=m.1.toNat)(h2:za8 m.1.toNat (ent m) (λi=>l.getD i 0))(h3:Prim m.1.toNat (ent m) (λi=>l.getD i 0)):z3u m=l:=by
 have h:∃l:List Int,l.length=m.1.toNat/\za8 m.1.toNat (ent m) (λi=>l.getD i 0)/\Prim m.1.toNat (ent m) (λi=>l.getD i 0):=⟨l,h1,h2,h3⟩
 have hc:=Classical.choose_spec h
 rw[z3u,dif_pos h]
 generalize Classical.choose h=c at hc
 obtain⟨c1,c2,c3⟩:=hc
 apply List.ext_getElem?
 intro i
 by_cases hi:i<m.1.toNat
 ·have:=good_one c2 h2 c3 h3 hi
  simp only[List.getD_eq_getElem?_getD]at this
  rw[List.getElem?_eq_getElem (by omega),List.getElem?_eq_getElem (by omega)]at this ⊢
  simpa using this
 ·rw[List.getElem?_eq_none (by omega),List.getElem?_eq_none (by omega)]
def znl{m:Int×Int×List Int}(h:¬ ∃e,za8 m.1.toNat (ent m) e):z3u m=[]:=by
 rw[z3u,dif_neg]
 rintro ⟨l,_,h2,_⟩
 exact h ⟨_,h2⟩
def zdb{m:Int×Int×List Int}(h:z3u m≠[]):(z3u m).length=m.1.toNat/\za8 m.1.toNat (ent m) (λi=>(z3u m).getD i 0)/\Prim m.1.toNat (ent m) (λi=>(z3u m).getD i 0):=by
 by_cases hx:∃l:List Int,l.length=m.1.toNat/\za8 m.1.toNat (ent m) (λi=>l.getD i 0)/\Prim m.1.toNat (ent m) (λi=>l.getD i 0)
 ·have:z3u m=Classical.choose hx:=by rw[z3u,dif_pos hx]
  rw[this]
  exact Classical.choose_spec hx
 ·exact absurd (by rw[z3u,dif_neg hx]) h
def z8f{n:Nat}{A:Nat->Nat->Int}{e:Nat->Int}(he:za8 n A e){i j:Nat}(hi:i<n)(hj:j<n):zcr (A i j) (A j i)=true:=by
 have h1:=(he i hi).2 j hj
 have h2:=(he i hi).1
 have h3:=(he j hj).1
 have e1:decide (0<A i j)=decide (A j i<0):=by
  rw[decide_eq_decide]
  constructor
  ·intro h
   have:=Int.mul_pos h2 h
   rcases Int.lt_or_le (A j i) 0 with h4 | h4
   ·exact h4
   ·have:=Int.mul_nonneg (Int.le_of_lt h3) h4;omega
  ·intro h
   have:=Int.mul_neg_of_pos_of_neg h3 h
   rcases Int.lt_or_le 0 (A i j)with h4 | h4
   ·exact h4
   ·have:=Int.mul_nonpos_of_nonneg_of_nonpos (Int.le_of_lt h2) h4;omega
 have e2:decide (A i j=0)=decide (A j i=0):=by
  rw[decide_eq_decide]
  exact⟨zaz he hi hj,zaz he hj hi⟩
 rw[zcr,e1,e2]
 simp
def zju{m:Int×Int×List Int}(hs:z0t m=true)(h:z3u m≠[]):z23 m=true:=by
 obtain⟨h1,h2,h3⟩:=zdb h
 rw[z23,hs,Bool.true_and,List.all_eq_true]
 intro i hi
 rw[List.all_eq_true]
 intro j hj
 exact z8f h2 (List.mem_range.1 hi) (List.mem_range.1 hj)
end Go.Fw
namespace Go.Fw
def z39(l:List Nat):List Int:=l.map λ(x:Nat)=>(x:Int)
def z27(l:List Nat):(z39 l).length=l.length:=by simp[z39]
def z40(l:List Nat)(k:Nat):(z39 l).getD k 0=((l.getD k 0:Nat):Int):=by
 simp only[z39,List.getD_eq_getElem?_getD,List.getElem?_map]
 cases l[k]?<;>rfl
def z9s(l:List Nat)(x:Nat):z39 l++[(x:Int)]=z39 (l++[x]):=by simp[z39]
def zn7{l:List Nat}{x:Nat}:((x:Int)∈z39 l)↔x∈l:=by
 simp only[z39,List.mem_map]
 constructor
 ·rintro ⟨a,h1,h2⟩
  rwa [<-Int.ofNat.inj h2]
 ·exact λh=>⟨x,h,rfl⟩
def zat:∀(n:Nat) (l:List Nat),l.Nodup->(∀x∈l,x<n)->l.length<=n
 | 0,l,_,h=>by
  cases l with
  | nil=>simp
  | cons x xs=>exact absurd (h x (by simp)) (by omega)
 | n+1,l,hn,h=>by
  have:=zat n (l.erase n) (hn.erase n) (λx hx=>by
   have h1:=(hn.mem_erase_iff).1 hx
   have:=h x h1.2
   omega)
  rw[List.length_erase]at this
  split at this<;>omega
def pIn(A:Nat->Nat->Int)(x:Nat):List Nat->List Nat×List Nat->List Nat×List Nat
 | [],s=>s
 | j::js,s=>pIn A x js (if A x j≠0/\j∉s.1 then(s.1++[j],s.2++[x])else s)
def pGo(A:Nat->Nat->Int)(n:Nat):Nat->Nat->List Nat×List Nat->List Nat×List Nat
 | 0,_,s=>s
 | f+1,p,s=>if p<s.1.length then pGo A n f (p+1) (pIn A (s.1.getD p 0) (List.range n) s)else s
def zc5(m:Int×Int×List Int)(i:Nat):List Nat×List Nat:=pGo (ent m) m.1.toNat m.1.toNat 0 ([i],[i])
structure zd0(n:Nat)(A:Nat->Nat->Int)(i:Nat)(s:List Nat×List Nat):Prop where
 nd:s.1.Nodup
 lt:∀x∈s.1,x<n
 len:s.2.length=s.1.length
 hd:s.1.getD 0 0=i
 pos:0<s.1.length
 src:∀k,1<=k->k<s.1.length->∃k',k'<k/\s.2.getD k 0=s.1.getD k' 0/\A (s.2.getD k 0) (s.1.getD k 0)≠0
def zd0.le{n:Nat}{A:Nat->Nat->Int}{i:Nat}{s:List Nat×List Nat}(h:zd0 n A i s):s.1.length<=n:=zat n s.1 h.nd h.lt
def z2t{α:Type}{l m:List α}{k:Nat}{d:α}(h:k<l.length):(l++m).getD k d=l.getD k d:=by
 simp only[List.getD_eq_getElem?_getD]
 rw[List.getElem?_append_left h]
def z6s{α:Type}{l:List α}{x d:α}{k:Nat}(h:k=l.length):(l++[x]).getD k d=x:=by
 subst h
 simp[List.getD_eq_getElem?_getD]
def zd0.step{n:Nat}{A:Nat->Nat->Int}{i p j:Nat}{s:List Nat×List Nat}(h:zd0 n A i s)(hp:p<s.1.length)(hj:j<n)(ha:A (s.1.getD p 0) j≠0/\j∉s.1):zd0 n A i (s.1++[j],s.2++[s.1.getD p 0]):=by
 refine⟨?_, ?_, ?_, ?_, ?_, ?_⟩
 ·exact List.nodup_append.2 ⟨h.nd,by simp,λa ha' b hb e=>by
   rw[List.mem_singleton]at hb;subst hb;subst e;exact ha.2 ha'⟩
 ·intro x hx
  rcases List.mem_append.1 hx with hx | hx
  ·exact h.lt x hx
  ·rw[List.mem_singleton]at hx;omega
 ·simp[h.len]
 ·exact(z2t h.pos).trans h.hd
 ·simp
 ·intro k h1 h2
  simp only[List.length_append,List.length_cons,List.length_nil]at h2
  by_cases hk:k<s.1.length
  ·obtain⟨k',h3,h4,h5⟩:=h.src k h1 hk
   refine⟨k',h3, ?_, ?_⟩
   ·show(s.2++_).getD k 0=(s.1++_).getD k' 0
    rw[z2t (by rw[h.len];exact hk),z2t (by omega),h4]
   ·show A ((s.2++_).getD k 0) ((s.1++_).getD k 0)≠0
    rw[z2t (by rw[h.len];exact hk),z2t hk]
    exact h5
  ·have e:k=s.1.length:=by omega
   refine⟨p,by omega, ?_, ?_⟩
   ·show(s.2++_).getD k 0=(s.1++_).getD p 0
    rw[z6s (by rw[h.len];exact e),z2t hp]
   ·show A ((s.2++_).getD k 0) ((s.1++_).getD k 0)≠0
    rw[z6s (by rw[h.len];exact e),z6s e]
    exact ha.1
def zmr(s t:List Nat×List Nat):Prop:=∃u,t.1=s.1++u
def zmr.getD{s t:List Nat×List Nat}(h:zmr s t){k:Nat}(hk:k<s.1.length):t.1.getD k 0=s.1.getD k 0:=by
 obtain⟨u,h⟩:=h
 rw[h,z2t hk]
def zmr.len{s t:List Nat×List Nat}(h:zmr s t):s.1.length<=t.1.length:=by
 obtain⟨u,h⟩:=h
 rw[h];simp
def zmr.mem{s t:List Nat×List Nat}(h:zmr s t){x:Nat}(hx:x∈s.1):x∈t.1:=by
 obtain⟨u,h⟩:=h
 rw[h];exact List.mem_append_left _ hx
def zgq{n:Nat}{A:Nat->Nat->Int}{i p:Nat}:∀(js:List Nat) (s:List Nat×List Nat),zd0 n A i s->p<s.1.length->(∀j∈js,j<n) ->
  zd0 n A i (pIn A (s.1.getD p 0) js s)/\zmr s (pIn A (s.1.getD p 0) js s)/\∀j∈js,A (s.1.getD p 0) j≠0->j∈(pIn A (s.1.getD p 0) js s).1
 | [],s,h,_,_=>⟨h,⟨[],by simp[pIn]⟩,λj hj=>by cases hj⟩
 | j::js,s,h,hp,hl=>by
  by_cases ha:A (s.1.getD p 0) j≠0/\j∉s.1
  ·have e:(s.1++[j]).getD p 0=s.1.getD p 0:=z2t hp
   have:=zgq (p:=p) js (s.1++[j],s.2++[s.1.getD p 0]) (h.step hp (hl j (by simp)) ha) (by simp;omega) (λx hx=>hl x (by simp[hx]))
   simp only[e]at this
   obtain⟨h1,⟨u,h2⟩,h3⟩:=this
   rw[pIn,if_pos ha]
   refine⟨h1,⟨[j]++u,by rw[h2];simp⟩,λx hx hax=>?_⟩
   rcases List.mem_cons.1 hx with hx | hx
   ·subst hx;rw[h2];simp
   ·exact h3 x hx hax
  ·have:=zgq (p:=p) js s h hp (λx hx=>hl x (by simp[hx]))
   obtain⟨h1,h2,h3⟩:=this
   rw[pIn,if_neg ha]
   refine⟨h1,h2,λx hx hax=>?_⟩
   rcases List.mem_cons.1 hx with hx | hx
   ·subst hx
    exact h2.mem (Classical.byContradiction λhc=>ha ⟨hax,hc⟩)
   ·exact h3 x hx hax
def zrc{n:Nat}{A:Nat->Nat->Int}{i:Nat}:∀(f p:Nat) (s:List Nat×List Nat),zd0 n A i s->n<=f+p->p<=s.1.length->(∀k,k<p->∀j,j<n->A (s.1.getD k 0) j≠0->j∈s.1) ->
  zd0 n A i (pGo A n f p s)/\∀x∈(pGo A n f p s).1,∀j,j<n->A x j≠0->j∈(pGo A n f p s).1
 | 0,p,s,h,hf,hp,hc=>⟨h,λx hx j hj ha=>by
   change x∈s.1 at hx
   show j∈s.1
   obtain⟨k,hk,rfl⟩:=List.getElem_of_mem hx
   have:=h.le
   refine hc k (by omega) j hj ?_
   rw[List.getD_eq_getElem?_getD,List.getElem?_eq_getElem hk]
   exact ha⟩
 | f+1,p,s,h,hf,hp,hc=>by
  rw[pGo]
  by_cases hlt:p<s.1.length
  ·rw[if_pos hlt]
   obtain⟨h1,h2,h3⟩:=zgq (p:=p) (List.range n) s h hlt (λx hx=>List.mem_range.1 hx)
   refine zrc f (p+1) _ h1 (by omega) (by have:=h2.len;omega) ?_
   intro k hk j hj ha
   by_cases e:k=p
   ·subst e
    rw[h2.getD hlt]at ha
    exact h3 j (List.mem_range.2 hj) ha
   ·rw[h2.getD (by omega)]at ha
    exact h2.mem (hc k (by omega) j hj ha)
  ·rw[if_neg hlt]
   refine⟨h,λx hx j hj ha=>?_⟩
   obtain⟨k,hk,rfl⟩:=List.getElem_of_mem hx
   refine hc k (by omega) j hj ?_
   rw[List.getD_eq_getElem?_getD,List.getElem?_eq_getElem hk]
   exact ha
def zd0.first{n:Nat}{A:Nat->Nat->Int}{i:Nat}(h:i<n):zd0 n A i ([i],[i]) :=
 ⟨by simp,by simpa using h,rfl,rfl,by simp,λk h1 h2=>by simp at h2;omega⟩
def piece_ok{m:Int×Int×List Int}{i:Nat}(h:i<m.1.toNat):zd0 m.1.toNat (ent m) i (zc5 m i)/\∀x∈(zc5 m i).1,∀j,j<m.1.toNat->ent m x j≠0->j∈(zc5 m i).1 :=
 zrc m.1.toNat 0 _ (zd0.first h) (by omega) (by simp) (λk hk=>by omega)
end Go.Fw
namespace Go.Fw
def z28{α:Type}{l:List α}{x y:Nat}{v d:α}(h:x<l.length):(l.set x v).getD y d=if x=y then v else l.getD y d:=by
 by_cases e:x=y
 ·subst e
  rw[if_pos rfl,zh9 h]
 ·rw[if_neg e,List.getD_eq_getElem?_getD,List.getElem?_set_ne e,List.getD_eq_getElem?_getD]
def z4x{l:List Nat}(h:l.Nodup){a b:Nat}(ha:a<l.length)(hb:b<l.length)(e:l.getD a 0=l.getD b 0):a=b:=by
 rw[List.getD_eq_getElem?_getD,List.getD_eq_getElem?_getD,List.getElem?_eq_getElem ha,List.getElem?_eq_getElem hb,Option.getD_some,Option.getD_some]at e
 rcases Nat.lt_trichotomy a b with h1 | h1 | h1
 ·exact absurd e (List.pairwise_iff_getElem.1 h a b ha hb h1)
 ·exact h1
 ·exact absurd e.symm (List.pairwise_iff_getElem.1 h b a hb ha h1)
def z7f{l:List Nat}{x:Nat}(h:x∈l):∃k,k<l.length/\l.getD k 0=x:=by
 obtain⟨k,hk,rfl⟩:=List.getElem_of_mem h
 exact⟨k,hk,by rw[List.getD_eq_getElem?_getD,List.getElem?_eq_getElem hk,Option.getD_some]⟩
def zfq{α:Type}(l:List Nat)(f:Nat->α):(List.range l.length).map (λt=>f (l.getD t 0))=l.map f:=by
 have:=zd7 (n:=l.length) (l:=l) 0 rfl
 conv=>rhs;rw[<-this]
 rw[List.map_map]
 rfl
def z62(a:Int):Int:=(a.natAbs:Int)
def z92{a:Int}(h:a≠0):0<z62 a:=by unfold z62;omega
def zep{a:Int}(h:-99<=a/\a<=99):z62 a<=99:=by unfold z62;omega
def zob{e f p q:Int}(he:0<e)(hf:0<f)(h:e*p=-(f*q)):e*z62 p=f*z62 q:=by
 have h1:(e*p).natAbs=(f*q).natAbs:=by rw[h,Int.natAbs_neg]
 rw[Int.natAbs_mul,Int.natAbs_mul]at h1
 have:((e.natAbs*p.natAbs:Nat):Int)=((f.natAbs*q.natAbs:Nat):Int):=by rw[h1]
 rw[Int.natCast_mul,Int.natCast_mul,Int.natAbs_of_nonneg (Int.le_of_lt he),Int.natAbs_of_nonneg (Int.le_of_lt hf)]at this
 exact this
def z5n(q:Nat->Int):Nat->Int
 | 0=>1
 | k+1=>z5n q k*q k
def zqz(q:Nat->Int){a b:Nat}(h:a<=b):z5n q a∣z5n q b:=by
 induction b with
 | zero=>rw[show a=0 by omega];exact Int.dvd_refl _
 | succ b ih =>
  by_cases e:a=b+1
  ·subst e;exact Int.dvd_refl _
  ·exact Int.dvd_trans (ih (by omega)) ⟨q b,rfl⟩
def z67{q:Nat->Int}{n:Nat}(h:∀k,k<n->0<q k/\q k<=99):∀k,k<=n->0<z5n q k/\z5n q k<=99 ^ k
 | 0,_=>by simp[z5n]
 | k+1,hk=>by
  obtain⟨h1,h2⟩:=z67 h k (by omega)
  obtain⟨h3,h4⟩:=h k (by omega)
  refine⟨Int.mul_pos h1 h3, ?_⟩
  rw[Int.pow_succ]
  exact Int.mul_le_mul h2 h4 (by omega) (Int.pow_nonneg (by omega))
def zr1{k:Nat}(h:k<=8):(99:Int) ^ k<=9227446944279201:=by
 have h1:99 ^ k<=99 ^ 8:=Nat.pow_le_pow_right (by omega) h
 have h2:(99:Int) ^ k=((99 ^ k:Nat):Int):=by rw[Int.natCast_pow];rfl
 rw[h2]
 omega
def tree_div{H D Hk q p a:Int}(hH:0<Hk)(hq:0<q)(hp:0<p)(ha:0<a)(h1:Hk*q∣D)(h2:D∣a*Hk) :
  (Int.tdiv (a*p) q)*q=a*p/\0<Int.tdiv (a*p) q/\D∣Int.tdiv (a*p) q*(Hk*q):=by
 obtain⟨R,hR⟩:=h1
 obtain⟨c,hc⟩:=h2
 have e:a=q*(R*c):=by
  have:Hk*a=Hk*(q*(R*c)):=by
   rw[Int.mul_comm Hk a,hc,hR,<-Int.mul_assoc Hk q,Int.mul_assoc]
  exact Int.eq_of_mul_eq_mul_left (by omega) this
 have e2:Int.tdiv (a*p) q=R*c*p:=by
  rw[e,Int.mul_assoc,Int.mul_tdiv_cancel_left _ (by omega)]
 rw[e2]
 refine⟨by rw[e,Int.mul_comm (R*c*p) q,Int.mul_assoc q], ?_, ?_⟩
 ·have h3:0<q*(R*c*p):=by rw[<-Int.mul_assoc,<-e];exact Int.mul_pos ha hp
  rcases Int.lt_or_le 0 (R*c*p)with h | h
  ·exact h
  ·have:=Int.mul_nonpos_of_nonneg_of_nonpos (Int.le_of_lt hq) h;omega
 ·refine⟨c*p, ?_⟩
  rw[hR,Int.mul_comm (R*c*p),Int.mul_assoc,Int.mul_assoc,Int.mul_assoc,Int.mul_assoc]
def znh(g:Nat)(l:List Int)(x:Int)(hx:0<=x)(hg:g=z7q l):(Int.gcd (g:Int) x:Int)=((z7q (l++[x]):Nat):Int):=by
 subst hg
 rw[zlq,z7q,z7q,Nat.gcd_zero_right]
 rfl
end Go.Fw
namespace Go.Fw
def qK(m:Int×Int×List Int)(s:List Nat×List Nat)(k:Nat):Int:=if k=0 then 1 else z62 (ent m (s.1.getD k 0) (s.2.getD k 0))
def pK(m:Int×Int×List Int)(s:List Nat×List Nat)(k:Nat):Int:=z62 (ent m (s.2.getD k 0) (s.1.getD k 0))
def z8w{m:Int×Int×List Int}(h:z23 m=true){i j:Nat}(hi:i<m.1.toNat)(hj:j<m.1.toNat):ent m i j=0↔ent m j i=0:=by
 rw[z23,Bool.and_eq_true,List.all_eq_true]at h
 have h1:=List.all_eq_true.1 (h.2 i (List.mem_range.2 hi)) j (List.mem_range.2 hj)
 rw[zcr,Bool.and_eq_true]at h1
 have h2:=h1.2
 rw[beq_iff_eq,decide_eq_decide]at h2
 exact h2
def z3n{m:Int×Int×List Int}(h:z0t m=true)(i j:Nat):-99<=ent m i j/\ent m i j<=99:=by
 rw[z0t,Bool.and_eq_true]at h
 exact zua h.2 _
def z1m{m:Int×Int×List Int}(h:z23 m=true):z0t m=true:=by
 rw[z23,Bool.and_eq_true]at h
 exact h.1
def z1r{m:Int×Int×List Int}(h:z0t m=true):z3i m=true:=by
 rw[z0t,Bool.and_eq_true]at h
 exact h.1
def zin{n:Nat}{A:Nat->Nat->Int}{i:Nat}{s:List Nat×List Nat}(h:zd0 n A i s){k:Nat}(h1:1<=k)(h2:k<s.1.length):s.2.getD k 0<n:=by
 obtain⟨k',h3,h4,h5⟩:=h.src k h1 h2
 rw[h4]
 exact h.lt _ (z1l 0 (by omega))
def zd5{m:Int×Int×List Int}(hs:z23 m=true){i:Nat}{s:List Nat×List Nat}(h:zd0 m.1.toNat (ent m) i s){k:Nat}(h1:1<=k)(h2:k<s.1.length) :
  (0<qK m s k/\qK m s k<=99)/\(0<pK m s k/\pK m s k<=99):=by
 obtain⟨k',h3,h4,h5⟩:=h.src k h1 h2
 have h6:ent m (s.1.getD k 0) (s.2.getD k 0)≠0:=λe=>h5 ((z8w hs (h.lt _ (z1l 0 h2)) (zin h h1 h2)).1 e)
 have hb:=z1m hs
 rw[qK,if_neg (by omega),pK]
 exact⟨⟨z92 h6,zep (z3n hb _ _)⟩,⟨z92 h5,zep (z3n hb _ _)⟩⟩
def zdq{m:Int×Int×List Int}(hs:z23 m=true){i:Nat}{s:List Nat×List Nat}(h:zd0 m.1.toNat (ent m) i s)(k:Nat)(h2:k<s.1.length):0<qK m s k/\qK m s k<=99:=by
 by_cases e:k=0
 ·subst e
  rw[qK,if_pos rfl]
  omega
 ·exact(zd5 hs h (by omega) h2).1
structure T2(m:Int×Int×List Int)(s:List Nat×List Nat)(d0:List Int)(k:Nat)(d:List Int)(g:Int):Prop where
 len:d.length=m.1.toNat
 out:∀x,x<m.1.toNat->(∀k',k'<k->x≠s.1.getD k' 0)->d.getD x 0=d0.getD x 0
 val:∀k',k'<k->0<d.getD (s.1.getD k' 0) 0/\d.getD (s.1.getD k' 0) 0<=99 ^ (4+k')/\z5n (qK m s) s.1.length∣d.getD (s.1.getD k' 0) 0*z5n (qK m s) k
 tree:∀k',1<=k'->k'<k->d.getD (s.1.getD k' 0) 0*qK m s k'=d.getD (s.2.getD k' 0) 0*pK m s k'
 gcd:g=((z7q ((List.range k).map λt=>d.getD (s.1.getD t 0) 0):Nat):Int)
def T2.step{m:Int×Int×List Int}{s:List Nat×List Nat}{d0 d:List Int}{g:Int}{i k:Nat}(hs:z23 m=true)(h:zd0 m.1.toNat (ent m) i s)(hn:m.1.toNat<=5)(h1:1<=k)(h2:k<s.1.length)(ht:T2 m s d0 k d g) :
  (0<d.getD (s.2.getD k 0) 0*pK m s k/\d.getD (s.2.getD k 0) 0*pK m s k<=9227446944279201) /\
  (0<Int.tdiv (d.getD (s.2.getD k 0) 0*pK m s k) (qK m s k)/\Int.tdiv (d.getD (s.2.getD k 0) 0*pK m s k) (qK m s k)<=9227446944279201) /\
  T2 m s d0 (k+1) (d.set (s.1.getD k 0) (Int.tdiv (d.getD (s.2.getD k 0) 0*pK m s k) (qK m s k))) (Int.gcd g (Int.tdiv (d.getD (s.2.getD k 0) 0*pK m s k) (qK m s k))):=by
 obtain⟨⟨hq,hq9⟩,hp,hp9⟩:=zd5 hs h h1 h2
 obtain⟨k',h3,h4,h5⟩:=h.src k h1 h2
 obtain⟨a1,a2,a3⟩:=ht.val k' h3
 have hle:=h.le
 rw[<-h4]at a1 a2 a3
 have hH:=(z67 (zdq hs h) k (by omega)).1
 have hx:s.1.getD k 0<d.length:=by rw[ht.len];exact h.lt _ (z1l 0 h2)
 have hdv:z5n (qK m s) k*qK m s k∣z5n (qK m s) s.1.length:=zqz (qK m s) (show k+1<=s.1.length from h2)
 obtain⟨b1,b2,b3⟩:=tree_div (H:=0) hH hq hp a1 hdv a3
 have hb:d.getD (s.2.getD k 0) 0*pK m s k<=99 ^ (4+k):=by
  have:d.getD (s.2.getD k 0) 0*pK m s k<=99 ^ (4+k')*99:=Int.mul_le_mul a2 hp9 (by omega) (Int.pow_nonneg (by omega))
  rw[<-Int.pow_succ]at this
  refine Int.le_trans this ?_
  have h6:99 ^ (4+k'+1)<=99 ^ (4+k):=Nat.pow_le_pow_right (by omega) (by omega)
  exact_mod_cast h6
 have hp8:=zr1 (k:=4+k) (by omega)
 generalize hv:Int.tdiv (d.getD (s.2.getD k 0) 0*pK m s k) (qK m s k)=v at b1 b2 b3
 have hvle:v<=d.getD (s.2.getD k 0) 0*pK m s k:=by
  rw[<-b1]
  have:=Int.mul_le_mul_of_nonneg_left (show(1:Int)<=qK m s k by omega) (Int.le_of_lt b2)
  omega
 have hne:∀t,t<k->s.1.getD k 0≠s.1.getD t 0:=λt ht' e=>by
  have:=z4x h.nd h2 (by omega) e;omega
 have hget:∀t,t<k->(d.set (s.1.getD k 0) v).getD (s.1.getD t 0) 0=d.getD (s.1.getD t 0) 0:=λt ht'=>by
  rw[z28 hx,if_neg (hne t ht')]
 have hself:(d.set (s.1.getD k 0) v).getD (s.1.getD k 0) 0=v:=by rw[z28 hx,if_pos rfl]
 refine⟨⟨Int.mul_pos a1 hp,by omega⟩,⟨b2,by omega⟩,⟨?_, ?_, ?_, ?_, ?_⟩⟩
 ·rw[List.length_set,ht.len]
 ·intro x hx' hall
  rw[z28 hx,if_neg (λe=>hall k (by omega) e.symm)]
  exact ht.out x hx' (λt ht'=>hall t (by omega))
 ·intro t ht'
  by_cases e:t=k
  ·subst e
   rw[hself]
   exact⟨b2,by omega,b3⟩
  ·rw[hget t (by omega)]
   obtain⟨c1,c2,c3⟩:=ht.val t (by omega)
   refine⟨c1,c2, ?_⟩
   rw[z5n,<-Int.mul_assoc]
   exact Int.dvd_trans c3 ⟨_,rfl⟩
 ·intro t ht1 ht2
  by_cases e:t=k
  ·subst e
   rw[hself,h4,hget k' h3,<-h4]
   exact b1
  ·obtain⟨t',c1,c2,_⟩:=h.src t ht1 (by omega)
   rw[hget t (by omega),c2,hget t' (by omega),<-c2]
   exact ht.tree t ht1 (by omega)
 ·rw[List.range_succ,List.map_append,List.map_cons,List.map_nil,hself]
  rw[show(List.range k).map (λt=>(d.set (s.1.getD k 0) v).getD (s.1.getD t 0) 0)=(List.range k).map (λt=>d.getD (s.1.getD t 0) 0)from List.map_congr_left (λt ht'=>hget t (List.mem_range.1 ht'))]
  rw[ht.gcd]
  exact znh _ _ v (by omega) rfl
def T2.g_range{m:Int×Int×List Int}{s:List Nat×List Nat}{d0 d:List Int}{g:Int}{k:Nat}(h1:1<=k)(ht:T2 m s d0 k d g):0<g/\g<=9227446944279201:=by
 obtain⟨a1,a2,_⟩:=ht.val 0 (by omega)
 have hd:g∣d.getD (s.1.getD 0 0) 0:=by
  rw[ht.gcd]
  exact zda (List.mem_map.2 ⟨0,List.mem_range.2 (by omega),rfl⟩)
 have:=Int.le_of_dvd a1 hd
 have hp:=zr1 (k:=4+0) (by omega)
 refine⟨?_,by omega⟩
 rcases Int.lt_or_le 0 g with h | h
 ·exact h
 ·have h0:0<=g:=by rw[ht.gcd];omega
  have e:g=0:=by omega
  rw[e]at hd
  have:=Int.zero_dvd.1 hd
  omega
structure T3(m:Int×Int×List Int)(s:List Nat×List Nat)(d2:List Int)(g:Int)(k:Nat)(d:List Int):Prop where
 len:d.length=m.1.toNat
 out:∀x,x<m.1.toNat->(∀k',k'<k->x≠s.1.getD k' 0)->d.getD x 0=d2.getD x 0
 val:∀k',k'<k->d.getD (s.1.getD k' 0) 0=Int.tdiv (d2.getD (s.1.getD k' 0) 0) g
def T3.step{m:Int×Int×List Int}{s:List Nat×List Nat}{d2 d:List Int}{g:Int}{k:Nat}(hnd:s.1.Nodup)(hlt:∀x∈s.1,x<m.1.toNat)(h2:k<s.1.length)(ht:T3 m s d2 g k d) :
  T3 m s d2 g (k+1) (d.set (s.1.getD k 0) (Int.tdiv (d2.getD (s.1.getD k 0) 0) g)):=by
 have hx:s.1.getD k 0<d.length:=by rw[ht.len];exact hlt _ (z1l 0 h2)
 refine⟨by rw[List.length_set,ht.len], ?_, ?_⟩
 ·intro x hx' hall
  rw[z28 hx,if_neg (λe=>hall k (by omega) e.symm)]
  exact ht.out x hx' (λt ht'=>hall t (by omega))
 ·intro t ht'
  by_cases e:t=k
  ·subst e
   rw[z28 hx,if_pos rfl]
  ·rw[z28 hx,if_neg (λe'=>e (z4x hnd h2 (by omega) e').symm)]
   exact ht.val t (by omega)
def T3.cur{m:Int×Int×List Int}{s:List Nat×List Nat}{d2 d:List Int}{g:Int}{k:Nat}(hnd:s.1.Nodup)(hlt:∀x∈s.1,x<m.1.toNat)(h2:k<s.1.length)(ht:T3 m s d2 g k d) :
  d.getD (s.1.getD k 0) 0=d2.getD (s.1.getD k 0) 0 :=
 ht.out _ (hlt _ (z1l 0 h2)) (λt ht' e=>by have:=z4x hnd h2 (by omega) e;omega)
def Part(n:Nat)(A:Nat->Nat->Int)(d:Nat->Int):Prop:=∀j,j<n->0<=d j/\d j<=9227446944279201 /\
 (0<d j->∃L:List Nat,j∈L/\(∀k∈L,k<n/\0<d k)/\(∀k,k<n->A j k≠0->k∈L)/\z7q (L.map d)=1/\∀e,za8 n A e->∀k∈L,d j*e k=d k*e j)
def zqf{m:Int×Int×List Int}{s:List Nat×List Nat}{d0 d:List Int}{g:Int}{i:Nat}(hs:z23 m=true)(h:zd0 m.1.toNat (ent m) i s)(ht:T2 m s d0 s.1.length d g){e:Nat->Int}(he:za8 m.1.toNat (ent m) e) :
  ∀k,k<s.1.length->d.getD i 0*e (s.1.getD k 0)=d.getD (s.1.getD k 0) 0*e i:=by
 intro k
 induction k using Nat.strongRecOn with
 | _ k ih =>
  intro hk
  by_cases h0:k=0
  ·subst h0
   rw[h.hd]
  ·obtain⟨k',h3,h4,h5⟩:=h.src k (by omega) hk
   have h6:=ih k' h3 (by omega)
   rw[<-h4]at h6
   have hlk:=h.lt _ (z1l 0 hk)
   have hfk:=zin h (show 1<=k by omega) hk
   have h7:=zob (he _ hfk).1 (he _ hlk).1 ((he _ hfk).2 _ hlk)
   have h8:=ht.tree k (by omega) hk
   obtain⟨⟨hq,_⟩,hp,_⟩:=zd5 hs h (show 1<=k by omega) hk
   rw[show z62 (ent m (s.1.getD k 0) (s.2.getD k 0))=qK m s k by rw[qK,if_neg h0]]at h7
   have h7':e (s.2.getD k 0)*pK m s k=e (s.1.getD k 0)*qK m s k:=h7
   have h9:d.getD (s.2.getD k 0) 0*e (s.1.getD k 0)=d.getD (s.1.getD k 0) 0*e (s.2.getD k 0) :=
    zos (p:=pK m s k) (q:=-(qK m s k)) (by omega) (he _ hfk).1 (by rw[Int.mul_neg,Int.neg_neg];exact h8.symm) (by rw[Int.mul_neg,Int.neg_neg];exact h7') (by omega)
   have:=(he _ hfk).1
   exact zfr (by omega) h6 h9
def zr4{m:Int×Int×List Int}{s:List Nat×List Nat}{d0 d2 d:List Int}{g:Int}{i:Nat}(hs:z23 m=true)(hi:i<m.1.toNat)(h:zd0 m.1.toNat (ent m) i s)(hn:m.1.toNat<=5)
  (hcl:∀x∈s.1,∀j,j<m.1.toNat->ent m x j≠0->j∈s.1)
  (h0:Part m.1.toNat (ent m) (λx=>d0.getD x 0)) (hz:d0.getD i 0<=0) (h2:T2 m s d0 s.1.length d2 g) (h3:T3 m s d2 g s.1.length d) :
  Part m.1.toNat (ent m) (λx=>d.getD x 0)/\0<d.getD i 0/\∀x,x<m.1.toNat->0<d0.getD x 0->0<d.getD x 0:=by
 have hg:=h2.g_range h.pos
 have hle:=h.le
 have hnew:∀k,k<s.1.length->d0.getD (s.1.getD k 0) 0<=0:=by
  intro k
  induction k using Nat.strongRecOn with
  | _ k ih =>
   intro hk
   by_cases hk0:k=0
   ·subst hk0;rw[h.hd];exact hz
   ·obtain⟨k',a1,a2,a3⟩:=h.src k (by omega) hk
    have b1:=ih k' a1 (by omega)
    rw[<-a2]at b1
    rcases Int.lt_or_le 0 (d0.getD (s.1.getD k 0) 0)with hc | hc
    ·have hlk:=h.lt _ (z1l 0 hk)
     have hfk:=zin h (show 1<=k by omega) hk
     obtain⟨L,c1,c2,c3,_⟩:=(h0 _ hlk).2.2 hc
     have b4:0<d0.getD (s.2.getD k 0) 0:=(c2 _ (c3 _ hfk (λe=>a3 ((z8w hs hlk hfk).1 e)))).2
     have b2:d0.getD (s.2.getD k 0) 0<=0:=b1
     omega
    ·exact hc
 have hin:∀x∈s.1,d.getD x 0*g=d2.getD x 0/\0<d.getD x 0/\d.getD x 0<=9227446944279201:=by
  intro x hx
  obtain⟨k,hk,rfl⟩:=z7f hx
  have a1:=h3.val k hk
  obtain⟨b1,b2,_⟩:=h2.val k hk
  have b3:g∣d2.getD (s.1.getD k 0) 0:=by
   rw[h2.gcd]
   exact zda (List.mem_map.2 ⟨k,List.mem_range.2 hk,rfl⟩)
  have b4:d.getD (s.1.getD k 0) 0*g=d2.getD (s.1.getD k 0) 0:=by rw[a1];exact Int.tdiv_mul_cancel b3
  have b5:=zr1 (k:=4+k) (by omega)
  have b6:0<d.getD (s.1.getD k 0) 0:=by
   rcases Int.lt_or_le 0 (d.getD (s.1.getD k 0) 0)with hc | hc
   ·exact hc
   ·have:=Int.mul_nonpos_of_nonpos_of_nonneg hc (Int.le_of_lt hg.1);omega
  refine⟨b4,b6, ?_⟩
  have:=Int.mul_le_mul_of_nonneg_left (show(1:Int)<=g by omega) (Int.le_of_lt b6)
  omega
 have hout:∀x,x<m.1.toNat->x∉s.1->d.getD x 0=d0.getD x 0:=by
  intro x hx hni
  have hne:∀k',k'<s.1.length->x≠s.1.getD k' 0:=λk' hk' e=>hni (by rw[e];exact z1l 0 hk')
  rw[h3.out x hx hne,h2.out x hx hne]
 have himem:i∈s.1:=by rw[<-h.hd];exact z1l 0 h.pos
 refine⟨?_,(hin i himem).2.1, ?_⟩
 ·intro j hj
  by_cases hm:j∈s.1
  ·obtain⟨a1,a2,a3⟩:=hin j hm
   refine⟨Int.le_of_lt a2,a3,λ_=>⟨s.1,hm,λk hk=>⟨h.lt k hk,(hin k hk).2.1⟩,λk hk ha=>hcl j hm k hk ha, ?_, ?_⟩⟩
   ·have e1:s.1.map (λx=>g*d.getD x 0)=s.1.map (λx=>d2.getD x 0):=List.map_congr_left (λx hx=>by rw[Int.mul_comm];exact(hin x hx).1)
    have e2:=zd9 g (s.1.map (λx=>d.getD x 0))
    rw[List.map_map]at e2
    have e3:z7q (s.1.map (λx=>d2.getD x 0))=g.natAbs*z7q (s.1.map (λx=>d.getD x 0)):=by rw[<-e1];exact e2
    have e4:g=((z7q (s.1.map (λx=>d2.getD x 0)):Nat):Int):=by
     rw[<-zfq s.1 (λx=>d2.getD x 0)]
     exact h2.gcd
    have e5:z7q (s.1.map (λx=>d2.getD x 0))=g.natAbs:=by
     have:=congrArg Int.natAbs e4
     simpa using this.symm
    rw[e5]at e3
    exact Nat.eq_of_mul_eq_mul_left (show 0<g.natAbs by omega) (by rw[Nat.mul_one];exact e3.symm)
   ·intro e he k hk
    have key:∀x∈s.1,d.getD i 0*e x=d.getD x 0*e i:=by
     intro x hx
     obtain⟨kx,hkx,rfl⟩:=z7f hx
     have c1:=zqf hs h h2 he kx hkx
     rw[<-(hin i himem).1,<-(hin _ hx).1]at c1
     have c2:g*(d.getD i 0*e (s.1.getD kx 0))=g*(d.getD (s.1.getD kx 0) 0*e i):=by
      rw[<-Int.mul_assoc,<-Int.mul_assoc,Int.mul_comm g,Int.mul_comm g]
      exact c1
     exact Int.eq_of_mul_eq_mul_left (by omega) c2
    have:=(he i hi).1
    exact zfr (b:=d.getD i 0) (f:=e i) (by omega) (key j hm).symm (key k hk)
  ·have e:=hout j hj hm
   obtain⟨a1,a2,a3⟩:=h0 j hj
   show 0<=d.getD j 0/\d.getD j 0<=_/\(0<d.getD j 0->_)
   rw[e]
   refine⟨a1,a2,λhpos=>?_⟩
   obtain⟨L,b1,b2,b3,b4,b5⟩:=a3 hpos
   have hL:∀k∈L,d.getD k 0=d0.getD k 0:=λk hk=>hout k (b2 k hk).1 (λhc=>by
    obtain⟨kx,hkx,e'⟩:=z7f hc
    have:=hnew kx hkx
    rw[e']at this
    have b6:0<d0.getD k 0:=(b2 k hk).2
    omega)
   refine⟨L,b1,λk hk=>⟨(b2 k hk).1,by show 0<d.getD k 0;rw[hL k hk];exact(b2 k hk).2⟩,b3, ?_, ?_⟩
   ·rw[show L.map (λx=>d.getD x 0)=L.map (λx=>d0.getD x 0)from List.map_congr_left hL];exact b4
   ·intro e' he' k hk
    show d.getD j 0*e' k=d.getD k 0*e' j
    rw[hL k hk,e]
    exact b5 e' he' k hk
 ·intro x hx hp
  by_cases hm:x∈s.1
  ·exact(hin x hm).2.1
  ·rw[hout x hx hm];exact hp
def zn4{m:Int×Int×List Int}{d:List Int}(hl:d.length=m.1.toNat)(h:Part m.1.toNat (ent m) (λx=>d.getD x 0))(hp:∀x,x<m.1.toNat->0<d.getD x 0)
  (hc:∀i,i<m.1.toNat->∀j,j<m.1.toNat->d.getD i 0*ent m i j=-(d.getD j 0*ent m j i)):z3u m=d:=by
 refine zsa hl (λi hi=>⟨hp i hi,hc i hi⟩) (λi hi=>?_)
 obtain⟨L,a1,a2,a3,a4,a5⟩:=(h i hi).2.2 (hp i hi)
 exact⟨L,λk hk=>(a2 k hk).1,a4,a5⟩
def zr7{m:Int×Int×List Int}{d:List Int}(hs:z23 m=true)(h:Part m.1.toNat (ent m) (λx=>d.getD x 0))(hp:∀x,x<m.1.toNat->0<d.getD x 0){e:Nat->Int}(he:za8 m.1.toNat (ent m) e)
  {i j:Nat} (hi:i<m.1.toNat) (hj:j<m.1.toNat):d.getD i 0*ent m i j=-(d.getD j 0*ent m j i):=by
 by_cases ha:ent m i j=0
 ·rw[ha,(z8w hs hi hj).1 ha];simp
 ·obtain⟨L,a1,a2,a3,a4,a5⟩:=(h i hi).2.2 (hp i hi)
  exact ziw (he i hi).1 (he j hj).1 (a5 e he j (a3 j hj ha)) ((he i hi).2 j hj)
def zr6{m:Int×Int×List Int}{d:List Int}(hs:z23 m=true)(h:Part m.1.toNat (ent m) (λx=>d.getD x 0))(hp:∀x,x<m.1.toNat->0<d.getD x 0)
  {i j:Nat} (hi:i<m.1.toNat) (hj:j<m.1.toNat) (hc:d.getD i 0*ent m i j≠-(d.getD j 0*ent m j i)):z3u m=[]:=by
 refine znl (λ⟨e,he⟩=>hc ?_)
 by_cases ha:ent m i j=0
 ·rw[ha,(z8w hs hi hj).1 ha];simp
 ·obtain⟨L,a1,a2,a3,a4,a5⟩:=(h i hi).2.2 (hp i hi)
  exact ziw (he i hi).1 (he j hj).1 (a5 e he j (a3 j hj ha)) ((he i hi).2 j hj)
end Go.Fw
namespace Go.Fw
def mutE(f:Bool)(a b c:Int):Int:=if f=true then -a else if 0<b/\0<c then a+b*c else if b<0/\c<0 then a-b*c else a
def mutF(m:Int×Int×List Int)(k p:Nat):Int:=mutE (decide (p / m.1.toNat=k)||decide (p%m.1.toNat=k)) (m.2.2.getD p 0) (ent m (p / m.1.toNat) k) (ent m k (p%m.1.toNat))
def z6h(m:Int×Int×List Int)(k:Nat):Int×Int×List Int:=(m.1,m.2.1,(List.range m.2.2.length).map (mutF m k))
def zhv{i j n:Nat}(h:j<n):(i*n+j) / n=i:=by
 rw[Nat.add_comm,Nat.add_mul_div_right _ _ (by omega),Nat.div_eq_of_lt h,Nat.zero_add]
def zro{i j n:Nat}(h:j<n):(i*n+j)%n=j:=by
 rw[Nat.add_comm,Nat.add_mul_mod_self_right,Nat.mod_eq_of_lt h]
def zlm{m:Int×Int×List Int}{k i j:Nat}(hj:j<m.1.toNat):mutF m k (i*m.1.toNat+j)=mutE (decide (i=k)||decide (j=k)) (ent m i j) (ent m i k) (ent m k j):=by
 unfold mutF
 rw[zhv hj,zro hj]
 rfl
def z6t{m:Int×Int×List Int}(hd:z3i m=true){k i j:Nat}(hi:i<m.2.1.toNat)(hj:j<m.1.toNat):ent (z6h m k) i j=mutE (decide (i=k)||decide (j=k)) (ent m i j) (ent m i k) (ent m k j):=by
 obtain⟨n,r,hn,hr,hn1,hn5,hnr,hr8,hl⟩:=z12 hd
 rw[<-zlm hj]
 show((List.range m.2.2.length).map (mutF m k)).getD (i*m.1.toNat+j) 0=_
 refine zgz ?_ 0
 have:=z7t (n:=n) (r:=r) (i:=i) (j:=j) (by omega) (by omega)
 rw[hl,hn]
 exact this
def za2{m:Int×Int×List Int}(hd:z3i m=true)(k:Nat):z3i (z6h m k)=true:=by
 simp only[z3i,z6h,Bool.and_eq_true,decide_eq_true_eq,List.length_map,List.length_range]at hd ⊢
 exact hd
def zfy{f:Bool}{a b c:Int}(ha:-99<=a/\a<=99)(hb:-99<=b/\b<=99)(hc:-99<=c/\c<=99):-9801<=b*c/\b*c<=9801:=by
 have h1:(b*c).natAbs<=99*99:=by
  rw[Int.natAbs_mul]
  exact Nat.mul_le_mul (by omega) (by omega)
 omega
def zd8{m:Int×Int×List Int}(hd:z3i m=true){k:Nat}(hk:k<m.1.toNat){d:Nat->Int}(h:za8 m.1.toNat (ent m) d):za8 (z6h m k).1.toNat (ent (z6h m k)) d:=by
 obtain⟨n,r,hn,hr,hn1,hn5,hnr,hr8,hl⟩:=z12 hd
 show za8 m.1.toNat _ d
 intro i hi
 refine⟨(h i hi).1,λj hj=>?_⟩
 rw[z6t hd (by omega) hj,z6t hd (by omega) hi]
 have e1:=(h i hi).2 j hj
 have e2:=(h i hi).2 k hk
 have e3:=(h k hk).2 j hj
 have p1:=(h i hi).1
 have p2:=(h j hj).1
 have p3:=(h k hk).1
 have s1:=z8f h hi hk
 have s2:=z8f h hk hj
 simp only[zcr,Bool.and_eq_true,beq_iff_eq,decide_eq_decide]at s1 s2
 generalize ent m i j=a at *
 generalize ent m j i=a' at *
 generalize ent m i k=b at *
 generalize ent m k j=c at *
 generalize ent m j k=b' at *
 generalize ent m k i=c' at *
 rw[Bool.or_comm (decide (j=k))]
 cases(decide (i=k)||decide (j=k))
 ·unfold mutE
  simp only[Bool.false_eq_true,if_false]
  by_cases h1:0<b/\0<c
  ·rw[if_pos h1,if_neg (by omega),if_pos (by omega)]
   grind
  ·rw[if_neg h1]
   by_cases h2:b<0/\c<0
   ·rw[if_pos h2,if_pos (by omega)]
    grind
   ·rw[if_neg h2,if_neg (by omega),if_neg (by omega)]
    exact e1
 ·unfold mutE
  simp only[if_true]
  grind
def zif{α:Type}{n p:Nat}{F G:Nat->α}(h:F p=G p):zky n (p+1) F G=zky n p F G:=by
 unfold zky
 apply List.map_congr_left
 intro i hi
 by_cases h1:i<p
 ·rw[if_pos h1,if_pos (by omega)]
 ·rw[if_neg h1]
  by_cases h2:i=p
  ·subst h2;rw[if_pos (by omega)];exact h
  ·rw[if_neg (by omega)]
end Go.Fw
set_option linter.unusedSectionVars false
namespace Go.Fw
def zlj(l:List Int)(n:Int)(i:Nat):Bool:=inK (l.getD i 0) 0 (n-1)&&!((l.take i).any λx=>decide (x=l.getD i 0))
def z6l(l:List Int)(n:Int):Bool:=decide ((l.length:Int)=n)&&(List.range l.length).all (zlj l n)
def z6y{l:List Int}{n:Int}(h:z6l l n=true):∃L:List Nat,l=z39 L/\L.Nodup/\(∀x∈L,x<n.toNat)/\L.length=n.toNat:=by
 simp only[z6l,Bool.and_eq_true,decide_eq_true_eq,List.all_eq_true,List.mem_range,zlj,z2b]at h
 obtain⟨h1,h2⟩:=h
 have e:l=z39 (l.map Int.toNat):=by
  apply List.ext_getElem?
  intro i
  by_cases hi:i<l.length
  ·have:=(h2 i hi).1
   rw[List.getD_eq_getElem?_getD,List.getElem?_eq_getElem hi,Option.getD_some]at this
   simp only[z39,List.map_map,List.getElem?_map,List.getElem?_eq_getElem hi,Option.map_some,Function.comp]
   congr 1
   omega
  ·rw[List.getElem?_eq_none (by omega),List.getElem?_eq_none (by rw[z27];simp;omega)]
 refine⟨l.map Int.toNat,e, ?_, ?_,by simp;omega⟩
 ·refine List.pairwise_iff_getElem.2 (λi j hi hj hij=>?_)
  have hi':i<l.length:=by simpa using hi
  have hj':j<l.length:=by simpa using hj
  have h3:=h2 j hj'
  have h4:=h2 i hi'
  rw[List.getD_eq_getElem?_getD,List.getElem?_eq_getElem hj',Option.getD_some]at h3
  rw[List.getD_eq_getElem?_getD,List.getElem?_eq_getElem hi',Option.getD_some]at h4
  simp only[List.getElem_map]
  intro hc
  have hne:l[i]=l[j]:=by omega
  have h5:=h3.2
  rw[Bool.not_eq_true',List.any_eq_false]at h5
  have:=h5 l[i] (by
   rw[List.mem_iff_getElem]
   exact⟨i,by rw[List.length_take];omega,by rw[List.getElem_take]⟩)
  simp[hne]at this
 ·intro x hx
  obtain⟨y,hy,rfl⟩:=List.mem_map.1 hx
  obtain⟨i,hi,rfl⟩:=List.getElem_of_mem hy
  have:=(h2 i hi).1
  rw[List.getD_eq_getElem?_getD,List.getElem?_eq_getElem hi,Option.getD_some]at this
  omega
def zap:List Nat->Nat->Nat
 | [],_=>0
 | x::xs,b=>if x=b then 0 else zap xs b+1
def z3c:∀{L:List Nat} {b:Nat},b∈L->zap L b<L.length/\L.getD (zap L b) 0=b
 | [],b,h=>by cases h
 | x::xs,b,h=>by
  rw[zap]
  by_cases e:x=b
  ·rw[if_pos e]
   exact⟨by simp,by simpa using e⟩
  ·rw[if_neg e]
   rcases List.mem_cons.1 h with h | h
   ·exact absurd h.symm e
   ·obtain⟨h1,h2⟩:=z3c h
    exact⟨by simp;omega,by simpa[List.getD_cons_succ]using h2⟩
def z3b{L:List Nat}{n:Nat}(h1:L.Nodup)(h2:∀x∈L,x<n)(h3:L.length=n){b:Nat}(hb:b<n):b∈L:=by
 refine Classical.byContradiction λhc=>?_
 have:=zat n (b::L) (List.nodup_cons.2 ⟨hc,h1⟩) (λx hx=>by
  rcases List.mem_cons.1 hx with e | e
  ·omega
  ·exact h2 x e)
 simp at this
 omega
def z5o{L:List Nat}(h:L.Nodup){j:Nat}(hj:j<L.length):zap L (L.getD j 0)=j:=by
 obtain⟨h1,h2⟩:=z3c (z1l (l:=L) 0 hj)
 exact z4x h h1 hj h2
def zd4(n:Nat)(L:List Nat)(i:Nat):Nat:=if i<n then L.getD i 0 else i
def zfn(n:Nat)(L:List Nat)(p:Nat):Nat:=if p<n then zap L p else p
def za4(n:Nat)(L:List Nat)(p:Nat):Nat:=zfn n L (p / n)*n+zap L (p%n)
def z94(m:Int×Int×List Int)(names:List Int):Int×Int×List Int:=(m.1,m.2.1,(List.range m.2.2.length).map λp=>m.2.2.getD (za4 m.1.toNat (names.map Int.toNat) p) 0)
def z43(L:List Nat):(z39 L).map Int.toNat=L:=by
 simp only[z39,List.map_map]
 conv=>rhs;rw[<-List.map_id L]
 apply List.map_congr_left
 intro x _
 simp
def zqp(total t:Nat)(back:Nat->Nat)(F G:Nat->Int):List Int:=(List.range total).map λp=>if back p<t then F p else G p
def zd3{total t:Nat}{back:Nat->Nat}{F G:Nat->Int}:(zqp total t back F G).length=total:=by simp[zqp]
def scat_set{total t p:Nat}{back:Nat->Nat}{F G:Nat->Int}(hp:p<total)(hb:back p=t)(hinj:∀q,q<total->back q=t->q=p):(zqp total t back F G).set p (F p)=zqp total (t+1) back F G:=by
 apply List.ext_getElem?
 intro q
 by_cases hq:q<total
 ·by_cases e:p=q
  ·subst e
   rw[List.getElem?_set_self (by rw[zd3];exact hp)]
   simp only[zqp,List.getElem?_map,List.getElem?_range hp,Option.map_some]
   rw[if_pos (by omega)]
  ·rw[List.getElem?_set_ne e]
   simp only[zqp,List.getElem?_map,List.getElem?_range hq,Option.map_some]
   have hne:back q≠t:=λh=>e (hinj q hq h).symm
   by_cases h1:back q<t
   ·rw[if_pos h1,if_pos (by omega)]
   ·rw[if_neg h1,if_neg (by omega)]
 ·rw[List.getElem?_eq_none (by rw[List.length_set,zd3];omega),List.getElem?_eq_none (by rw[zd3];omega)]
def zqn{total:Nat}{back:Nat->Nat}{F G:Nat->Int}:zqp total 0 back F G=(List.range total).map G:=by simp[zqp]
def zqo{total:Nat}{back:Nat->Nat}{F G:Nat->Int}(h:∀p,p<total->back p<total):zqp total total back F G=(List.range total).map F:=by
 unfold zqp
 apply List.map_congr_left
 intro i hi
 rw[if_pos (h i (List.mem_range.1 hi))]
section
variable {n r : Nat} {L : List Nat} (h1 : L.Nodup) (h2 : ∀ x ∈ L, x < n) (h3 : L.length = n) (hnr : n ≤ r)
include h1 h2 h3
theorem zit{i:Nat}:zfn n L (zd4 n L i)=i:=by
 unfold zd4 zfn
 by_cases h:i<n
 ·have:=h2 _ (z1l (l:=L) (j:=i) 0 (by omega))
  rw[if_pos h,if_pos this,z5o h1 (by omega)]
 ·rw[if_neg h,if_neg h]
theorem ziu{p:Nat}:zd4 n L (zfn n L p)=p:=by
 unfold zd4 zfn
 by_cases h:p<n
 ·obtain⟨a,b⟩:=z3c (z3b h1 h2 h3 h)
  rw[if_pos h,if_pos (by omega),b]
 ·rw[if_neg h,if_neg h]
include hnr
theorem zqs{i:Nat}(h:i<r):zd4 n L i<r:=by
 unfold zd4
 split
 ·rename_i h'
  have:=h2 _ (z1l (l:=L) (j:=i) 0 (by omega))
  omega
 ·exact h
theorem zla{p:Nat}(h:p<r):zfn n L p<r:=by
 unfold zfn
 split
 ·rename_i h'
  have:=(z3c (z3b h1 h2 h3 h')).1
  omega
 ·exact h
theorem zo4{i j:Nat}(hj:j<n):za4 n L (zd4 n L i*n+L.getD j 0)=i*n+j:=by
 have:=h2 _ (z1l (l:=L) (j:=j) 0 (by omega))
 unfold za4
 rw[Nat.add_comm (zd4 n L i*n),Nat.add_mul_div_right _ _ (by omega),Nat.div_eq_of_lt this,Nat.zero_add,Nat.add_mul_mod_self_right,Nat.mod_eq_of_lt this,zit h1 h2 h3,z5o h1 (by omega)]
theorem back_inj{i j q:Nat}(hj:j<n)(h:za4 n L q=i*n+j):q=zd4 n L i*n+L.getD j 0:=by
 have hn:0<n:=by omega
 obtain⟨a,b⟩:=z3c (z3b h1 h2 h3 (Nat.mod_lt q hn))
 unfold za4 at h
 have e1:zfn n L (q / n)=i:=by
  have:(zfn n L (q / n)*n+zap L (q%n)) / n=(i*n+j) / n:=by rw[h]
  rw[Nat.add_comm,Nat.add_mul_div_right _ _ hn,Nat.div_eq_of_lt (by omega),Nat.zero_add,Nat.add_comm (i*n),Nat.add_mul_div_right _ _ hn,Nat.div_eq_of_lt hj,Nat.zero_add]at this
  exact this
 have e2:zap L (q%n)=j:=by rw[e1]at h;omega
 have e3:zd4 n L i=q / n:=by rw[<-e1,ziu h1 h2 h3]
 rw[e3,<-e2,b,Nat.mul_comm]
 exact(Nat.div_add_mod q n).symm
theorem back_lt{q:Nat}(hn:0<n)(h:q<r*n):za4 n L q<r*n:=by
 obtain⟨a,b⟩:=z3c (z3b h1 h2 h3 (Nat.mod_lt q hn))
 have h4:q / n<r:=(Nat.div_lt_iff_lt_mul hn).2 h
 exact z7t (zla h1 h2 h3 hnr h4) (by omega)
end
end Go.Fw
namespace Go.Fw
def zb7(m:Int×Int×List Int)(i:Nat):List Int:=(m.2.2.drop (i*m.1.toNat)).take m.1.toNat
def z5x(m:Int×Int×List Int):List (List UInt8):=(List.range m.2.1.toNat).map λi=>z2k (zb7 m i)
def z9w(m:Int×Int×List Int):ByteArray:=txt (Lib.join (z5x m) [59,32])
def zl9{m:Int×Int×List Int}(h:z0t m=true)(i:Nat):zmy (zb7 m i)=true:=by
 simp only[z0t,Bool.and_eq_true]at h
 obtain⟨n,r,hn,hr,hn1,hn5,hnr,hr8,hl⟩:=z12 h.1
 simp only[zmy,Bool.and_eq_true,decide_eq_true_eq]
 refine⟨?_, ?_⟩
 ·unfold zb7
  rw[List.length_take]
  omega
 ·rw[List.all_eq_true]
  intro x hx
  have hx2:=List.mem_of_mem_drop (List.mem_of_mem_take hx)
  have:=z2b.1 ((List.all_eq_true.1 h.2) x hx2)
  simp only[zf0,Bool.and_eq_true,decide_eq_true_eq]
  omega
def zmz{m:Int×Int×List Int}(h:z0t m=true)(i:Nat):(z2k (zb7 m i)).length<=110:=by
 have h1:=zl9 h i
 simp only[zmy,Bool.and_eq_true]at h1
 have:=zay h1.2
 simp only[z0t,Bool.and_eq_true]at h
 obtain⟨n,r,hn,hr,hn1,hn5,hnr,hr8,hl⟩:=z12 h.1
 have:(zb7 m i).length<=5:=by
  unfold zb7
  rw[List.length_take]
  omega
 omega
def z86(m:Int×Int×List Int):(z5x m).length=m.2.1.toNat:=by simp[z5x]
def zis{m:Int×Int×List Int}{j:Nat}(h:j<m.2.1.toNat):(z5x m).getD j []=z2k (zb7 m j):=by
 unfold z5x
 rw[List.getD_eq_getElem?_getD,List.getElem?_map,List.getElem?_range h]
 rfl
def zn3{m:Int×Int×List Int}(h:z0t m=true)(j:Nat):(Lib.join ((z5x m).take j) [59,32]).length<=112*j:=by
 have:=zna (B:=110) (sep:=[59,32]) (xs:=(z5x m).take j) λx hx=>by
  obtain⟨i,_,rfl⟩:=List.mem_map.1 (List.mem_of_mem_take hx)
  exact zmz h i
 rw[List.length_take]at this
 have h2:(110+([59,32]:List UInt8).length)*min j (z5x m).length<=112*j:=Nat.mul_le_mul (by simp) (Nat.min_le_left _ _)
 omega
end Go.Fw
namespace Go.Fw
def zl0(A:Nat->Nat->Int)(L:List Nat)(num den:List Int)(x k:Nat):Prop:=(A x k=0/\A k x=0)\/(k∈L/\num.getD x 0*A x k*den.getD k 0=-(num.getD k 0*A k x*den.getD x 0))
structure zia(n:Nat)(A:Nat->Nat->Int)(s:Nat)(num0:List Int)(L:List Nat)(num den:List Int):Prop where
 nl:num.length=n
 dl:den.length=n
 nd:L.Nodup
 lt:∀x∈L,x<n
 hd:L.getD 0 0=s
 pos:0<L.length
 out:∀x,x<n->x∉L->num.getD x 0=num0.getD x 0
 new:∀x∈L,num0.getD x 0=0
 frac:∃Q:Int,0<Q/\Q<=99 ^ (L.length-1)/\∀x∈L,0<num.getD x 0/\num.getD x 0<=99 ^ (L.length-1)/\0<den.getD x 0/\den.getD x 0∣Q/\Int.gcd (num.getD x 0) (den.getD x 0)=1
 good:∀e,za8 n A e->∀x∈L,num.getD x 0*e s=den.getD x 0*e x
def zia.le{n:Nat}{A:Nat->Nat->Int}{s:Nat}{num0 num den:List Int}{L:List Nat}(h:zia n A s num0 L num den):L.length<=n:=zat n L h.nd h.lt
def zoh(n:Nat)(A:Nat->Nat->Int)(num0:List Int):Prop:=∀y,y<n->num0.getD y 0≠0->∀k,k<n->(A y k≠0\/A k y≠0)->num0.getD k 0≠0
def frac_eq{a b c d:Int}(ha:0<a)(hb:0<b)(hc:0<c)(hd:0<d)(h1:Int.gcd a b=1)(h2:Int.gcd c d=1)(h:a*d=c*b):a=c/\b=d:=by
 obtain⟨a,rfl⟩:=Int.eq_ofNat_of_zero_le (Int.le_of_lt ha)
 obtain⟨b,rfl⟩:=Int.eq_ofNat_of_zero_le (Int.le_of_lt hb)
 obtain⟨c,rfl⟩:=Int.eq_ofNat_of_zero_le (Int.le_of_lt hc)
 obtain⟨d,rfl⟩:=Int.eq_ofNat_of_zero_le (Int.le_of_lt hd)
 have h3:a*d=c*b:=by exact_mod_cast h
 have e1:a∣c:=Nat.Coprime.dvd_of_dvd_mul_right (k:=a) (n:=b) h1 ⟨d,h3.symm⟩
 have e2:c∣a:=Nat.Coprime.dvd_of_dvd_mul_right (k:=c) (n:=d) h2 ⟨b,h3⟩
 have e3:=Nat.dvd_antisymm e1 e2
 subst e3
 exact⟨rfl,by rw[Nat.eq_of_mul_eq_mul_left (by omega) h3]⟩
section
variable {n : Nat} {A : Nat → Nat → Int} {s p j : Nat} {num0 num den : List Int} {L : List Nat}
structure StepN(A:Nat->Nat->Int)(x j:Nat)(num den:List Int)(a0 b0 g a b:Int):Prop where
 ea0:a0=num.getD x 0*z62 (A x j)
 eb0:b0=den.getD x 0*z62 (A j x)
 eg:g=(Int.gcd a0 b0:Int)
 gp:0<g
 a0p:0<a0
 b0p:0<b0
 ea:a*g=a0
 eb:b*g=b0
 ap:0<a
 bp:0<b
 co:Int.gcd a b=1
def stepN(x j:Nat)(hx:0<num.getD x 0)(hd:0<den.getD x 0)(h1:A x j≠0)(h2:A j x≠0) :
  StepN A x j num den (num.getD x 0*z62 (A x j)) (den.getD x 0*z62 (A j x)) (Int.gcd (num.getD x 0*z62 (A x j)) (den.getD x 0*z62 (A j x)))
   (Int.tdiv (num.getD x 0*z62 (A x j)) (Int.gcd (num.getD x 0*z62 (A x j)) (den.getD x 0*z62 (A j x)))) (Int.tdiv (den.getD x 0*z62 (A j x)) (Int.gcd (num.getD x 0*z62 (A x j)) (den.getD x 0*z62 (A j x)))):=by
 have a0p:0<num.getD x 0*z62 (A x j):=Int.mul_pos hx (z92 h1)
 have b0p:0<den.getD x 0*z62 (A j x):=Int.mul_pos hd (z92 h2)
 generalize ha0:num.getD x 0*z62 (A x j)=a0 at a0p ⊢
 generalize hb0:den.getD x 0*z62 (A j x)=b0 at b0p ⊢
 have gp:0<(Int.gcd a0 b0:Int):=by
  have:=Int.gcd_pos_of_ne_zero_left b0 (show a0≠0 by omega)
  omega
 have ea:Int.tdiv a0 (Int.gcd a0 b0)*(Int.gcd a0 b0:Int)=a0:=Int.tdiv_mul_cancel (Int.gcd_dvd_left ..)
 have eb:Int.tdiv b0 (Int.gcd a0 b0)*(Int.gcd a0 b0:Int)=b0:=Int.tdiv_mul_cancel (Int.gcd_dvd_right ..)
 have pos:∀c d:Int,0<d->0<c*d->0<c:=λc d hd h=>by
  rcases Int.lt_or_le 0 c with h' | h'
  ·exact h'
  ·have:=Int.mul_nonpos_of_nonpos_of_nonneg h' (Int.le_of_lt hd);omega
 refine⟨ha0.symm,hb0.symm,rfl,gp,a0p,b0p,ea,eb,pos _ _ gp (by rw[ea];exact a0p),pos _ _ gp (by rw[eb];exact b0p), ?_⟩
 have h3:Int.gcd (Int.tdiv a0 (Int.gcd a0 b0)*(Int.gcd a0 b0:Int)) (Int.tdiv b0 (Int.gcd a0 b0)*(Int.gcd a0 b0:Int))=Int.gcd a0 b0:=by rw[ea,eb]
 rw[Int.gcd_mul_right,Int.natAbs_natCast]at h3
 have gp':0<Int.gcd a0 b0:=by omega
 exact Nat.eq_of_mul_eq_mul_right gp' (by rw[h3,Nat.one_mul])
def Skew(A:Nat->Nat->Int)(x j:Nat):Prop:=∃u:Int,(u=1\/u=-1)/\A x j=u*z62 (A x j)/\A j x=-(u*z62 (A j x))
def skew_of{x j:Nat}(h1:A x j≠0)(h2:A j x≠0)(h:(0<A x j)↔(0 < -A j x)):Skew A x j:=by
 unfold Skew z62
 by_cases hp:0<A x j
 ·have:=h.1 hp
  exact⟨1,Or.inl rfl,by omega,by omega⟩
 ·have:¬ 0 < -A j x:=λhc=>hp (h.2 hc)
  exact⟨-1,Or.inr rfl,by omega,by omega⟩
def zik{x:Nat}{a0 b0 g a b:Int}(st:StepN A x j num den a0 b0 g a b)(hx:x<n)(hj:j<n){e:Nat->Int}(he:za8 n A e)(hg:num.getD x 0*e s=den.getD x 0*e x):a*e s=b*e j:=by
 have h1:=zob (he x hx).1 (he j hj).1 ((he x hx).2 j hj)
 have h2:=st.ea0
 have h3:=st.eb0
 have h4:=st.ea
 have h5:=st.eb
 have h6:g*(a*e s)=g*(b*e j):=by grind
 exact Int.eq_of_mul_eq_mul_left (by have:=st.gp;omega) h6
def zil{x:Nat}{a0 b0 g a b:Int}(st:StepN A x j num den a0 b0 g a b)(sk:Skew A x j):num.getD x 0*A x j*b=-(a*A j x*den.getD x 0):=by
 obtain⟨u,hu,h1,h2⟩:=sk
 have h3:=st.ea0
 have h4:=st.eb0
 have h5:=st.ea
 have h6:=st.eb
 rw[h1,h2]
 grind
def zia.grow{a0 b0 g a b:Int}(h:zia n A s num0 L num den)(hp:p<L.length)(hj:j<n)(hz:num.getD j 0=0)(st:StepN A (L.getD p 0) j num den a0 b0 g a b)(hb:∀x y,z62 (A x y)<=99) :
  zia n A s num0 (L++[j]) (num.set j a) (den.set j b)/\j∉L:=by
 obtain⟨Q,q1,q2,q3⟩:=h.frac
 have hxm:L.getD p 0∈L:=z1l 0 hp
 have hnj:j∉L:=λhc=>by have:=(q3 j hc).1;omega
 have hxj:∀x∈L,j≠x:=λx hx e=>hnj (e▸hx)
 have hnl:j<num.length:=by rw[h.nl];exact hj
 have hdl:j<den.length:=by rw[h.dl];exact hj
 have e1:∀x∈L,(num.set j a).getD x 0=num.getD x 0:=λx hx=>by rw[z28 hnl,if_neg (hxj x hx)]
 have e2:∀x∈L,(den.set j b).getD x 0=den.getD x 0:=λx hx=>by rw[z28 hdl,if_neg (hxj x hx)]
 have e3:(num.set j a).getD j 0=a:=by rw[z28 hnl,if_pos rfl]
 have e4:(den.set j b).getD j 0=b:=by rw[z28 hdl,if_pos rfl]
 have hlen:(L++[j]).length-1=L.length-1+1:=by have:=h.pos;simp;omega
 have hpp:(0:Int)<=99 ^ (L.length-1):=Int.pow_nonneg (by omega)
 refine⟨⟨by rw[List.length_set,h.nl],by rw[List.length_set,h.dl], ?_, ?_,(z2t h.pos).trans h.hd,by simp, ?_, ?_, ?_, ?_⟩,hnj⟩
 ·exact List.nodup_append.2 ⟨h.nd,by simp,λa ha' b hb e=>by
   rw[List.mem_singleton]at hb;subst hb;subst e;exact hnj ha'⟩
 ·intro x hx
  rcases List.mem_append.1 hx with hx | hx
  ·exact h.lt x hx
  ·rw[List.mem_singleton]at hx;omega
 ·intro x hx hni
  rw[List.mem_append,List.mem_singleton]at hni
  rw[z28 hnl,if_neg (λe=>hni (Or.inr e.symm))]
  exact h.out x hx (λhc=>hni (Or.inl hc))
 ·intro x hx
  rcases List.mem_append.1 hx with hx | hx
  ·exact h.new x hx
  ·rw[List.mem_singleton]at hx
   subst hx
   rw[<-h.out x hj hnj]
   exact hz
 ·obtain⟨c1,c2,c3,c4,c5⟩:=q3 _ hxm
  have ga:a<=a0:=by
   have:=Int.mul_le_mul_of_nonneg_left (show(1:Int)<=g by have:=st.gp;omega) (Int.le_of_lt st.ap)
   have:=st.ea
   omega
  have hq1:0<z62 (A j (L.getD p 0)):=by
   have h1:=st.b0p
   rw[st.eb0]at h1
   rcases Int.lt_or_le 0 (z62 (A j (L.getD p 0)))with h' | h'
   ·exact h'
   ·have:=Int.mul_nonpos_of_nonneg_of_nonpos (Int.le_of_lt c3) h';omega
  have hp1:0<=z62 (A (L.getD p 0) j):=by unfold z62;omega
  refine⟨Q*z62 (A j (L.getD p 0)),Int.mul_pos q1 hq1, ?_, ?_⟩
  ·rw[hlen,Int.pow_succ]
   exact Int.mul_le_mul q2 (hb _ _) (by omega) hpp
  ·intro x hx
   rcases List.mem_append.1 hx with hx | hx
   ·rw[e1 x hx,e2 x hx]
    obtain⟨d1,d2,d3,d4,d5⟩:=q3 x hx
    refine⟨d1, ?_,d3,Int.dvd_trans d4 ⟨_,rfl⟩,d5⟩
    rw[hlen,Int.pow_succ]
    have:=Int.mul_le_mul_of_nonneg_left (show(1:Int)<=99 by omega) hpp
    omega
   ·rw[List.mem_singleton]at hx
    subst hx
    rw[e3,e4]
    refine⟨st.ap, ?_,st.bp, ?_,st.co⟩
    ·rw[hlen,Int.pow_succ]
     have:a0<=99 ^ (L.length-1)*99:=by
      rw[st.ea0]
      exact Int.mul_le_mul c2 (hb _ _) hp1 hpp
     omega
    ·have h1:b∣b0:=⟨g,st.eb.symm⟩
     have h2:b0∣Q*z62 (A x (L.getD p 0)):=by
      rw[st.eb0]
      exact Int.mul_dvd_mul c4 (Int.dvd_refl _)
     exact Int.dvd_trans h1 h2
 ·intro e he x hx
  rcases List.mem_append.1 hx with hx | hx
  ·rw[e1 x hx,e2 x hx]
   exact h.good e he x hx
  ·rw[List.mem_singleton]at hx
   subst hx
   rw[e3,e4]
   exact zik st (h.lt _ hxm) hj he (h.good e he _ hxm)
def zl0.grow{x k:Nat}{a b:Int}(hL:∀x∈L,j≠x)(hnl:j<num.length)(hdl:j<den.length)(hx:x∈L)(h:zl0 A L num den x k):zl0 A (L++[j]) (num.set j a) (den.set j b) x k:=by
 rcases h with h | ⟨h1,h2⟩
 ·exact Or.inl h
 ·refine Or.inr ⟨List.mem_append_left _ h1, ?_⟩
  rw[z28 hnl,if_neg (hL x hx),z28 hdl,if_neg (hL k h1),z28 hnl,if_neg (hL k h1),z28 hdl,if_neg (hL x hx)]
  exact h2
end
end Go.Fw
namespace Go.Fw
structure OInv(n:Nat)(A:Nat->Nat->Int)(num out:List Int):Prop where
 nl:num.length=n
 ol:out.length=n
 closed:zoh n A num
 done:∀j,j<n->num.getD j 0≠0->0<out.getD j 0/\(∀k,k<n->out.getD j 0*A j k=-(out.getD k 0*A k j)) /\
  ∃L:List Nat,(∀k∈L,k<n/\num.getD k 0≠0)/\z7q (L.map λk=>out.getD k 0)=1/\∀e,za8 n A e->∀k∈L,out.getD j 0*e k=out.getD k 0*e j
section
variable {n : Nat} {A : Nat → Nat → Int} {s : Nat} {num0 num den out0 out2 out3 : List Int} {L : List Nat} {com g : Int}
def OInv.piece(h:OInv n A num0 out0)(f:zia n A s num0 L num den)(he:∀x∈L,∀k,k<n->zl0 A L num den x k)(hc:0<com)(hg:0<g)
  (h2:∀x∈L,out2.getD x 0*den.getD x 0=com*num.getD x 0) (hgl:g=((z7q (L.map λx=>out2.getD x 0):Nat):Int))
  (h3:∀x∈L,out3.getD x 0*g=out2.getD x 0) (ho:∀x,x<n->x∉L->out3.getD x 0=out0.getD x 0) (hl:out3.length=n) :
  OInv n A num out3/\num.getD s 0≠0/\∀x,x<n->num0.getD x 0≠0->num.getD x 0≠0:=by
 obtain⟨Q,q1,q2,q3⟩:=f.frac
 have hpos:∀x∈L,0<num.getD x 0/\0<den.getD x 0:=λx hx=>⟨(q3 x hx).1,(q3 x hx).2.2.1⟩
 have hk:∀x∈L,out3.getD x 0*g*den.getD x 0=com*num.getD x 0:=λx hx=>by rw[h3 x hx];exact h2 x hx
 have hop:∀x∈L,0<out3.getD x 0:=λx hx=>by
  have h4:=Int.mul_pos hc (hpos x hx).1
  rw[<-hk x hx]at h4
  rcases Int.lt_or_le 0 (out3.getD x 0)with h' | h'
  ·exact h'
  ·have h5:=Int.mul_nonpos_of_nonpos_of_nonneg h' (Int.le_of_lt hg)
   have h6:=Int.mul_nonpos_of_nonpos_of_nonneg h5 (Int.le_of_lt (hpos x hx).2)
   omega
 have hns:num.getD s 0≠0:=by
  have:=(hpos s (by rw[<-f.hd];exact z1l 0 f.pos)).1
  omega
 have old:∀x,x<n->num0.getD x 0≠0->x∉L:=λx hx h0 hc=>h0 (f.new x hc)
 refine⟨⟨f.nl,hl, ?_, ?_⟩,hns,λx hx h0=>by rw[f.out x hx (old x hx h0)];exact h0⟩
 ·intro y hy h1 k hk' ha
  by_cases hm:y∈L
  ·rcases he y hm k hk' with hz | hz
   ·omega
   ·have:=(hpos k hz.1).1;omega
  ·rw[f.out y hy hm]at h1
   have h4:=h.closed y hy h1 k hk' ha
   rw[f.out k hk' (old k hk' h4)]
   exact h4
 ·intro j hj h1
  by_cases hm:j∈L
  ·refine⟨hop j hm, ?_,L,λk hk'=>⟨f.lt k hk',by have:=(hpos k hk').1;omega⟩, ?_, ?_⟩
   ·intro k hk'
    rcases he j hm k hk' with⟨z1,z2⟩ | ⟨z1,z2⟩
    ·rw[z1,z2];simp
    ·have e1:=hk j hm
     have e2:=hk k z1
     have e3:(g*den.getD j 0*den.getD k 0)*(out3.getD j 0*A j k)=(g*den.getD j 0*den.getD k 0)*(-(out3.getD k 0*A k j)):=by grind
     have e4:=Int.mul_pos (Int.mul_pos hg (hpos j hm).2) (hpos k z1).2
     exact Int.eq_of_mul_eq_mul_left (by omega) e3
   ·have e1:L.map (λx=>g*out3.getD x 0)=L.map (λx=>out2.getD x 0):=List.map_congr_left (λx hx=>by rw[Int.mul_comm];exact h3 x hx)
    have e2:=zd9 g (L.map (λx=>out3.getD x 0))
    rw[List.map_map]at e2
    have e3:z7q (L.map (λx=>out2.getD x 0))=g.natAbs*z7q (L.map (λx=>out3.getD x 0)):=by rw[<-e1];exact e2
    have e5:z7q (L.map (λx=>out2.getD x 0))=g.natAbs:=by
     have:=congrArg Int.natAbs hgl
     simpa using this.symm
    rw[e5]at e3
    exact Nat.eq_of_mul_eq_mul_left (show 0<g.natAbs by omega) (by rw[Nat.mul_one];exact e3.symm)
   ·intro e hge k hkL
    have key:∀x∈L,out3.getD x 0*g*e s=com*e x:=by
     intro x hx
     have e1:=hk x hx
     have e2:=f.good e hge x hx
     have e3:den.getD x 0*(out3.getD x 0*g*e s)=den.getD x 0*(com*e x):=by grind
     exact Int.eq_of_mul_eq_mul_left (by have:=(hpos x hx).2;omega) e3
    have e1:=key j hm
    have e2:=key k hkL
    have hs:0<e s:=(hge s (by rw[<-f.hd];exact f.lt _ (z1l 0 f.pos))).1
    have e3:(g*e s)*(out3.getD j 0*e k)=(g*e s)*(out3.getD k 0*e j):=by grind
    have e4:=Int.mul_pos hg hs
    exact Int.eq_of_mul_eq_mul_left (by omega) e3
  ·rw[f.out j hj hm]at h1
   obtain⟨a1,a2,L',a3,a4,a5⟩:=h.done j hj h1
   rw[ho j hj hm]
   have hL':∀k∈L',k∉L:=λk hk'=>old k (a3 k hk').1 (a3 k hk').2
   refine⟨a1, ?_,L',λk hk'=>⟨(a3 k hk').1,by rw[f.out k (a3 k hk').1 (hL' k hk')];exact(a3 k hk').2⟩, ?_, ?_⟩
   ·intro k hk'
    by_cases hkL:k∈L
    ·by_cases z1:A j k=0
     ·by_cases z2:A k j=0
      ·rw[z1,z2];simp
      ·exact absurd (f.new k hkL) (h.closed j hj h1 k hk' (Or.inr z2))
     ·exact absurd (f.new k hkL) (h.closed j hj h1 k hk' (Or.inl z1))
    ·rw[ho k hk' hkL];exact a2 k hk'
   ·rw[show L'.map (λk=>out3.getD k 0)=L'.map (λk=>out0.getD k 0)from List.map_congr_left (λk hk'=>ho k (a3 k hk').1 (hL' k hk'))]
    exact a4
   ·intro e hge k hk'
    rw[ho k (a3 k hk').1 (hL' k hk')]
    exact a5 e hge k hk'
end
def OInv.fac{m:Int×Int×List Int}{num out:List Int}(h:OInv m.1.toNat (ent m) num out)(hp:∀x,x<m.1.toNat->num.getD x 0≠0):z3u m=out:=by
 refine zsa h.ol (λi hi=>⟨(h.done i hi (hp i hi)).1,(h.done i hi (hp i hi)).2.1⟩) (λi hi=>?_)
 obtain⟨L,a1,a2,a3⟩:=(h.done i hi (hp i hi)).2.2
 exact⟨L,λk hk=>(a1 k hk).1,a2,a3⟩
def lcm_step{c d Q:Int}(hc:0<c)(hd:0<d)(h1:c∣Q)(h2:d∣Q)(hQ:0<Q) :
  0<(Int.gcd c d:Int)/\0<Int.tdiv c (Int.gcd c d)/\Int.tdiv c (Int.gcd c d)<=c/\0<Int.tdiv c (Int.gcd c d)*d/\Int.tdiv c (Int.gcd c d)*d∣Q/\c∣Int.tdiv c (Int.gcd c d)*d/\d∣Int.tdiv c (Int.gcd c d)*d:=by
 obtain⟨c,rfl⟩:=Int.eq_ofNat_of_zero_le (Int.le_of_lt hc)
 obtain⟨d,rfl⟩:=Int.eq_ofNat_of_zero_le (Int.le_of_lt hd)
 obtain⟨Q,rfl⟩:=Int.eq_ofNat_of_zero_le (Int.le_of_lt hQ)
 have e:Int.tdiv (c:Int) (Int.gcd (c:Int) (d:Int))=((c / Nat.gcd c d:Nat):Int):=rfl
 rw[e]
 have hg:0<Nat.gcd c d:=Nat.gcd_pos_of_pos_left d (by omega)
 have h3:c / Nat.gcd c d*d=Nat.lcm c d:=by
  rw[Nat.lcm,Nat.mul_comm,Nat.mul_comm c d,Nat.mul_div_assoc _ (Nat.gcd_dvd_left c d)]
 have h4:0<c / Nat.gcd c d:=Nat.div_pos (Nat.gcd_le_left d (by omega)) hg
 have h5:c / Nat.gcd c d<=c:=Nat.div_le_self _ _
 rw[<-Int.natCast_mul,h3]
 have h6:0<Nat.lcm c d:=Nat.lcm_pos (by omega) (by omega)
 refine⟨by show(0:Int)<((Nat.gcd c d:Nat):Int);omega,by omega,by omega,by omega, ?_, ?_, ?_⟩
 ·exact Int.natCast_dvd_natCast.2 (Nat.lcm_dvd (Int.natCast_dvd_natCast.1 h1) (Int.natCast_dvd_natCast.1 h2))
 ·exact Int.natCast_dvd_natCast.2 (Nat.dvd_lcm_left c d)
 ·exact Int.natCast_dvd_natCast.2 (Nat.dvd_lcm_right c d)
end Go.Fw
namespace Go.Fw
def z2v(p:UInt8->Bool):List UInt8->List (List UInt8)
 | []=>[[]]
 | b::l=>if p b=true then[]::z2v p l else match z2v p l with
  | h::t=>(b::h)::t
  | []=>[[b]]
def z8x(p:UInt8->Bool):∀l,z2v p l≠[]
 | []=>by simp[z2v]
 | b::l=>by
  rw[z2v]
  split
  ·simp
  ·split<;>simp
def glue(a:List UInt8):List (List UInt8)->List (List UInt8)
 | h::t=>(a++h)::t
 | []=>[a]
def glue_nil{q:List (List UInt8)}(h:q≠[]):glue [] q=q:=by
 cases q with
 | nil=>exact absurd rfl h
 | cons x xs=>rfl
def zng{p:UInt8->Bool}{b:UInt8}(h:p b=true)(a l:List UInt8):glue a (z2v p (b::l))=a::z2v p l:=by
 rw[z2v,if_pos h]
 simp[glue]
def zc1(c:UInt8):∀l:List UInt8,Lib.splitK [c] 0 (l.count c) l=z2v (λb=>b == c) l
 | []=>rfl
 | b::l=>by
  have ih:=zc1 c l
  rw[z2v]
  by_cases h:b=c
  ·subst h
   have hi:Lib.index (b::l) [b]=0:=by unfold Lib.index;simp
   rw[List.count_cons_self,Lib.splitK,if_neg (by rw[hi];decide),if_pos (by simp),hi,<-ih]
   rfl
  ·have hp:([c]:List UInt8).isPrefixOf (b::l)=false:=by simp[List.isPrefixOf];exact λe=>h e.symm
   have hi:Lib.index (b::l) [c]=if Lib.index l [c] == -1 then -1 else Lib.index l [c]+1:=by
    conv=>lhs;unfold Lib.index
    rw[hp]
    simp
   rw[List.count_cons_of_ne h,if_neg (by simpa using h),<-ih]
   cases hk:l.count c with
   | zero=>rfl
   | succ k =>
    rw[Lib.splitK,Lib.splitK,hi]
    by_cases hm:(Lib.index l [c] == -1)=true
    ·rw[if_pos hm,if_pos (by decide),if_pos hm]
    ·have hge:=Lib.index_ge l [c]
     have hne:Lib.index l [c]≠-1:=λe=>hm (beq_iff_eq.2 e)
     obtain⟨i,hx⟩:=Int.eq_ofNat_of_zero_le (show 0<=Lib.index l [c] by omega)
     rw[if_neg hm,hx,if_neg (by simp;omega),if_neg (by simp)]
     have e:((i:Int)+1).toNat=i+1:=by omega
     simp only[e,Int.toNat_natCast,Nat.add_zero,List.length_singleton,List.take_succ_cons,List.drop_succ_cons]
def zer(l:List UInt8):ByteArray:=⟨l.toArray⟩
def zkq(s:ByteArray):zer s.data.toList=s:=by simp[zer]
def zql(s:ByteArray)(c:UInt8):Lib.splitB ⟨#[c]⟩ 0 (Lib.countB s ⟨#[c]⟩) s=(z2v (λb=>b == c) s.data.toList).map zer:=by
 have h1:Lib.countB s ⟨#[c]⟩=s.data.toList.count c:=Lib.count_one c _
 have h2:=Lib.splitB_data ⟨#[c]⟩ 0 (s.data.toList.count c) s
 rw[zc1]at h2
 rw[h1,<-h2,List.map_map]
 conv=>lhs;rw[<-List.map_id (Lib.splitB _ _ _ _)]
 exact List.map_congr_left λx _=>(zkq x).symm
def ziy(p:UInt8->Bool):∀l,(z2v p l).length<=l.length+1
 | []=>by simp[z2v]
 | b::l=>by
  have:=ziy p l
  rw[z2v]
  split
  ·simp;omega
  ·split
   ·rename_i hq
    rw[hq]at this
    simp at this ⊢
    omega
   ·simp
end Go.Fw
namespace Go.Fw
def zcz(s:ByteArray):Int×Bool:=match Lib.atoiAll s.data.toList with
 | .ok n=>(n,false)
 | .range=>(Lib.atoiSat s.data.toList,true)
 | _=>(0,true)
end Go.Fw
namespace Go.Fw
end Go.Fw
namespace Go.Fw
def zds(s:ByteArray):List ByteArray:=(z2v (λb=>b == 32) s.data.toList).map zer
def zqy(s:ByteArray):(zds s).length<=s.size+1:=by
 unfold zds
 rw[List.length_map,Lib.size_eq]
 exact ziy _ _
end Go.Fw
set_option linter.unusedSimpArgs false
namespace Go.Fw
def zpt(c:UInt8):Bool:=decide (48<=c.toNat)&&decide (c.toNat<=57)
def zkh(a:Nat)(c:UInt8):Nat:=10*a+(c.toNat-48)
def zes(a:Nat)(l:List UInt8):Nat:=l.foldl zkh a
def zab(a:Nat):zes a []=a:=rfl
def z83(a:Nat)(c:UInt8)(l:List UInt8):zes a (c::l)=zes (zkh a c) l:=by
 unfold zes
 rw[List.foldl_cons]
def valD_app(l m:List UInt8)(a:Nat):zes a (l++m)=zes (zes a l) m:=by
 unfold zes
 rw[List.foldl_append]
def zb2(a:Nat)(c:UInt8):zkh a c=10*a+(c.toNat-48):=by unfold zkh;rfl
def valD_lt:∀(l:List UInt8) (a:Nat),l.all zpt=true->zes a l<(a+1)*10 ^ l.length:=by
 intro l
 induction l with
 | nil=>intro a _;rw[zab];simp
 | cons c l ih =>
  intro a h
  rw[List.all_cons,Bool.and_eq_true]at h
  have hc:=h.1
  simp only[zpt,Bool.and_eq_true,decide_eq_true_eq]at hc
  have:=ih (zkh a c) h.2
  have hs:=zb2 a c
  rw[z83,List.length_cons,Nat.pow_succ]
  refine Nat.lt_of_lt_of_le this ?_
  rw[Nat.mul_comm (10 ^ l.length) 10,<-Nat.mul_assoc]
  exact Nat.mul_le_mul_right _ (by omega)
def valD_ge:∀(l:List UInt8) (a:Nat),a<=zes a l:=by
 intro l
 induction l with
 | nil=>intro a;rw[zab];exact Nat.le_refl _
 | cons c l ih =>
  intro a
  have:=ih (zkh a c)
  have hs:=zb2 a c
  rw[z83]
  omega
def uint_ok:∀(l:List UInt8) (a:Nat),l.all zpt=true->zes a l<1000000000000000000->Lib.parseUint10 a l=.ok (zes a l):=by
 intro l
 induction l with
 | nil=>intro a _ _;rw[zab];rfl
 | cons c l ih =>
  intro a h hv
  rw[List.all_cons,Bool.and_eq_true]at h
  have hc:=h.1
  simp only[zpt,Bool.and_eq_true,decide_eq_true_eq]at hc
  rw[z83]at hv ⊢
  have hge:=valD_ge l (zkh a c)
  have hs:=zb2 a c
  have e:a*10+(c.toNat-48)=zkh a c:=by omega
  rw[Lib.parseUint10,if_pos hc,if_neg (by omega),if_neg (by omega),e]
  exact ih _ h.2 hv
def zm6(u:Nat):(Lib.decDigits u).all zpt=true:=by
 induction u using Nat.strongRecOn with
 | _ u ih =>
  have key:∀t,t<10->zpt (UInt8.ofNat (48+t))=true:=λt ht=>by
   have:(UInt8.ofNat (48+t)).toNat=48+t:=by rw[UInt8.toNat_ofNat'];omega
   simp only[zpt,this,Bool.and_eq_true,decide_eq_true_eq]
   omega
  rw[Lib.decDigits]
  split
  ·rename_i h
   rw[List.all_cons,key u h]
   rfl
  ·rename_i h
   rw[List.all_append,ih (u / 10) (by omega),List.all_cons,key (u%10) (by omega)]
   rfl
def dec_val(u:Nat):zes 0 (Lib.decDigits u)=u:=by
 induction u using Nat.strongRecOn with
 | _ u ih =>
  have key:∀t,t<10->(UInt8.ofNat (48+t)).toNat-48=t:=λt ht=>by
   have:(UInt8.ofNat (48+t)).toNat=48+t:=by rw[UInt8.toNat_ofNat'];omega
   omega
  rw[Lib.decDigits]
  split
  ·rename_i h
   rw[z83,zb2,key u h,zab]
   omega
  ·rename_i h
   rw[valD_app,ih (u / 10) (by omega),z83,zb2,key (u%10) (by omega),zab]
   omega
def dec_ne(u:Nat):Lib.decDigits u≠[]:=by
 rw[Lib.decDigits]
 split<;>simp
def ztv:∀(k u:Nat),u<10 ^ k->1<=k->(Lib.decDigits u).length<=k
 | 0,_,_,h=>by omega
 | k+1,u,h,_=>by
  rw[Lib.decDigits]
  split
  ·simp
  ·rename_i hs
   have hk:1<=k:=by
    rcases Nat.eq_zero_or_pos k with h' | h'
    ·subst h';omega
    ·exact h'
   have:=ztv k (u / 10) (by rw[Nat.div_lt_iff_lt_mul (by omega),<-Nat.pow_succ];exact h) hk
   simp
   omega
def zg1:∀l:List UInt8,Lib.join (z2v (λb=>b == 32) l) [32]=l
 | []=>rfl
 | b::l=>by
  have ih:=zg1 l
  have hne:=z8x (λb=>b == 32) l
  rw[z2v]
  by_cases h:(b == 32)=true
  ·rw[if_pos h,Lib.join_cons]
   cases hq:z2v (λb=>b == 32) l with
   | nil=>exact absurd hq hne
   | cons x xs =>
    rw[hq,Lib.join_cons]at ih
    have hb:b=32:=beq_iff_eq.1 h
    subst hb
    simp only[Lib.joinTail,List.map_cons,List.flatten_cons,List.nil_append,List.singleton_append,List.cons_append]at ih ⊢
    rw[ih]
  ·rw[if_neg h]
   cases hq:z2v (λb=>b == 32) l with
   | nil=>exact absurd hq hne
   | cons x xs =>
    rw[hq,Lib.join_cons]at ih
    simp only
    rw[Lib.join_cons,List.cons_append,ih]
def z87{p:UInt8->Bool}:∀(x l:List UInt8),(∀b∈x,p b=false)->z2v p (x++l)=glue x (z2v p l)
 | [],l,_=>(glue_nil (z8x p l)).symm
 | b::x,l,h=>by
  have ih:=z87 x l λc hc=>h c (List.mem_cons_of_mem _ hc)
  rw[List.cons_append,z2v,if_neg (by rw[h b (List.mem_cons_self ..)];simp),ih]
  have hne:=z8x p l
  cases hq:z2v p l with
  | nil=>exact absurd hq hne
  | cons y ys=>rfl
def zb9:∀(xs:List (List UInt8)),xs≠[]->(∀x∈xs,∀b∈x,(b == (32:UInt8))=false)->z2v (λb=>b == 32) (Lib.join xs [32])=xs
 | [],h,_=>absurd rfl h
 | [x],_,h=>by
  rw[Lib.join_one]
  have:=z87 (p:=λb=>b == 32) x [] (h x (List.mem_cons_self ..))
  rw[List.append_nil]at this
  rw[this]
  simp[z2v,glue]
 | x::y::ys,_,h=>by
  have ih:=zb9 (y::ys) (by simp) λz hz=>h z (List.mem_cons_of_mem _ hz)
  have e:Lib.join (x::y::ys) [32]=x++(32::Lib.join (y::ys) [32]):=by
   rw[Lib.join_cons,Lib.join_cons]
   simp[Lib.joinTail]
  rw[e,z87 _ _ (h x (List.mem_cons_self ..)),zng (by rfl),ih]
def zjm(n:Int):∀b∈Lib.itoa n,(b == (32:UInt8))=false:=by
 have key:∀u,∀b∈Lib.decDigits u,(b == (32:UInt8))=false:=λu b hb=>by
  have:=List.all_eq_true.1 (zm6 u) b hb
  simp only[zpt,Bool.and_eq_true,decide_eq_true_eq]at this
  rw[beq_eq_false_iff_ne]
  intro e
  subst e
  have:(32:UInt8).toNat=32:=rfl
  omega
 intro b hb
 unfold Lib.itoa at hb
 split at hb
 ·rcases List.mem_cons.1 hb with rfl | hb
  ·rfl
  ·exact key _ b hb
 ·exact key _ b hb
def z79(l:List UInt8):Nat:=match l with
 | c::_=>if c=45 then 1 else 0
 | []=>0
def numK(s:ByteArray):Int×Bool :=
  if(s.data.toList.drop (z79 s.data.toList)).length=0\/9<(s.data.toList.drop (z79 s.data.toList)).length then(0,false)
  else if(s.data.toList.drop (z79 s.data.toList)).all zpt=true then
    (if z79 s.data.toList=1 then -(zes 0 (s.data.toList.drop (z79 s.data.toList)):Int)else(zes 0 (s.data.toList.drop (z79 s.data.toList)):Int),
     z52 (z3m (if z79 s.data.toList=1 then -(zes 0 (s.data.toList.drop (z79 s.data.toList)):Int)else(zes 0 (s.data.toList.drop (z79 s.data.toList)):Int))) s)
  else(0,false)
def z3z{a b:ByteArray}:z52 a b=true↔a=b:=by
 unfold z52
 rw[beq_iff_eq,ByteArray.toList_eq,ByteArray.toList_eq]
 constructor
 ·intro h
  apply ByteArray.ext
  exact Array.toList_inj.1 h
 ·intro h
  rw[h]
def z95(w:ByteArray):Option Int:=if(zcz w).2=true then none else if 10<w.size then none else if inK (zcz w).1 (-999999999) 999999999=true then some (zcz w).1 else none
def zaq(w:ByteArray):Option Int:=if(numK w).2=true then some (numK w).1 else none
def part_SI{w:ByteArray}{n:Int}(h:zaq w=some n):z95 w=some n/\w=z3m n:=by
 unfold zaq at h
 split at h
 ·rename_i h2
  injection h with h
  unfold numK at h h2
  split at h2
  ·cases h2
  rename_i hlen
  rw[if_neg hlen]at h
  split at h2
  ·rename_i hall
   rw[if_pos hall]at h
   simp only at h h2
   have hw:=z3z.1 h2
   rw[h]at hw
   have hlt:=valD_lt _ 0 hall
   have h9:(10:Nat) ^ (w.data.toList.drop (z79 w.data.toList)).length<=10 ^ 9:=Nat.pow_le_pow_right (by omega) (by omega)
   have h9':(10:Nat) ^ 9=1000000000:=by decide
   rw[Nat.zero_add,Nat.one_mul]at hlt
   have hu:=uint_ok _ 0 hall (by omega)
   have hsz:=Lib.size_eq w
   refine⟨?_,hw.symm⟩
   have hat:zcz w=(n,false):=by
    unfold zcz
    cases hL:w.data.toList with
    | nil=>rw[hL]at hlen;simp[z79]at hlen
    | cons c r =>
     rw[hL]at hall hlen hlt hu h h9
     by_cases hc:c=45
     ·subst hc
      have hs:z79 (45::r)=1:=rfl
      rw[hs]at hall hlen hlt hu h h9
      rw[if_pos rfl]at h
      simp only[List.drop_succ_cons,List.drop_zero]at hall hlen hlt hu h h9
      have hm:Lib.parseMag r=.ok (zes 0 r):=by
       unfold Lib.parseMag
       rw[if_neg (λe=>by rw[e]at hlen;simp at hlen),hu]
      have e45:(45:UInt8).toNat=45:=rfl
      simp only[Lib.atoiAll,e45,or_true,if_true,hm,not_true,false_and,if_false,true_and]
      rw[if_neg (show ¬ 9223372036854775808<zes 0 r by have:=hlt;have:=h9;omega),h]
     ·have hs:z79 (c::r)=0:=by simp[z79,hc]
      rw[hs]at hall hlen hlt hu h h9
      rw[if_neg (by omega)]at h
      rw[List.drop_zero]at hall hlen hlt hu h h9
      have hd:zpt c=true:=by
       rw[List.all_cons,Bool.and_eq_true]at hall
       exact hall.1
      simp only[zpt,Bool.and_eq_true,decide_eq_true_eq]at hd
      have hm:Lib.parseMag (c::r)=.ok (zes 0 (c::r)):=by
       unfold Lib.parseMag
       rw[if_neg (by simp),hu]
      have h43:¬ c.toNat=43:=by omega
      have h45:¬ c.toNat=45:=by omega
      simp only[Lib.atoiAll,h43,h45,or_self,if_false,hm,not_false_eq_true,true_and,false_and]
      rw[if_neg (show ¬ 9223372036854775808<=zes 0 (c::r) by omega)]
      rw[h]
   have hsg:z79 w.data.toList<=1:=by
    unfold z79
    split
    ·split<;>omega
    ·omega
   have hwl:w.size<=10:=by
    rw[hsz]
    rw[List.length_drop]at hlen
    omega
   have hin:inK n (-999999999) 999999999=true:=by
    rw[z2b]
    split at h<;>omega
   unfold z95
   rw[hat,if_neg (by simp),if_neg (by omega),if_pos hin]
  ·cases h2
 ·cases h
def zrg{w:ByteArray}{n:Int}(hin:inK n (-999999999) 999999999=true)(hw:w=z3m n):numK w=(n,true):=by
 rw[z2b]at hin
 have hd:w.data.toList=Lib.itoa n:=by rw[hw,zbg]
 have hu:n.natAbs<10 ^ 9:=by
  have h9':(10:Nat) ^ 9=1000000000:=by decide
  omega
 have hl:=ztv 9 n.natAbs hu (by omega)
 have hne:(Lib.decDigits n.natAbs).length≠0:=λe=>dec_ne _ (List.length_eq_zero_iff.1 e)
 have hall:=zm6 n.natAbs
 have hval:=dec_val n.natAbs
 by_cases hneg:n<0
 ·have e:Lib.itoa n=45::Lib.decDigits n.natAbs:=by unfold Lib.itoa;rw[if_pos hneg]
  have hs:z79 w.data.toList=1:=by rw[hd,e];rfl
  have hdr:w.data.toList.drop 1=Lib.decDigits n.natAbs:=by rw[hd,e];rfl
  have hv:-((n.natAbs:Nat):Int)=n:=by omega
  unfold numK
  rw[hs,hdr,if_neg (by omega),if_pos hall,if_pos rfl,hval,hv,z3z.2 hw.symm]
 ·have e:Lib.itoa n=Lib.decDigits n.natAbs:=by unfold Lib.itoa;rw[if_neg hneg,show n.toNat=n.natAbs by omega]
  have hs:z79 w.data.toList=0:=by
   rw[hd,e]
   unfold z79
   split
   ·rename_i c r hc
    rw[hc,List.all_cons,Bool.and_eq_true]at hall
    have h1:=hall.1
    simp only[zpt,Bool.and_eq_true,decide_eq_true_eq]at h1
    rw[if_neg]
    intro e45
    subst e45
    have:(45:UInt8).toNat=45:=rfl
    omega
   ·rfl
  have hdr:w.data.toList.drop 0=Lib.decDigits n.natAbs:=by rw[hd,e];rfl
  have hv:((n.natAbs:Nat):Int)=n:=by omega
  unfold numK
  rw[hs,hdr,if_neg (by omega),if_pos hall,if_neg (by omega),hval,hv,z3z.2 hw.symm]
def part_can{n:Int}(hin:inK n (-999999999) 999999999=true):zaq (z3m n)=some n:=by
 unfold zaq
 rw[zrg hin rfl,if_pos rfl]
def part_IS{w:ByteArray}{n:Int}(h:z95 w=some n)(hw:w=z3m n):zaq w=some n:=by
 have hin:inK n (-999999999) 999999999=true:=by
  unfold z95 at h
  split at h
  ·cases h
  ·split at h
   ·cases h
   ·split at h
    ·rename_i h3
     injection h with h
     rw[h]at h3
     exact h3
    ·cases h
 have hnum:=zrg hin hw
 unfold zaq
 rw[hnum,if_pos rfl]
def zbu(f:ByteArray->Option Int):List ByteArray->Option (List Int)
 | []=>some []
 | w::ws=>match f w with
  | none=>none
  | some n=>match zbu f ws with
   | none=>none
   | some l=>some (n::l)
def zar(s:ByteArray):List Int×Bool:=if z52 s ByteArray.empty=true then([],true)else match zbu zaq (zds s)with
 | none=>([],false)
 | some l=>(l,true)
def z5v(s:ByteArray):List Int×Bool:=if z52 s ByteArray.empty=true then([],true)else match zbu z95 (zds s)with
 | none=>([],false)
 | some l=>if z52 (z2l l) s=true then(l,true)else([],false)
def zmj:∀{ws:List ByteArray} {l:List Int},zbu zaq ws=some l->zbu z95 ws=some l/\ws=l.map z3m
 | [],l,h=>by
  injection h with h
  subst h
  exact⟨rfl,rfl⟩
 | w::ws,l,h=>by
  rw[zbu]at h
  cases hw:zaq w with
  | none=>rw[hw]at h;cases h
  | some n =>
   rw[hw]at h
   cases hr:zbu zaq ws with
   | none=>rw[hr]at h;cases h
   | some m =>
    rw[hr]at h
    injection h with h
    subst h
    obtain⟨a,b⟩:=part_SI hw
    obtain⟨c,d⟩:=zmj hr
    rw[zbu,a,c]
    exact⟨rfl,by rw[List.map_cons,<-b,<-d]⟩
def zub:∀{ws:List ByteArray} {l:List Int},zbu z95 ws=some l->ws=l.map z3m->zbu zaq ws=some l
 | [],l,h,_=>by
  injection h with h
  subst h
  rfl
 | w::ws,l,h,hm=>by
  rw[zbu]at h
  cases hw:z95 w with
  | none=>rw[hw]at h;cases h
  | some n =>
   rw[hw]at h
   cases hr:zbu z95 ws with
   | none=>rw[hr]at h;cases h
   | some m =>
    rw[hr]at h
    injection h with h
    subst h
    rw[List.map_cons,List.cons.injEq]at hm
    rw[zbu,part_IS hw hm.1,zub hr hm.2]
def prt_join(s:ByteArray):Lib.join ((zds s).map (·.data.toList)) [32]=s.data.toList:=by
 unfold zds
 rw[List.map_map]
 have:((·.data.toList) ∘ zer)=(id:List UInt8->List UInt8):=by
  funext l
  simp[zer]
 rw[this,List.map_id]
 exact zg1 _
def zft(s:ByteArray):z5v s=zar s:=by
 unfold z5v zar
 split
 ·rfl
 cases hS:zbu zaq (zds s)with
 | some l =>
  obtain⟨hI,hm⟩:=zmj hS
  rw[hI]
  have hj:=prt_join s
  have e1:(l.map z3m).map (·.data.toList)=l.map Lib.itoa:=by
   rw[List.map_map]
   exact List.map_congr_left λn _=>zbg n
  rw[hm,e1]at hj
  have e2:z2l l=s:=by
   apply ByteArray.ext
   apply Array.toList_inj.1
   rw[<-hj]
   simp[z2l,z2k]
  simp only
  rw[if_pos (z3z.2 e2)]
 | none =>
  cases hI:zbu z95 (zds s)with
  | none=>rfl
  | some l =>
   simp only
   split
   ·rename_i he
    have e2:=z3z.1 he
    have hl:l≠[]:=λh0=>by
     subst h0
     have:=congrArg List.length (show zds s=[] by
      cases hq:zds s with
      | nil=>rfl
      | cons w ws =>
       rw[hq,zbu]at hI
       split at hI
       ·cases hI
       ·split at hI<;>cases hI)
     have h3:=z8x (λb=>b == (32:UInt8)) s.data.toList
     unfold zds at this
     rw[List.length_map,List.length_nil]at this
     exact h3 (List.length_eq_zero_iff.1 this)
    have hd:s.data.toList=Lib.join (l.map Lib.itoa) [32]:=by
     rw[<-e2]
     simp[z2l,z2k]
    have hp:=zb9 (l.map Lib.itoa) (by simpa using hl) λx hx=>by
     obtain⟨n,_,rfl⟩:=List.mem_map.1 hx
     exact zjm n
    have hws:zds s=l.map z3m:=by
     unfold zds
     rw[hd,hp,List.map_map]
     rfl
    rw[zub hI hws]at hS
    cases hS
   ·rfl
end Go.Fw
namespace Go.Fw
def zfs(p:UInt8->Bool):∀l,∀x∈z2v p l,x.length<=l.length
 | [],x,hx=>by
  simp[z2v]at hx
  subst hx
  simp
 | b::l,x,hx=>by
  have ih:=zfs p l
  have hne:=z8x p l
  rw[z2v]at hx
  split at hx
  ·rcases List.mem_cons.1 hx with rfl | hx
   ·simp
   ·have:=ih x hx
    rw[List.length_cons]
    omega
  ·cases hq:z2v p l with
   | nil=>exact absurd hq hne
   | cons y ys =>
    rw[hq]at hx ih
    rcases List.mem_cons.1 hx with rfl | hx
    ·have:=ih y (List.mem_cons_self ..)
     rw[List.length_cons,List.length_cons]
     omega
    ·have:=ih x (List.mem_cons_of_mem _ hx)
     rw[List.length_cons]
     omega
def prt_size(s:ByteArray):∀w∈zds s,w.size<=s.size:=by
 intro w hw
 unfold zds at hw
 obtain⟨l,hl,rfl⟩:=List.mem_map.1 hw
 have:=zfs _ _ l hl
 rw[Lib.size_eq s]
 have e:(zer l).size=l.length:=by simp[zer,ByteArray.size]
 omega
def zlf{w:ByteArray}{n:Int}(h:z95 w=some n):zf0 n=true:=by
 unfold z95 at h
 split at h
 ·cases h
 ·split at h
  ·cases h
  ·split at h
   ·rename_i h3
    injection h with h
    rw[h,z2b]at h3
    simp only[zf0,Bool.and_eq_true,decide_eq_true_eq]
    omega
   ·cases h
end Go.Fw
namespace Go.Fw
def zs7(x t:List UInt8)(hx:∀b∈x,b≠59):Lib.index (x++59::32::t) [59,32]=x.length:=by
 refine Lib.index_first (by simp) (by simp[Lib.occAt,List.isPrefixOf]) λj hj=>?_
 have hlt:j<(x++59::32::t).length:=by simp;omega
 unfold Lib.occAt
 rw[List.drop_eq_getElem_cons hlt,List.getElem_append_left hj]
 have:=hx x[j] (List.getElem_mem hj)
 simp[List.isPrefixOf]
 intro e
 exact absurd e.symm this
def idx_miss(x:List UInt8)(hx:∀b∈x,b≠59):Lib.index x [59,32]=-1:=by
 refine Lib.index_none λj hj=>?_
 unfold Lib.occAt
 by_cases h:j<x.length
 ·rw[List.drop_eq_getElem_cons h]
  have:=hx x[j] (List.getElem_mem h)
  simp[List.isPrefixOf]
  intro e
  exact absurd e.symm this
 ·rw[List.drop_of_length_le (by omega)]
  rfl
def z90(x y:List UInt8)(ys:List (List UInt8)):Lib.join (x::y::ys) [59,32]=x++59::32::Lib.join (y::ys) [59,32]:=by
 rw[Lib.join_cons,Lib.join_cons]
 simp[Lib.joinTail]
def drop2(x t:List UInt8):(x++59::32::t).drop (x.length+2)=t:=by
 rw[List.drop_append,List.drop_of_length_le (by omega)]
 simp
def zqm:∀(rows:List (List UInt8)),rows≠[]->(∀x∈rows,∀b∈x,b≠(59:UInt8))->Lib.splitK [59,32] 0 (rows.length-1) (Lib.join rows [59,32])=rows
 | [],h,_=>absurd rfl h
 | [x],_,_=>by
  rw[Lib.join_one]
  rfl
 | x::y::ys,_,h=>by
  have ih:=zqm (y::ys) (by simp) λz hz=>h z (List.mem_cons_of_mem _ hz)
  have hx:=h x (List.mem_cons_self ..)
  rw[z90]
  have e:(x::y::ys).length-1=((y::ys).length-1)+1:=by simp
  rw[e,Lib.splitK,zs7 x _ hx,if_neg (by simp)]
  have e2:((x.length:Nat):Int).toNat=x.length:=Int.toNat_natCast _
  rw[e2,Nat.add_zero,List.take_left,show x.length+([59,32]:List UInt8).length=x.length+2 from rfl,drop2,ih]
def ztz:∀(rows:List (List UInt8)) (fuel:Nat),rows≠[]->rows.length<=fuel->(∀x∈rows,∀b∈x,b≠(59:UInt8))->Lib.countFrom [59,32] fuel (Lib.join rows [59,32])=rows.length-1
 | [],_,h,_,_=>absurd rfl h
 | [x],0,_,hf,_=>by simp at hf
 | [x],fuel+1,_,_,h=>by
  rw[Lib.join_one,Lib.countFrom,idx_miss x (h x (List.mem_cons_self ..))]
  rfl
 | x::y::ys,0,_,hf,_=>by simp at hf
 | x::y::ys,fuel+1,_,hf,h=>by
  have ih:=ztz (y::ys) fuel (by simp) (by simp at hf ⊢;omega) λz hz=>h z (List.mem_cons_of_mem _ hz)
  rw[z90,Lib.countFrom,zs7 x _ (h x (List.mem_cons_self ..)),if_neg (by simp)]
  have e2:((x.length:Nat):Int).toNat=x.length:=Int.toNat_natCast _
  rw[e2,show x.length+([59,32]:List UInt8).length=x.length+2 from rfl,drop2,ih]
  simp
  omega
def join_ge{rows:List (List UInt8)}:rows.length<=(Lib.join rows [59,32]).length+1:=by
 have:∀(rows:List (List UInt8)),rows≠[]->rows.length<=(Lib.join rows [59,32]).length+1:=by
  intro rows
  induction rows with
  | nil=>intro h;exact absurd rfl h
  | cons x xs ih =>
   intro _
   cases xs with
   | nil=>simp
   | cons y ys =>
    have:=ih (by simp)
    rw[z90]
    simp at this ⊢
    omega
 cases rows with
 | nil=>simp
 | cons x xs=>exact this _ (by simp)
def zqk{rows:List (List UInt8)}(h0:rows≠[])(h:∀x∈rows,∀b∈x,b≠(59:UInt8)) :
  Lib.splitB ⟨#[59,32]⟩ 0 (Lib.countB (txt (Lib.join rows [59,32])) ⟨#[59,32]⟩) (txt (Lib.join rows [59,32]))=rows.map txt:=by
 have hd:(⟨#[59,32]⟩:ByteArray).data.toList=[59,32]:=rfl
 have hc:Lib.countB (txt (Lib.join rows [59,32])) ⟨#[59,32]⟩=rows.length-1:=by
  show Lib.count (txt (Lib.join rows [59,32])).data.toList (⟨#[59,32]⟩:ByteArray).data.toList=_
  rw[zad,hd,Lib.count]
  exact ztz rows _ h0 join_ge h
 have h2:=Lib.splitB_data ⟨#[59,32]⟩ 0 (rows.length-1) (txt (Lib.join rows [59,32]))
 rw[zad,hd,zqm rows h0 h]at h2
 rw[hc]
 generalize Lib.splitB ⟨#[59,32]⟩ 0 (rows.length-1) (txt (Lib.join rows [59,32]))=q at h2
 rw[<-h2,List.map_map]
 have e:(txt ∘ λx:ByteArray=>x.data.toList)=id:=by
  funext x
  simp[txt]
 rw[e,List.map_id]
end Go.Fw
namespace Go.Fw
def itoa_ne(n:Int):Lib.itoa n≠[]:=by
 unfold Lib.itoa
 split
 ·simp
 ·exact dec_ne _
def znb{row:List Int}(h:row≠[]):z2k row≠[]:=by
 cases row with
 | nil=>exact absurd rfl h
 | cons x xs =>
  unfold z2k
  rw[List.map_cons,Lib.join_cons]
  have:=itoa_ne x
  simp[this]
def prt_row{row:List Int}(h:row≠[]):zds (z2l row)=row.map z3m:=by
 have hd:(z2l row).data.toList=Lib.join (row.map Lib.itoa) [32]:=by simp[z2l,z2k]
 unfold zds
 rw[hd,zb9 (row.map Lib.itoa) (by simpa using h) λx hx=>by
  obtain⟨n,_,rfl⟩:=List.mem_map.1 hx
  exact zjm n,List.map_map]
 rfl
def zo8:∀{row:List Int},(∀n∈row,inK n (-999999999) 999999999=true)->zbu zaq (row.map z3m)=some row
 | [],_=>rfl
 | n::ns,h=>by
  rw[List.map_cons,zbu,part_can (h n (List.mem_cons_self ..)),zo8 λm hm=>h m (List.mem_cons_of_mem _ hm)]
def zj0{row:List Int}(h:row≠[])(hr:∀n∈row,inK n (-999999999) 999999999=true):zar (z2l row)=(row,true):=by
 unfold zar
 rw[if_neg,prt_row h,zo8 hr]
 intro he
 have e:=z3z.1 he
 have:=congrArg (λb:ByteArray=>b.data.toList) e
 simp[z2l]at this
 exact znb h this
def zg3(row:List Int):∀b∈z2k row,b≠(59:UInt8):=by
 have hd:∀u,∀b∈Lib.decDigits u,b≠(59:UInt8):=λu b hb e=>by
  have:=List.all_eq_true.1 (zm6 u) b hb
  simp only[zpt,Bool.and_eq_true,decide_eq_true_eq]at this
  subst e
  have:(59:UInt8).toNat=59:=rfl
  omega
 have hi:∀n,∀b∈Lib.itoa n,b≠(59:UInt8):=λn b hb=>by
  unfold Lib.itoa at hb
  split at hb
  ·rcases List.mem_cons.1 hb with rfl | hb
   ·decide
   ·exact hd _ b hb
  ·exact hd _ b hb
 intro b hb
 unfold z2k at hb
 cases row with
 | nil=>simp[Lib.join_nil]at hb
 | cons x xs =>
  rw[List.map_cons,Lib.join_cons]at hb
  rcases List.mem_append.1 hb with hb | hb
  ·exact hi x b hb
  ·unfold Lib.joinTail at hb
   obtain⟨l,hl,hb⟩:=List.mem_flatten.1 hb
   obtain⟨z,hz,rfl⟩:=List.mem_map.1 hl
   obtain⟨n,_,rfl⟩:=List.mem_map.1 hz
   rcases List.mem_append.1 hb with hb | hb
   ·simp at hb
    subst hb
    decide
   ·exact hi n b hb
end Go.Fw
namespace Go.Fw
def goI:List ByteArray->List Int->Int->Nat->Option (List Int×Int×Nat)
 | [],out,c,r=>some (out,c,r)
 | p::ps,out,c,r=>if(z5v p).2=true then(if decide (0<r)=true then(if((z5v p).1.length:Int)=c then goI ps (out++(z5v p).1) ((z5v p).1.length:Int) (r+1)else none)else goI ps (out++(z5v p).1) ((z5v p).1.length:Int) (r+1))else none
def znf{c:Nat}:∀(rows:List (List Int)) (out:List Int) (r:Nat) (c0:Int),(∀x∈rows,x≠[]/\x.length=c/\∀n∈x,inK n (-999999999) 999999999=true)->(0<r->c0=c)->rows≠[] ->
  goI (rows.map z2l) out c0 r=some (out++rows.flatten,(c:Int),r+rows.length)
 | [],_,_,_,_,_,h=>absurd rfl h
 | x::xs,out,r,c0,hx,hc,_=>by
  obtain⟨h1,h2,h3⟩:=hx x (List.mem_cons_self ..)
  have hp:z5v (z2l x)=(x,true):=(zft _).trans (zj0 h1 h3)
  have e:goI ((x::xs).map z2l) out c0 r=goI (xs.map z2l) (out++x) (c:Int) (r+1):=by
   rw[List.map_cons,goI,hp,if_pos rfl]
   by_cases h:0<r
   ·rw[if_pos (dt h),if_pos (by rw[h2];exact(hc h).symm),h2]
   ·rw[if_neg (by simp[h]),h2]
  rw[e]
  by_cases hn:xs=[]
  ·subst hn
   simp[goI]
  ·rw[znf xs (out++x) (r+1) c (λy hy=>hx y (List.mem_cons_of_mem _ hy)) (λ_=>rfl) hn]
   simp
   omega
def zaj(m:Int×Int×List Int):List (List Int):=(List.range m.2.1.toNat).map (zb7 m)
def z84(m:Int×Int×List Int):z5x m=(zaj m).map z2k:=by simp[z5x,zaj]
def zjs(n:Nat)(l:List Int):∀r,((List.range r).map λi=>(l.drop (i*n)).take n).flatten=l.take (r*n)
 | 0=>by simp
 | r+1=>by
  rw[List.range_succ,List.map_append,List.flatten_append,zjs n l r,Nat.add_mul,Nat.one_mul,List.take_add]
  simp
def z9g{m:Int×Int×List Int}(h:z0t m=true):(∀x∈zaj m,x≠[]/\x.length=m.1.toNat/\∀n∈x,inK n (-999999999) 999999999=true)/\zaj m≠[]/\(zaj m).length=m.2.1.toNat/\(zaj m).flatten=m.2.2:=by
 simp only[z0t,Bool.and_eq_true]at h
 obtain⟨n,r,hn,hr,hn1,hn5,hnr,hr8,hl⟩:=z12 h.1
 have en:m.1.toNat=n:=by omega
 have er:m.2.1.toNat=r:=by omega
 refine⟨λx hx=>?_,λe=>?_,by simp[zaj], ?_⟩
 ·obtain⟨i,hi,rfl⟩:=List.mem_map.1 hx
  have hi:=List.mem_range.1 hi
  have hlt:i*n+n<=m.2.2.length:=by
   have:=Nat.mul_le_mul_right n (show i+1<=r by omega)
   rw[Nat.add_mul,Nat.one_mul]at this
   rw[hl]
   exact this
  have hlen:(zb7 m i).length=n:=by
   unfold zb7
   rw[en,List.length_take,List.length_drop]
   omega
  refine⟨λe=>?_,by rw[hlen,en],λk hk=>?_⟩
  ·rw[e]at hlen
   simp at hlen
   omega
  ·have hx2:=List.mem_of_mem_drop (List.mem_of_mem_take hk)
   have:=z2b.1 ((List.all_eq_true.1 h.2) k hx2)
   exact z2b.2 ⟨by omega,by omega⟩
 ·have:=congrArg List.length e
  simp[zaj]at this
  omega
 ·have:=zjs n m.2.2 r
  unfold zaj
  rw[er]
  have e2:zb7 m=λi=>(m.2.2.drop (i*n)).take n:=by
   funext i
   unfold zb7
   rw[en]
  rw[e2,this]
  exact List.take_of_length_le (by omega)
def read_I{m:Int×Int×List Int}(h:z0t m=true):goI (Lib.splitB ⟨#[59,32]⟩ 0 (Lib.countB (z9w m) ⟨#[59,32]⟩) (z9w m)) [] 0 0=some (m.2.2,m.1,m.2.1.toNat):=by
 obtain⟨h1,h2,h3,h4⟩:=z9g h
 have hd:=h
 simp only[z0t,Bool.and_eq_true]at hd
 obtain⟨n,r,hn,hr,hn1,hn5,hnr,hr8,hl⟩:=z12 hd.1
 have e:Lib.splitB ⟨#[59,32]⟩ 0 (Lib.countB (z9w m) ⟨#[59,32]⟩) (z9w m)=(zaj m).map z2l:=by
  have:=zqk (rows:=z5x m) (by rw[z84];simpa using h2) λx hx=>by
   rw[z84]at hx
   obtain⟨z,_,rfl⟩:=List.mem_map.1 hx
   exact zg3 z
  refine this.trans ?_
  rw[z84,List.map_map]
  rfl
 rw[e,znf (zaj m) [] 0 0 h1 (λh=>absurd h (by omega)) h2,h3,h4]
 simp
 omega
def no3:(Int×Int×List Int)×Bool:=((0,0,[]),false)
def zm3(s:ByteArray)(m:Int×Int×List Int):(Int×Int×List Int)×Bool:=if(z0t m&&!decide (z3u m=[]))=true then(if z52 (if(z0t m&&!decide (z3u m=[]))=true then z9w m else ByteArray.empty) s=true then(m,true)else no3)else no3
def zct(s:ByteArray):(Int×Int×List Int)×Bool:=match goI (Lib.splitB ⟨#[59,32]⟩ 0 (Lib.countB s ⟨#[59,32]⟩) s) [] 0 0 with
 | some q=>zm3 s (q.2.1,(q.2.2:Int),q.1)
 | none=>no3
def zm2{s:ByteArray}{m:Int×Int×List Int}:zm3 s m=no3\/(zm3 s m=(m,true)/\z0t m=true/\z3u m≠[]/\z9w m=s):=by
 unfold zm3
 by_cases h3:(z0t m&&!decide (z3u m=[]))=true
 ·rw[if_pos h3,if_pos h3]
  by_cases h1:z52 (z9w m) s=true
  ·simp only[Bool.and_eq_true,Bool.not_eq_true',decide_eq_false_iff_not]at h3
   exact .inr ⟨if_pos h1,h3.1,h3.2,z3z.1 h1⟩
  ·exact .inl (if_neg h1)
 ·exact .inl (if_neg h3)
def fmt_ne{m:Int×Int×List Int}(h:z0t m=true):z52 (z9w m) ByteArray.empty≠true:=λhe=>by
 obtain⟨h1,h2,h3,h4⟩:=z9g h
 have e:=congrArg (λb:ByteArray=>b.data.toList) (z3z.1 he)
 have hf:(z9w m).data.toList=Lib.join (z5x m) [59,32]:=zad _
 have e:(z9w m).data.toList=[]:=by simpa using e
 rw[hf,z84]at e
 cases hq:zaj m with
 | nil=>exact h2 hq
 | cons x xs =>
  rw[hq,List.map_cons,Lib.join_cons]at e
  have:=znb (h1 x (by rw[hq];exact List.mem_cons_self ..)).1
  exact this (List.append_eq_nil_iff.1 e).1
def zdp{m:Int×Int×List Int}(h:z0t m=true)(hf:z3u m≠[]):zct (z9w m)=(m,true):=by
 have hd:=h
 simp only[z0t,Bool.and_eq_true]at hd
 obtain⟨n,r,hn,hr,hn1,hn5,hnr,hr8,hl⟩:=z12 hd.1
 unfold zct
 rw[read_I h]
 have e:((m.1,((m.2.1.toNat:Nat):Int),m.2.2):Int×Int×List Int)=m:=by
  rw[show((m.2.1.toNat:Nat):Int)=m.2.1 by omega]
 show zm3 (z9w m) (m.1,((m.2.1.toNat:Nat):Int),m.2.2)=_
 rw[e]
 unfold zm3
 have hz:(z0t m&&!decide (z3u m=[]))=true:=by rw[h];simpa using hf
 rw[if_pos hz,if_pos hz,if_pos (z3z.2 rfl)]
def z9h(s:ByteArray):zct s=no3\/∃m,zct s=(m,true)/\z0t m=true/\z3u m≠[]/\z9w m=s:=by
 unfold zct
 cases goI (Lib.splitB ⟨#[59,32]⟩ 0 (Lib.countB s ⟨#[59,32]⟩) s) [] 0 0 with
 | none=>exact .inl rfl
 | some q =>
  rcases zm2 (s:=s) (m:=(q.2.1,(q.2.2:Int),q.1))with h | h
  ·exact .inl h
  ·exact .inr ⟨_,h⟩
def zov{s:ByteArray}(h:s.size<=1048576):(zar s).1.length<=1048577:=by
 have hl:=zqy s
 unfold zar
 split
 ·decide
 ·cases hq:zbu zaq (zds s)with
  | none=>decide
  | some l =>
   obtain⟨_,hm⟩:=zmj hq
   have:=congrArg List.length hm
   rw[List.length_map]at this
   show l.length<=_
   omega
def zkj:∀(fuel:Nat) (l:List UInt8),2*Lib.countFrom [59,32] fuel l<=l.length
 | 0,l=>by simp[Lib.countFrom]
 | fuel+1,l=>by
  rw[Lib.countFrom]
  by_cases h:(Lib.index l [59,32] == -1)=true
  ·rw[if_pos h]
   omega
  ·rw[if_neg h]
   have hge:=Lib.index_ge l [59,32]
   have hne:Lib.index l [59,32]≠-1:=λe=>h (beq_iff_eq.2 e)
   have hr:=Lib.index_room l [59,32] (by omega)
   have h2:([59,32]:List UInt8).length=2:=rfl
   rw[h2]at hr ⊢
   have ih:=zkj fuel (l.drop ((Lib.index l [59,32]).toNat+2))
   rw[List.length_drop]at ih
   omega
def zio(sep:ByteArray):∀(k:Nat) (s:ByteArray),∀w∈Lib.splitB sep 0 k s,w.size<=s.size
 | 0,s,w,hw=>by
  rw[Lib.splitB_zero,List.mem_singleton]at hw
  rw[hw]
  exact Nat.le_refl _
 | k+1,s,w,hw=>by
  by_cases h:Lib.indexB s sep=-1
  ·rw[Lib.splitB_miss _ _ _ _ h,List.mem_singleton]at hw
   rw[hw]
   exact Nat.le_refl _
  ·have hge:-1<=Lib.indexB s sep:=Lib.index_ge _ _
   obtain⟨i,hi⟩:=Int.eq_ofNat_of_zero_le (show 0<=Lib.indexB s sep by omega)
   rw[Lib.splitB_hit _ _ _ _ i hi]at hw
   rcases List.mem_cons.1 hw with rfl | hw
   ·rw[ByteArray.size_extract]
    omega
   ·have:=zio sep k _ w hw
    rw[ByteArray.size_extract]at this
    omega
def zip(s:ByteArray):2*(Lib.splitB ⟨#[59,32]⟩ 0 (Lib.countB s ⟨#[59,32]⟩) s).length<=s.size+2/\∀w∈Lib.splitB ⟨#[59,32]⟩ 0 (Lib.countB s ⟨#[59,32]⟩) s,w.size<=s.size:=by
 refine⟨?_,zio _ _ _⟩
 have h1:=Lib.splitB_length_le ⟨#[59,32]⟩ 0 (Lib.countB s ⟨#[59,32]⟩) s
 have h2:2*Lib.countB s ⟨#[59,32]⟩<=s.size:=by
  rw[Lib.size_eq]
  exact zkj _ _
 omega
end Go.Fw
namespace Go.Fw
def zqr(n i:Nat):List Int:=(List.range n).map λj=>if i=j then 1 else 0
def z93(n:Nat):Nat->List Int
 | 0=>[]
 | k+1=>z93 n k++zqr n k
def z58(m:Int×Int×List Int):Int×Int×List Int:=(m.1,2*m.1,m.2.2++z93 m.1.toNat m.1.toNat)
def zak(n i:Nat):(zqr n i).length=n:=by simp[zqr]
def zqq{n i j:Nat}(h:j<n):(zqr n i).getD j 0=if i=j then 1 else 0:=zgz h 0
def zir(n k:Nat):(z93 n k).length=k*n:=by
 induction k with
 | zero=>simp[z93]
 | succ k ih=>rw[z93,List.length_append,ih,zak,Nat.add_mul,Nat.one_mul]
def ztu{m:Int×Int×List Int}(hd:z3i m=true):m.2.2.length<=40:=by
 obtain⟨n,r,hn,hr,hn1,hn5,hnr,hr8,hl⟩:=z12 hd
 have:r*n<=8*5:=Nat.mul_le_mul hr8 hn5
 omega
def zr0{m:Int×Int×List Int}(hd:z3i m=true)(k:Nat)(hk:k<=m.1.toNat):(m.2.2++z93 m.1.toNat k).length<=65:=by
 obtain⟨n,r,hn,hr,hn1,hn5,hnr,hr8,hl⟩:=z12 hd
 have:=ztu hd
 have h2:k*m.1.toNat<=5*5:=Nat.mul_le_mul (by omega) (by omega)
 rw[List.length_append,zir]
 omega
end Go.Fw
namespace Go.Fw
def noMat:(Int×Int×List Int)×Bool:=((0,0,[]),false)
def zoz(m:Int×Int×List Int)(k:Int):(Int×Int×List Int)×Bool :=
 if((z23 m&&!decide (z3u m=[]))&&(inK k 0 (m.1-1)&&z23 (z6h m k.toNat)))=true then(z6h m k.toNat,true)else((0,0,[]),false)
def z3o(f:Int×Int×List Int->Int->(Int×Int×List Int)×Bool)(m:Int×Int×List Int):List Int->(Int×Int×List Int)×Bool
 | []=>(m,true)
 | k::ks=>if(f m k).2=true then z3o f (f m k).1 ks else noMat
end Go.Fw
namespace Go.Fw
def z3p(m:Int×Int×List Int):Int×Int×List Int:=(m.1,m.1,m.2.2.take (m.1*m.1).toNat)
def zqj{m:Int×Int×List Int}(hd:z3i m=true):w64 (m.1*m.1)=m.1*m.1/\0<=m.1*m.1/\m.1*m.1<=25/\m.1*m.1<=(m.2.2.length:Int):=by
 obtain⟨n,r,hn,hr,hn1,hn5,hnr,hr8,hl⟩:=z12 hd
 have h1:n*n<=r*n:=Nat.mul_le_mul_right n hnr
 have h2:n*n<=5*5:=Nat.mul_le_mul hn5 hn5
 rw[hn,hl]
 have e:(n:Int)*(n:Int)=((n*n:Nat):Int):=by rw[Int.natCast_mul]
 rw[e]
 rw[z1c (by omega) (by omega)]
 exact⟨rfl,by omega,by omega,by omega⟩
end Go.Fw
set_option linter.defProp false
set_option maxRecDepth 100000
namespace Go.Fw
section
variable {ρ : Type}
namespace z13
def P(m:Int×Int×List Int)(i j:Int):Bool:=atP m i j
def g(m:Int×Int×List Int)(i j:Int):Int:=atK m i j
end z13
namespace z13
def Z0{ρ:Type}(N:Nat)(a:MT)(b c:Int)(kr:Int->Option ρ):Option ρ :=
 cond (lk N (inB (w64 ((w64 (b*a.1))+c)) a.2.2.length)) (
  kr (a.2.2.getD (w64 ((w64 (b*a.1))+c)).toNat 0)) none
def Spec:Prop:=∀ (v0:MT) (v1 v2:Int),Ty.bd (.pair (.int .i64) (.pair (.int .i64) (.sl 0 (.int .i64)))) v0->P v0 v1 v2=true->∃N0,∀N,N0<=N->Z0 N v0 v1 v2 (λv6=>some ((),(v6,())))=some ((),((g v0 v1 v2),()))
def ok:Spec:=λm i j hb hp=>⟨0,λN hN=>by
 obtain⟨h1,h2,h3⟩:=zo6 hb.2.2.1 hp
 simp only[Z0,g,atK,h1]
 rw[ct (ze5 h2 h3)]⟩
end z13
end
end Go.Fw
namespace Go.Fw
section
variable {ρ : Type}
namespace z2g
def g(l:List Int)(n:Int):Bool:=l.any λx=>decide (x=n)
end z2g
namespace z2g
def Z1{ρ:Type}(N:Nat)(a:LI)(b:Int)(kn:LI->Int->Option ρ):Option ρ :=
 kn a b
def Z4{ρ:Type}(N:Nat)(a:LI)(b:Int)(kn:LI->I2 (Option ρ)):Option ρ :=
 kn a b 0
def Z7{ρ:Type}(N:Nat)(a:LI)(c b:Int)(kn:LI->I2 (Option ρ))(k0:Option ρ)(kr:Bool->Option ρ):Option ρ :=
 cond (lk N (decide (b<(a.length:Int))))
 (
  cond (lk N (inB b a.length)) (
   cond (lk N (decide ((a.getD b.toNat 0)=c)))
   (
    kr true)
   (
    kn a c (w64 (b+1)))) none)
 (
  k0)
def Z6L{ρ:Type}(N:Nat)(k0:Option ρ)(kr:Bool->Option ρ):Nat->LI->Int->Int->Option ρ
 | 0,_,_,_=>none
 | M+1,a,b,c=>Z7 N a b c (λa b c=>Z6L N k0 kr M a b c) k0 kr
def Z6 N a b c k0 kr:=(Z6L N k0 kr N a b c:Option ρ)
def Z5 N a b c kn kr:=(Z6 N a b c kn kr:Option ρ)
def Z3 N a b kn kr:=(Z4 N a b (λa b c=>Z5 N a b c kn kr):Option ρ)
def Z8{ρ:Type}(N:Nat) (kr:Bool->Option ρ):Option ρ :=
 kr false
def Z2 N a b kr:=(Z3 N a b (Z8 N kr) kr:Option ρ)
def Z0 N a b kr:=(Z1 N a b (λa b=>Z2 N a b kr):Option ρ)
def Spec:Prop:=∀ (v0:LI) (v1:Int),Ty.bd (.sl 0 (.int .i64)) v0->∃N0,∀N,N0<=N->Z0 N v0 v1 (λv4=>some ((),(v4,())))=some ((),((g v0 v1),()))
def loop{ρ:Type}(N:Nat)(kr:Bool->Option ρ)(n:Int)(a:List Int)(ha:a.length<=maxLen):∀(M j:Nat),j<=a.length->a.length-j<M ->
  Z6L N (kr false) kr M a n (j:Int)=kr (g (a.drop j) n):=by
 intro M
 induction M with
 | zero=>intro j _ h;omega
 | succ M ih =>
  intro j hj hM
  simp only[Z6L,Z7]
  by_cases h:j<a.length
  ·rw[ct (dt (by omega)),ct (z1g h),Int.toNat_natCast,z1d (by omega),ih (j+1) h (by omega),z4c 0 h]
   simp only[g,List.any_cons,z1t]
   cases decide (a.getD j 0=n)<;>rfl
  ·rw[cf (df (by omega)),List.drop_of_length_le (by omega)];rfl
def ok:Spec:=λa n ha=>⟨a.length+1,λN hN=>by
 simp only[Z1,Z4,Z7,Z6,Z5,Z3,Z8,Z2,Z0]
 exact(loop N (λt=>some ((),(t,()))) n a ha.1 N 0 (by omega) (by omega)).trans rfl⟩
def g_iff{l:List Int}{n:Int}:g l n=true↔n∈l:=by
 simp[g]
end z2g
end
end Go.Fw
namespace Go.Fw
section
variable {ρ : Type}
namespace z0x
def P(m:Int×Int×List Int)(i:Int):Bool:=z3i m&&(decide (0<=i)&&decide (i<m.1))
def g(m:Int×Int×List Int)(i:Int):List Int×List Int:=(z39 (zc5 m i.toNat).1,z39 (zc5 m i.toNat).2)
end z0x
namespace z0x
def Z1{ρ:Type}(N:Nat)(a:MT)(b:Int)(kn:I3 (LI->Option ρ)):Option ρ :=
 kn b a.1 a.2.1 a.2.2
def Z3{ρ:Type}(N:Nat)(a b c:Int)(d:LI)(kn:LI->I3 (LI->Option ρ)):Option ρ :=
 kn ([a]:List Int) a b c d
def Z5{ρ:Type}(N:Nat)(a:LI)(b c d:Int)(e:LI)(kn:LI->LI->I2 (LI->Option ρ)):Option ρ :=
 kn a ([b]:List Int) c d e
def Z8{ρ:Type}(N:Nat)(a b:LI)(c d:Int)(e:LI)(kn:LI->LI->I3 (LI->Option ρ)):Option ρ :=
 kn a b 0 c d e
def Z12{ρ:Type}(N:Nat)(a b:LI)(c d e:Int)(f:LI)(kn:LI->LI->I3 (LI->Option ρ))(k0:LI->LI->Option ρ):Option ρ :=
 cond (lk N (decide (c<(a.length:Int))))
 (
  kn a b c d e f)
 (
  k0 a b)
def Z16{ρ:Type}(N:Nat)(a b:LI)(c d e:Int)(f:LI)(kn:LI->LI->I4 (LI->Option ρ)):Option ρ :=
 kn a b c 0 d e f
def Z19{ρ:Type}(N:Nat)(a h:LI)(c b d e:Int)(f:LI)(kn:LI->LI->I4 (LI->Option ρ))(k2:LI->LI->I3 (LI->Option ρ)):Option ρ :=
 cond (lk N (decide (b<d)))
 (
  cond (lk N (inB c a.length)) (
   cond (lk N (z13.P (d,(e,f)) (a.getD c.toNat 0) b)) (
    cond (lk N (!(decide ((z13.g (d,(e,f)) (a.getD c.toNat 0) b)=0))))
    (
     cond (!(lk N ((z2g.g a b))))
     (
      cond (lk N (Nat.blt (a.length+([b]:List Int).length) 1099511627776)) (
       cond (lk N (inB c (a++([b]:List Int)).length)) (
        cond (lk N (Nat.blt (h.length+([((a++([b]:List Int)).getD c.toNat 0)]:List Int).length) 1099511627776)) (
         kn (a++([b]:List Int)) (h++([((a++([b]:List Int)).getD c.toNat 0)]:List Int)) c (w64 (b+1)) d e f) none) none) none)
     (
      kn a h c (w64 (b+1)) d e f))
    (
     kn a h c (w64 (b+1)) d e f)) none) none)
 (
  k2 a h c d e f)
def Z18L{ρ:Type}(N:Nat)(k2:LI->LI->I3 (LI->Option ρ)):Nat->LI->LI->Int->Int->Int->Int->LI->Option ρ
 | 0,_,_,_,_,_,_,_=>none
 | M+1,a,b,c,d,e,f,g=>Z19 N a b c d e f g (λa b c d e f g=>Z18L N k2 M a b c d e f g) k2
def Z18 N a b c d e f g k2:=(Z18L N k2 N a b c d e f g:Option ρ)
def Z17 N a b c d e f g kn:=(Z18 N a b c d e f g kn:Option ρ)
def Z15 N a b c d e f kn:=(Z16 N a b c d e f (λa b c g d e f=>Z17 N a b c g d e f kn):Option ρ)
def Z14 N a b c d e f kn:=(Z15 N a b c d e f kn:Option ρ)
def Z20{ρ:Type}(N:Nat)(a b:LI)(c d e:Int)(f:LI)(kn:LI->LI->I3 (LI->Option ρ)):Option ρ :=
 kn a b (w64 (c+1)) d e f
def Z13 N a b c d e f kn:=(Z14 N a b c d e f (λa b c d e f=>Z20 N a b c d e f kn):Option ρ)
def Z11 N a b c d e f kn k0:=(Z12 N a b c d e f (λa b c d e f=>Z13 N a b c d e f kn) k0:Option ρ)
def Z10L{ρ:Type}(N:Nat)(k0:LI->LI->Option ρ):Nat->LI->LI->Int->Int->Int->LI->Option ρ
 | 0,_,_,_,_,_,_=>none
 | M+1,a,b,c,d,e,f=>Z11 N a b c d e f (λa b c d e f=>Z10L N k0 M a b c d e f) k0
def Z10 N a b c d e f k0:=(Z10L N k0 N a b c d e f:Option ρ)
def Z9 N a b c d e f kn:=(Z10 N a b c d e f kn:Option ρ)
def Z7 N a b c d e kn:=(Z8 N a b c d e (λa b f c d e=>Z9 N a b f c d e kn):Option ρ)
def Z21{ρ:Type}(N:Nat)(a b:LI)(kr:LI->LI->Option ρ):Option ρ :=
 kr a b
def Z6 N a b c d e kr:=(Z7 N a b c d e (λa b=>Z21 N a b kr):Option ρ)
def Z4 N a e b c d kr:=(Z5 N a e b c d (λa f b c d=>Z6 N a f b c d kr):Option ρ)
def Z2 N a b c d kr:=(Z3 N a b c d (λe a b c d=>Z4 N e a b c d kr):Option ρ)
def Z0 N b a kr:=(Z1 N b a (λa c d e=>Z2 N a c d e kr):Option ρ)
def Spec:Prop:=∀ (v0:MT) (v1:Int),Ty.bd (.pair (.int .i64) (.pair (.int .i64) (.sl 0 (.int .i64)))) v0->P v0 v1=true->∃N0,∀N,N0<=N->Z0 N v0 v1 (λv4 v5=>some ((),(v4,(v5,()))))=some ((),((g v0 v1).1,((g v0 v1).2,())))
def inner{ρ:Type}(N:Nat)(k2:List Int->List Int->Int->Int->Int->List Int->Option ρ)(m:Int×Int×List Int)(hd:z3i m=true)(i p:Nat):∀(M j:Nat) (s:List Nat×List Nat),zd0 m.1.toNat (ent m) i s->p<s.1.length->j<=m.1.toNat->m.1.toNat-j<M ->
  Z18L N k2 M (z39 s.1) (z39 s.2) (p:Int) (j:Int) m.1 m.2.1 m.2.2 =
   k2 (z39 (pIn (ent m) (s.1.getD p 0) ((List.range m.1.toNat).drop j) s).1) (z39 (pIn (ent m) (s.1.getD p 0) ((List.range m.1.toNat).drop j) s).2) (p:Int) m.1 m.2.1 m.2.2:=by
 obtain⟨n,r,hn,hr,hn1,hn5,hnr,hr8,hl⟩:=z12 hd
 intro M
 induction M with
 | zero=>intro j s _ _ _ h;omega
 | succ M ih =>
  intro j s hs hp hj hM
  have hle:=hs.le
  have hlen:=hs.len
  simp only[Z18L,Z19]
  by_cases h:j<m.1.toNat
  ·have hx:s.1.getD p 0<m.1.toNat:=hs.lt _ (z1l 0 hp)
   have h1:Nat.blt ((z39 s.1).length+([(j:Int)]).length) 1099511627776=true:=by
    simp[z27,Nat.blt_eq];omega
   have h2:Nat.blt ((z39 s.2).length+([((z39 (s.1++[j])).getD (p:Int).toNat 0)]).length) 1099511627776=true:=by
    simp[z27,Nat.blt_eq];omega
   rw[ct (dt (by omega)),ct (z1g (by rw[z27];exact hp)),z4e h,pIn]
   simp only[Int.toNat_natCast,z40]
   rw[ct (show z13.P (m.1,(m.2.1,m.2.2)) _ _=true from zmi hd (by omega) h),z1d (by rw[z0y];omega)]
   have hA:z13.g (m.1,(m.2.1,m.2.2)) ((s.1.getD p 0:Nat):Int) (j:Int)=ent m (s.1.getD p 0) j:=za5 (by omega) _ _
   by_cases ha:ent m (s.1.getD p 0) j=0
   ·rw[cf (nf (hA.trans ha)),if_neg (λhc=>hc.1 ha)]
    exact ih (j+1) s hs hp h (by omega)
   ·rw[ct (nt (λhc=>ha (hA.symm.trans hc)))]
    by_cases hm:j∈s.1
    ·rw[cf' (by rw[z1t,z2g.g_iff.2 (zn7.2 hm)];rfl),if_neg (λhc=>hc.2 hm)]
     exact ih (j+1) s hs hp h (by omega)
    ·have hf:z2g.g (z39 s.1) (j:Int)=false:=by
      cases hc:z2g.g (z39 s.1) (j:Int)
      ·rfl
      ·exact absurd (zn7.1 (z2g.g_iff.1 hc)) hm
     rw[ct' (by rw[z1t,hf];rfl),ct h1,z9s,ct (z1g (by rw[z27];simp;omega)),if_pos ⟨ha,hm⟩]
     have e:(s.1++[j]).getD p 0=s.1.getD p 0:=z2t hp
     rw[z40,e,z9s]
     rw[z40,Int.toNat_natCast,e]at h2
     rw[ct h2]
     have:=ih (j+1) (s.1++[j],s.2++[s.1.getD p 0]) (hs.step hp h ⟨ha,hm⟩) (by simp;omega) h (by omega)
     simp only[e]at this
     exact this
  ·rw[cf (df (by omega)),List.drop_of_length_le (by simp;omega),pIn]
def loop{ρ:Type}(N:Nat)(hN:10<=N)(k0:List Int->List Int->Option ρ)(m:Int×Int×List Int)(hd:z3i m=true)(i:Nat):∀(M p:Nat) (s:List Nat×List Nat),zd0 m.1.toNat (ent m) i s->p<=m.1.toNat->m.1.toNat-p<M ->
  Z10L N k0 M (z39 s.1) (z39 s.2) (p:Int) m.1 m.2.1 m.2.2=k0 (z39 (pGo (ent m) m.1.toNat (m.1.toNat-p) p s).1) (z39 (pGo (ent m) m.1.toNat (m.1.toNat-p) p s).2):=by
 obtain⟨n,r,hn,hr,hn1,hn5,hnr,hr8,hl⟩:=z12 hd
 intro M
 induction M with
 | zero=>intro p s _ _ h;omega
 | succ M ih =>
  intro p s hs hp hM
  have hle:=hs.le
  simp only[Z10L,Z11,Z12]
  by_cases h:p<s.1.length
  ·rw[ct (dt (by rw[z27];omega))]
   simp only[Z13,Z14,Z15,Z16,Z17,Z18,Z20]
   have hin:=inner (ρ:=ρ) N (λa b c d e f=>Z10L N k0 M a b (w64 (c+1)) d e f) m hd i p N 0 s hs h (by omega) (by omega)
   rw[show((0:Nat):Int)=0 from rfl]at hin
   rw[hin,z1d (by rw[z0y];omega),List.drop_zero]
   obtain⟨h1,h2,h3⟩:=zgq (p:=p) (List.range m.1.toNat) s hs h (λx hx=>List.mem_range.1 hx)
   rw[ih (p+1) _ h1 (by omega) (by omega),show m.1.toNat-p=(m.1.toNat-(p+1))+1 by omega,pGo,if_pos h]
  ·rw[cf (df (by rw[z27];omega))]
   cases hc:m.1.toNat-p with
   | zero=>rfl
   | succ f=>rw[pGo,if_neg h]
def ok:Spec:=λm i hb hp=>⟨10,λN hN=>by
 simp only[P,Bool.and_eq_true,decide_eq_true_eq]at hp
 obtain⟨hd,h0,h1⟩:=hp
 obtain⟨x,rfl⟩:=Int.eq_ofNat_of_zero_le h0
 obtain⟨n,r,hn,hr,hn1,hn5,hnr,hr8,hl⟩:=z12 hd
 simp only[Z0,Z1,Z2,Z3,Z4,Z5,Z6,Z7,Z8,Z9,Z10,Z21]
 have:=loop (ρ:=Unit×List Int×List Int×Unit) N hN (λa b=>some ((),(a,(b,())))) m hd x N 0 ([x],[x]) (zd0.first (by omega)) (by omega) (by omega)
 exact this⟩
end z0x
end
end Go.Fw
namespace Go.Fw
section
variable {ρ : Type}
namespace z36
def g(n:Int):Int:=mx n (w64 (0-n))
end z36
namespace z36
def Z0{ρ:Type}(N:Nat)(a:Int)(kr:Int->Option ρ):Option ρ :=
 kr (mx a (w64 (0-a)))
def Spec:Prop:=∀ (v0:Int),∃N0,∀N,N0<=N->Z0 N v0 (λv2=>some ((),(v2,())))=some ((),((g v0),()))
def ok:Spec:=λn=>⟨0,λN hN=>by
 simp only[Z0,g]⟩
end z36
end
end Go.Fw
namespace Go.Fw
section
variable {ρ : Type}
namespace z2m
def P(a b:Int):Bool:=decide (0<=a)&&(decide (a<9223372036854775808)&&(decide (0<=b)&&decide (b<9223372036854775808)))
def g(a b:Int):Int:=(Int.gcd a b:Int)
end z2m
namespace z2m
def Z1{ρ:Type}(N:Nat)(a b:Int)(kn:I2 (Option ρ)):Option ρ :=
 kn a b
def Z5{ρ:Type}(N:Nat)(b a:Int)(kn:I2 (Option ρ))(k0:Int->Option ρ):Option ρ :=
 cond (lk N (!(decide (a=0))))
 (
  cond (lk N (!(decide (a=0)))) (
   kn a (Int.tmod b a)) none)
 (
  k0 b)
def Z4L{ρ:Type}(N:Nat)(k0:Int->Option ρ):Nat->Int->Int->Option ρ
 | 0,_,_=>none
 | M+1,a,b=>Z5 N a b (λa b=>Z4L N k0 M a b) k0
def Z4 N a b k0:=(Z4L N k0 N a b:Option ρ)
def Z3 N a b kn:=(Z4 N a b kn:Option ρ)
def Z6{ρ:Type}(N:Nat)(a:Int)(kr:Int->Option ρ):Option ρ :=
 kr a
def Z2 N a b kr:=(Z3 N a b (λa=>Z6 N a kr):Option ρ)
def Z0 N a b kr:=(Z1 N a b (λa b=>Z2 N a b kr):Option ρ)
def Spec:Prop:=∀ (v0 v1:Int),P v0 v1=true->∃N0,∀N,N0<=N->Z0 N v0 v1 (λv4=>some ((),(v4,())))=some ((),((g v0 v1),()))
def loop{ρ:Type}(N:Nat)(k0:Int->Option ρ):∀(M:Nat) (a b:Nat),b<M->Z4L N k0 M (a:Int) (b:Int)=k0 (Nat.gcd b a:Nat):=by
 intro M
 induction M with
 | zero=>intro a b h;omega
 | succ M ih =>
  intro a b hM
  simp only[Z4L,Z5]
  by_cases h:b=0
  ·subst h
   rw[cf (by simp),Nat.gcd_zero_left]
  ·rw[ct (nt (by omega)),ct (nt (by omega)),show Int.tmod (a:Int) (b:Int)=((a%b:Nat):Int)from rfl,ih _ _ (by have:=Nat.mod_lt a (Nat.pos_of_ne_zero h);omega),<-Nat.gcd_rec]
def ok:Spec:=λa b hp=>⟨b.toNat+1,λN hN=>by
 simp only[P,Bool.and_eq_true,decide_eq_true_eq]at hp
 obtain⟨h1,h2,h3,h4⟩:=hp
 obtain⟨x,rfl⟩:=Int.eq_ofNat_of_zero_le h1
 obtain⟨y,rfl⟩:=Int.eq_ofNat_of_zero_le h3
 simp only[Z1,Z5,Z4,Z3,Z6,Z2,Z0,g]
 rw[loop N _ N x y (by omega),Nat.gcd_comm]
 rfl⟩
end z2m
end
end Go.Fw
namespace Go.Fw
section
variable {ρ : Type}
namespace z04
def P(m:Int×Int×List Int):Bool:=z23 m
def g(m:Int×Int×List Int):List Int×Bool:=(z3u m,!decide (z3u m=[]))
end z04
namespace z04
def Z1{ρ:Type}(N:Nat)(a:MT)(kn:I2 (LI->Option ρ)):Option ρ :=
 kn a.1 a.2.1 a.2.2
def Z3{ρ:Type}(N:Nat)(a b:Int)(c:LI)(kn:LI->I2 (LI->Option ρ)):Option ρ :=
 cond (lk N (leB 0 a&&decide (a<1099511627776))) (
  kn (List.replicate a.toNat (0:Int)) a b c) none
def Z6{ρ:Type}(N:Nat)(a:LI)(b c:Int)(d:LI)(kn:LI->I3 (LI->Option ρ)):Option ρ :=
 kn a 0 b c d
def Z10{ρ:Type}(N:Nat)(b:LI)(c a d:Int)(e:LI)(kn:LI->I3 (LI->Option ρ))(k0:LI->I2 (LI->Option ρ)):Option ρ :=
 cond (lk N (decide (c<a)))
 (
  kn b c a d e)
 (
  k0 b a d e)
def Z14{ρ:Type}(N:Nat)(a:LI)(b c d:Int)(e:LI)(kn k1:LI->I3 (LI->Option ρ)):Option ρ :=
 cond (lk N (inB b a.length)) (
  cond (lk N (decide (0<(a.getD b.toNat 0))))
  (
   k1 a b c d e)
  (
   kn a b c d e)) none
def Z16{ρ:Type}(N:Nat)(e:LI)(a b c:Int)(d:LI)(kn:LI->LI->LI->I3 (LI->Option ρ)):Option ρ :=
 cond (lk N (z0x.P (b,(c,d)) a)) (
  kn e (z0x.g (b,(c,d)) a).1 (z0x.g (b,(c,d)) a).2 a b c d) none
def Z18{ρ:Type}(N:Nat)(b c d:LI)(a e f:Int)(g:LI)(kn:LI->LI->LI->I3 (LI->Option ρ)):Option ρ :=
 cond (lk N (inB a b.length)) (
  kn (b.set a.toNat 1) c d a e f g) none
def Z21{ρ:Type}(N:Nat)(a b c:LI)(d e f:Int)(g:LI)(kn:LI->LI->LI->I4 (LI->Option ρ)):Option ρ :=
 kn a b c d 1 e f g
def Z24{ρ:Type}(N:Nat)(d b e:LI)(c a f h:Int)(i:LI)(kn:LI->LI->LI->I4 (LI->Option ρ))(k2:LI->LI->LI->I3 (LI->Option ρ)):Option ρ :=
 cond (lk N (decide (a<(b.length:Int))))
 (
  cond (lk N (inB c d.length)) (
   cond (lk N (inB a b.length)) (
    cond (lk N (inB a e.length)) (
     cond (lk N (z13.P (f,(h,i)) (b.getD a.toNat 0) (e.getD a.toNat 0))) (
      cond (lk N (inB c d.length)) (
       kn (d.set c.toNat (w64 ((d.getD c.toNat 0)*(z36.g (z13.g (f,(h,i)) (b.getD a.toNat 0) (e.getD a.toNat 0)))))) b e c (w64 (a+1)) f h i) none) none) none) none) none)
 (
  k2 d b e c f h i)
def Z23L{ρ:Type}(N:Nat)(k2:LI->LI->LI->I3 (LI->Option ρ)):Nat->LI->LI->LI->Int->Int->Int->Int->LI->Option ρ
 | 0,_,_,_,_,_,_,_,_=>none
 | M+1,a,b,c,d,e,f,g,h=>Z24 N a b c d e f g h (λa b c d e f g h=>Z23L N k2 M a b c d e f g h) k2
def Z23 N a b c d e f g h k2:=(Z23L N k2 N a b c d e f g h:Option ρ)
def Z22 N a b c d e f g h kn:=(Z23 N a b c d e f g h kn:Option ρ)
def Z20 N a b c d e f g kn:=(Z21 N a b c d e f g (λa b c d h e f g=>Z22 N a b c d h e f g kn):Option ρ)
def Z26{ρ:Type}(N:Nat)(a c d:LI)(b e f:Int)(g:LI)(kn:LI->LI->LI->I4 (LI->Option ρ)):Option ρ :=
 cond (lk N (inB b a.length)) (
  kn a c d b (a.getD b.toNat 0) e f g) none
def Z29{ρ:Type}(N:Nat)(a b c:LI)(d e f g:Int)(h:LI)(kn:LI->LI->LI->I5 (LI->Option ρ)):Option ρ :=
 kn a b c d e 1 f g h
def Z32{ρ:Type}(N:Nat)(h b c:LI)(j i a d e:Int)(f:LI)(kn:LI->LI->LI->I5 (LI->Option ρ))(k4:LI->LI->I4 (LI->Option ρ)):Option ρ :=
 let x1_:=(z36.g (z13.g (d,(e,f)) (b.getD a.toNat 0) (c.getD a.toNat 0)))
 let x2_:=(lk N (inB a b.length))
 let x0_:=(h.set (b.getD a.toNat 0).toNat (w64 (Int.tdiv (w64 ((h.getD (c.getD a.toNat 0).toNat 0)*(z36.g (z13.g (d,(e,f)) (c.getD a.toNat 0) (b.getD a.toNat 0))))) x1_)))
 cond (lk N (decide (a<(b.length:Int))))
 (
 cond x2_ (
 cond (lk N (inB a c.length)) (
 cond (lk N (inB (c.getD a.toNat 0) h.length)) (
 cond (lk N (inB a c.length)) (
 cond x2_ (
 cond x2_ (
 cond (lk N (inB a c.length)) (
 cond (lk N (z13.P (d,(e,f)) (c.getD a.toNat 0) (b.getD a.toNat 0))) (
 cond (lk N (z13.P (d,(e,f)) (b.getD a.toNat 0) (c.getD a.toNat 0))) (
 cond (lk N (!(decide (x1_=0)))) (
 cond (lk N (inB (b.getD a.toNat 0) h.length)) (
 cond x2_ (
 cond (lk N (inB (b.getD a.toNat 0) x0_.length)) (
 cond (lk N (z2m.P i (x0_.getD (b.getD a.toNat 0).toNat 0))) (
 kn x0_ b c j (z2m.g i (x0_.getD (b.getD a.toNat 0).toNat 0)) (w64 (a+1)) d e f) none) none) none) none) none) none) none) none) none) none) none) none) none) none)
 (
 k4 h b j i d e f)
def Z31L{ρ:Type}(N:Nat)(k4:LI->LI->I4 (LI->Option ρ)):Nat->LI->LI->LI->Int->Int->Int->Int->Int->LI->Option ρ
 | 0,_,_,_,_,_,_,_,_,_=>none
 | M+1,a,b,c,d,e,f,g,h,i=>Z32 N a b c d e f g h i (λa b c d e f g h i=>Z31L N k4 M a b c d e f g h i) k4
def Z31 N a b c d e f g h i k4:=(Z31L N k4 N a b c d e f g h i:Option ρ)
def Z30 N a b c d e f g h i kn:=(Z31 N a b c d e f g h i kn:Option ρ)
def Z28 N a b c d e f g h kn:=(Z29 N a b c d e f g h (λa b c d e i f g h=>Z30 N a b c d e i f g h kn):Option ρ)
def Z34{ρ:Type}(N:Nat)(a b:LI)(c d e f:Int)(g:LI)(kn:LI->LI->I5 (LI->Option ρ)):Option ρ :=
 kn a b c d 0 e f g
def Z37{ρ:Type}(N:Nat)(c a:LI)(e d b f g:Int)(h:LI)(kn:LI->LI->I5 (LI->Option ρ))(k6:LI->I3 (LI->Option ρ)):Option ρ :=
 cond (lk N (decide (b<(a.length:Int))))
 (
  cond (lk N (inB b a.length)) (
   cond (lk N (inB b a.length)) (
    cond (lk N (inB (a.getD b.toNat 0) c.length)) (
     cond (lk N (!(decide (d=0)))) (
      cond (lk N (inB (a.getD b.toNat 0) c.length)) (
       kn (c.set (a.getD b.toNat 0).toNat (w64 (Int.tdiv (c.getD (a.getD b.toNat 0).toNat 0) d))) a e d (w64 (b+1)) f g h) none) none) none) none) none)
 (
  k6 c e f g h)
def Z36L{ρ:Type}(N:Nat)(k6:LI->I3 (LI->Option ρ)):Nat->LI->LI->Int->Int->Int->Int->Int->LI->Option ρ
 | 0,_,_,_,_,_,_,_,_=>none
 | M+1,a,b,c,d,e,f,g,h=>Z37 N a b c d e f g h (λa b c d e f g h=>Z36L N k6 M a b c d e f g h) k6
def Z36 N a b c d e f g h k6:=(Z36L N k6 N a b c d e f g h:Option ρ)
def Z35 N a b c d e f g h kn:=(Z36 N a b c d e f g h kn:Option ρ)
def Z33 N a b c d e f g kn:=(Z34 N a b c d e f g (λa b c d h e f g=>Z35 N a b c d h e f g kn):Option ρ)
def Z27 N a b h c d e f g kn:=(Z28 N a b h c d e f g (λa b c d e f g=>Z33 N a b c d e f g kn):Option ρ)
def Z25 N a b c d e f g kn:=(Z26 N a b c d e f g (λa b c d h e f g=>Z27 N a b c d h e f g kn):Option ρ)
def Z19 N a b c d e f g kn:=(Z20 N a b c d e f g (λa b c d e f g=>Z25 N a b c d e f g kn):Option ρ)
def Z17 N a b c d e f g kn:=(Z18 N a b c d e f g (λa b c d e f g=>Z19 N a b c d e f g kn):Option ρ)
def Z15 N a b c d e kn:=(Z16 N a b c d e (λa f g b c d e=>Z17 N a f g b c d e kn):Option ρ)
def Z13 N a b c d e kn k1:=(Z14 N a b c d e (λa b c d e=>Z15 N a b c d e kn) k1:Option ρ)
def Z12 N a b c d e kn:=(Z13 N a b c d e kn kn:Option ρ)
def Z38{ρ:Type}(N:Nat)(a:LI)(b c d:Int)(e:LI)(kn:LI->I3 (LI->Option ρ)):Option ρ :=
 kn a (w64 (b+1)) c d e
def Z11 N a b c d e kn:=(Z12 N a b c d e (λa b c d e=>Z38 N a b c d e kn):Option ρ)
def Z9 N a b c d e kn k0:=(Z10 N a b c d e (λa b c d e=>Z11 N a b c d e kn) k0:Option ρ)
def Z8L{ρ:Type}(N:Nat)(k0:LI->I2 (LI->Option ρ)):Nat->LI->Int->Int->Int->LI->Option ρ
 | 0,_,_,_,_,_=>none
 | M+1,a,b,c,d,e=>Z9 N a b c d e (λa b c d e=>Z8L N k0 M a b c d e) k0
def Z8 N a b c d e k0:=(Z8L N k0 N a b c d e:Option ρ)
def Z7 N a b c d e kn:=(Z8 N a b c d e kn:Option ρ)
def Z5 N a b c d kn:=(Z6 N a b c d (λa e b c d=>Z7 N a e b c d kn):Option ρ)
def Z41{ρ:Type}(N:Nat)(a:LI)(b c:Int)(d:LI)(kn:LI->I3 (LI->Option ρ)):Option ρ :=
 kn a 0 b c d
def Z45{ρ:Type}(N:Nat)(a:LI)(b c d:Int)(e:LI)(kn:LI->I3 (LI->Option ρ))(k8:LI->Option ρ):Option ρ :=
 cond (lk N (decide (b<c)))
 (
  kn a b c d e)
 (
  k8 a)
def Z49{ρ:Type}(N:Nat)(a:LI)(b c d:Int)(e:LI)(kn:LI->I4 (LI->Option ρ)):Option ρ :=
 kn a b 0 c d e
def Z52{ρ:Type}(N:Nat)(d:LI)(a b c e:Int)(f:LI)(kn:LI->I4 (LI->Option ρ))(k10:LI->I3 (LI->Option ρ))(kr:LI->Bool->Option ρ):Option ρ :=
 cond (lk N (decide (b<c)))
 (
  cond (lk N (inB a d.length)) (
   cond (lk N (inB b d.length)) (
    cond (lk N (z13.P (c,(e,f)) a b)) (
     cond (lk N (z13.P (c,(e,f)) b a)) (
      cond (lk N (!(decide ((w64 ((d.getD a.toNat 0)*(z13.g (c,(e,f)) a b)))=(w64 (0-(w64 ((d.getD b.toNat 0)*(z13.g (c,(e,f)) b a)))))))))
      (
       kr ([]:List Int) false)
      (
       kn d a (w64 (b+1)) c e f)) none) none) none) none)
 (
  k10 d a c e f)
def Z51L{ρ:Type}(N:Nat)(k10:LI->I3 (LI->Option ρ))(kr:LI->Bool->Option ρ):Nat->LI->Int->Int->Int->Int->LI->Option ρ
 | 0,_,_,_,_,_,_=>none
 | M+1,a,b,c,d,e,f=>Z52 N a b c d e f (λa b c d e f=>Z51L N k10 kr M a b c d e f) k10 kr
def Z51 N a b c d e f k10 kr:=(Z51L N k10 kr N a b c d e f:Option ρ)
def Z50 N a b c d e f kn kr:=(Z51 N a b c d e f kn kr:Option ρ)
def Z48 N a b c d e kn kr:=(Z49 N a b c d e (λa b f c d e=>Z50 N a b f c d e kn kr):Option ρ)
def Z47 N a b c d e kn kr:=(Z48 N a b c d e kn kr:Option ρ)
def Z53{ρ:Type}(N:Nat)(a:LI)(b c d:Int)(e:LI)(kn:LI->I3 (LI->Option ρ)):Option ρ :=
 kn a (w64 (b+1)) c d e
def Z46 N a b c d e kn kr:=(Z47 N a b c d e (λa b c d e=>Z53 N a b c d e kn) kr:Option ρ)
def Z44 N a b c d e kn k8 kr:=(Z45 N a b c d e (λa b c d e=>Z46 N a b c d e kn kr) k8:Option ρ)
def Z43L{ρ:Type}(N:Nat)(k8:LI->Option ρ)(kr:LI->Bool->Option ρ):Nat->LI->Int->Int->Int->LI->Option ρ
 | 0,_,_,_,_,_=>none
 | M+1,a,b,c,d,e=>Z44 N a b c d e (λa b c d e=>Z43L N k8 kr M a b c d e) k8 kr
def Z43 N a b c d e k8 kr:=(Z43L N k8 kr N a b c d e:Option ρ)
def Z42 N a b c d e kn kr:=(Z43 N a b c d e kn kr:Option ρ)
def Z40 N a b c d kn kr:=(Z41 N a b c d (λa e b c d=>Z42 N a e b c d kn kr):Option ρ)
def Z54{ρ:Type}(N:Nat)(a:LI)(kr:LI->Bool->Option ρ):Option ρ :=
 kr a true
def Z39 N a b c d kr:=(Z40 N a b c d (λa=>Z54 N a kr) kr:Option ρ)
def Z4 N a b c d kr:=(Z5 N a b c d (λa b c d=>Z39 N a b c d kr):Option ρ)
def Z2 N a b c kr:=(Z3 N a b c (λd a b c=>Z4 N d a b c kr):Option ρ)
def Z0 N a kr:=(Z1 N a (λb c d=>Z2 N b c d kr):Option ρ)
def Spec:Prop:=∀ (v0:MT),Ty.bd (.pair (.int .i64) (.pair (.int .i64) (.sl 0 (.int .i64)))) v0->P v0=true->∃N0,∀N,N0<=N->Z0 N v0 (λv2 v3=>some ((),(v2,(v3,()))))=some ((),((g v0).1,((g v0).2,())))
def zud{a:Int}(h:-99<=a/\a<=99):z36.g a=z62 a:=by
 unfold z36.g
 rw[z1c (by omega) (by omega),mx_eq]
 unfold z62
 omega
section
variable {ρ : Type} {N : Nat} {m : Int × Int × List Int} {s : List Nat × List Nat} {i : Nat}
def at_g(hd:0<=m.1)(a b:Nat):z13.g (m.1,(m.2.1,m.2.2)) (a:Int) (b:Int)=ent m a b:=za5 hd a b
def at_p(hd:z3i m=true){a b:Nat}(ha:a<m.1.toNat)(hb:b<m.1.toNat):z13.P (m.1,(m.2.1,m.2.2)) (a:Int) (b:Int)=true:=by
 obtain⟨n,r,hn,hr,hn1,hn5,hnr,hr8,hl⟩:=z12 hd
 exact zmi hd (by omega) hb
def loop1(hs:z23 m=true)(h:zd0 m.1.toNat (ent m) i s)(hi:i<m.1.toNat)(k2:List Int->List Int->List Int->Int->Int->Int->List Int->Option ρ)(d0:List Int)(hd0:d0.length=m.1.toNat):∀(M k:Nat),1<=k->k<=s.1.length->s.1.length-k<M ->
  Z23L N k2 M (d0.set i (z5n (qK m s) k)) (z39 s.1) (z39 s.2) (i:Int) (k:Int) m.1 m.2.1 m.2.2=k2 (d0.set i (z5n (qK m s) s.1.length)) (z39 s.1) (z39 s.2) (i:Int) m.1 m.2.1 m.2.2:=by
 have hdim:=z1r (z1m hs)
 obtain⟨n,r,hn,hr,hn1,hn5,hnr,hr8,hl⟩:=z12 hdim
 have hle:=h.le
 intro M
 induction M with
 | zero=>intro k _ _ hM;omega
 | succ M ih =>
  intro k h1 hk hM
  simp only[Z23L,Z24]
  by_cases hlt:k<s.1.length
  ·have hb:=z67 (zdq hs h) (k+1) (by omega)
   have hp9:=zr1 (k:=k+1) (by omega)
   have e:qK m s k=z36.g (ent m (s.1.getD k 0) (s.2.getD k 0)):=by
    rw[zud (z3n (z1m hs) _ _),qK,if_neg (by omega)]
   rw[ct (dt (by rw[z27];omega)),ct (z1g (by rw[List.length_set];omega)),ct (z1g (by rw[z27];omega)),ct (z1g (by rw[z27,h.len];omega))]
   simp only[Int.toNat_natCast,z40]
   rw[ct (at_p hdim (h.lt _ (z1l 0 hlt)) (zin h h1 hlt)),ct (z1g (by rw[List.length_set];omega)),List.set_set,z28 (by omega),if_pos rfl,at_g (by omega),<-e,
    show z5n (qK m s) k*qK m s k=z5n (qK m s) (k+1)from rfl,z1c (by omega) (by omega),z1d (by rw[z0y];omega)]
   exact ih (k+1) (by omega) (by omega) (by omega)
  ·rw[cf (df (by rw[z27];omega)),show k=s.1.length by omega]
def loop2(hs:z23 m=true)(h:zd0 m.1.toNat (ent m) i s)(k4:List Int->List Int->Int->Int->Int->Int->List Int->Option ρ)(d0:List Int):∀(M k:Nat) (d:List Int) (g:Int),1<=k->k<=s.1.length->s.1.length-k<M->T2 m s d0 k d g ->
  ∃d' g',T2 m s d0 s.1.length d' g'/\Z31L N k4 M d (z39 s.1) (z39 s.2) (i:Int) g (k:Int) m.1 m.2.1 m.2.2=k4 d' (z39 s.1) (i:Int) g' m.1 m.2.1 m.2.2:=by
 have hdim:=z1r (z1m hs)
 obtain⟨n,r,hn,hr,hn1,hn5,hnr,hr8,hl⟩:=z12 hdim
 have hle:=h.le
 intro M
 induction M with
 | zero=>intro k _ _ _ _ hM;omega
 | succ M ih =>
  intro k d g h1 hk hM ht
  simp only[Z31L,Z32]
  by_cases hlt:k<s.1.length
  ·obtain⟨⟨a1,a2⟩,⟨b1,b2⟩,hst⟩:=ht.step hs h (by omega) h1 hlt
   obtain⟨⟨hq,_⟩,hp,_⟩:=zd5 hs h h1 hlt
   have hg:=ht.g_range h1
   have hx:=h.lt _ (z1l 0 hlt)
   have hf:=zin h h1 hlt
   have e1:z36.g (ent m (s.1.getD k 0) (s.2.getD k 0))=qK m s k:=by
    rw[zud (z3n (z1m hs) _ _),qK,if_neg (by omega)]
   have e2:z36.g (ent m (s.2.getD k 0) (s.1.getD k 0))=pK m s k:=by
    rw[zud (z3n (z1m hs) _ _),pK]
   have c1:inB (k:Int) (z39 s.1).length=true:=z1g (by rw[z27];omega)
   have c2:inB (k:Int) (z39 s.2).length=true:=z1g (by rw[z27,h.len];omega)
   rw[ct (dt (by rw[z27];omega)),ct c1,ct c2]
   simp only[Int.toNat_natCast,z40]
   rw[ct (z1g (by rw[ht.len];exact hf)),ct c2,ct c1,ct c1,ct c2,ct (at_p hdim hf hx),ct (at_p hdim hx hf)]
   simp only[at_g (show 0<=m.1 by omega),e1,e2]
   rw[ct (nt (by omega)),ct (z1g (by rw[ht.len];exact hx)),ct c1]
   simp only[z1c (show -9223372036854775808<=d.getD (s.2.getD k 0) 0*pK m s k by omega) (by omega)]
   simp only[z1c (show -9223372036854775808<=Int.tdiv (d.getD (s.2.getD k 0) 0*pK m s k) (qK m s k) by omega) (by omega)]
   rw[ct (z1g (by rw[List.length_set,ht.len];exact hx)),z28 (by rw[ht.len];exact hx),if_pos rfl]
   rw[ct (show z2m.P g _=true by
    simp only[z2m.P,Bool.and_eq_true,decide_eq_true_eq]
    exact⟨by omega,by omega,by omega,by omega⟩),z1d (by rw[z0y];omega)]
   exact ih (k+1) _ _ (by omega) (by omega) (by omega) hst
  ·have e:k=s.1.length:=by omega
   subst e
   exact⟨d,g,ht,by rw[cf (df (by rw[z27];omega))]⟩
def loop3(hs:z23 m=true)(h:zd0 m.1.toNat (ent m) i s)(k6:List Int->Int->Int->Int->List Int->Option ρ)(d0 d2:List Int)(g:Int)(h2:T2 m s d0 s.1.length d2 g):∀(M k:Nat) (d:List Int),k<=s.1.length->s.1.length-k<M->T3 m s d2 g k d ->
  ∃d',T3 m s d2 g s.1.length d'/\Z36L N k6 M d (z39 s.1) (i:Int) g (k:Int) m.1 m.2.1 m.2.2=k6 d' (i:Int) m.1 m.2.1 m.2.2:=by
 have hle:=h.le
 have hdim:=z1r (z1m hs)
 obtain⟨n,r,hn,hr,hn1,hn5,hnr,hr8,hl⟩:=z12 hdim
 have hg:=h2.g_range h.pos
 intro M
 induction M with
 | zero=>intro k _ _ hM;omega
 | succ M ih =>
  intro k d hk hM ht
  simp only[Z36L,Z37]
  by_cases hlt:k<s.1.length
  ·have hx:=h.lt _ (z1l 0 hlt)
   have c1:inB (k:Int) (z39 s.1).length=true:=z1g (by rw[z27];omega)
   have hv:=h2.val k hlt
   have hp8:=zr1 (k:=4+k) (by omega)
   have hdv:0<=Int.tdiv (d2.getD (s.1.getD k 0) 0) g/\Int.tdiv (d2.getD (s.1.getD k 0) 0) g<=9227446944279201:=by
    rw[Int.tdiv_eq_ediv_of_nonneg (by omega)]
    refine⟨Int.ediv_nonneg (by omega) (by omega), ?_⟩
    have:=Int.ediv_le_self (a:=d2.getD (s.1.getD k 0) 0) g (by omega)
    omega
   rw[ct (dt (by rw[z27];omega)),ct c1,ct c1]
   simp only[Int.toNat_natCast,z40]
   rw[ct (z1g (by rw[ht.len];exact hx)),ct (nt (by omega)),ct (z1g (by rw[ht.len];exact hx)),ht.cur h.nd h.lt hlt,z1c (by omega) (by omega),z1d (by rw[z0y];omega)]
   exact ih (k+1) _ (by omega) (by omega) (ht.step h.nd h.lt hlt)
  ·have e:k=s.1.length:=by omega
   subst e
   exact⟨d,ht,by rw[cf (df (by rw[z27];omega))]⟩
def outer(hN:10<=N)(hs:z23 m=true)(k0:List Int->Int->Int->List Int->Option ρ):∀(M i:Nat) (d:List Int),i<=m.1.toNat->m.1.toNat-i<M->d.length=m.1.toNat->Part m.1.toNat (ent m) (λx=>d.getD x 0)->(∀x,x<i->0<d.getD x 0) ->
  ∃d',(d'.length=m.1.toNat/\Part m.1.toNat (ent m) (λx=>d'.getD x 0)/\∀x,x<m.1.toNat->0<d'.getD x 0)/\Z8L N k0 M d (i:Int) m.1 m.2.1 m.2.2=k0 d' m.1 m.2.1 m.2.2:=by
 have hdim:=z1r (z1m hs)
 obtain⟨n,r,hn,hr,hn1,hn5,hnr,hr8,hl⟩:=z12 hdim
 intro M
 induction M with
 | zero=>intro i _ _ hM;omega
 | succ M ih =>
  intro i d hi hM hdl hpt hpos
  simp only[Z8L,Z9,Z10]
  by_cases hlt:i<m.1.toNat
  ·rw[ct (dt (by omega))]
   simp only[Z11,Z12,Z13,Z14]
   rw[ct (z1g (by omega)),Int.toNat_natCast]
   by_cases hd:0<d.getD i 0
   ·rw[ct (dt hd)]
    simp only[Z38]
    rw[z1d (by rw[z0y];omega)]
    exact ih (i+1) d hlt (by omega) hdl hpt (λx hx=>by
     by_cases e:x=i
     ·subst e;exact hd
     ·exact hpos x (by omega))
   ·rw[cf (df hd)]
    obtain⟨h,hcl⟩:=piece_ok hlt
    simp only[Z15,Z16]
    rw[ct (show z0x.P (m.1,(m.2.1,m.2.2)) (i:Int)=true by
     simp only[z0x.P,Bool.and_eq_true,decide_eq_true_eq]
     exact⟨hdim,by omega,by omega⟩)]
    simp only[Z17,Z18]
    rw[ct (z1g (by omega)),Int.toNat_natCast]
    have eP:z0x.g (m.1,(m.2.1,m.2.2)) (i:Int)=(z39 (zc5 m i).1,z39 (zc5 m i).2):=rfl
    rw[eP]
    generalize zc5 m i=s at h hcl
    have hle:=h.le
    simp only[Z19,Z20,Z21,Z22,Z23]
    have l1:=loop1 (ρ:=ρ) (N:=N) hs h hlt (λa b c d e f g=>Z25 N a b c d e f g (λa b c d e=>Z38 N a b c d e (λa b c d e=>Z8L N k0 M a b c d e))) d hdl N 1 (by omega) h.pos (by omega)
    rw[show z5n (qK m s) 1=1 by simp[z5n,qK]]at l1
    rw[show(((1:Nat):Int))=1 from rfl]at l1
    rw[l1]
    simp only[Z25,Z26]
    have hset:∀v,(d.set i v).length=m.1.toNat:=λv=>by rw[List.length_set];exact hdl
    rw[ct (z1g (by rw[hset];exact hlt)),Int.toNat_natCast,z28 (by omega),if_pos rfl]
    simp only[Z27,Z28,Z29,Z30,Z31]
    have hH:=z67 (zdq hs h) s.1.length (by omega)
    have hHp:(99:Int) ^ s.1.length<=99 ^ (4+0)\/s.1.length=5:=by
     by_cases e:s.1.length=5
     ·exact Or.inr e
     ·left
      have:99 ^ s.1.length<=99 ^ (4+0):=Nat.pow_le_pow_right (by omega) (by omega)
      exact_mod_cast this
    have hH4:z5n (qK m s) s.1.length<=99 ^ (4+0):=by
     rcases hHp with hc | hc
     ·omega
     ·rw[hc]
      have q1:z5n (qK m s) 1=1:=by simp[z5n,qK]
      have b:∀k,1<=k->k<=s.1.length->z5n (qK m s) k<=99 ^ (k-1):=by
       intro k
       induction k with
       | zero=>intro h _;omega
       | succ k ihk =>
        intro _ hk
        by_cases e:k=0
        ·subst e;rw[q1];decide
        ·have c1:=ihk (by omega) (by omega)
         have c2:=zdq hs h k (by omega)
         have c3:=z67 (zdq hs h) k (by omega)
         have:z5n (qK m s) k*qK m s k<=99 ^ (k-1)*99:=Int.mul_le_mul c1 c2.2 (by omega) (Int.pow_nonneg (by omega))
         rw[<-Int.pow_succ,show(k-1).succ=k by omega]at this
         exact this
      exact b 5 (by omega) (by omega)
    have t0:T2 m s d 1 (d.set i (z5n (qK m s) s.1.length)) (z5n (qK m s) s.1.length):=by
     refine⟨hset _, ?_, ?_,λk h1 h2=>by omega, ?_⟩
     ·intro x hx hall
      rw[z28 (by omega),if_neg (λe=>hall 0 (by omega) (by rw[h.hd];exact e.symm))]
     ·intro k hk
      have e:k=0:=by omega
      subst e
      rw[h.hd,z28 (by omega),if_pos rfl]
      refine⟨hH.1,hH4,⟨z5n (qK m s) 1,rfl⟩⟩
     ·show _=((z7q [(d.set i (z5n (qK m s) s.1.length)).getD (s.1.getD 0 0) 0]:Nat):Int)
      rw[h.hd,z28 (by omega),if_pos rfl,z7q,z7q,Nat.gcd_zero_right]
      omega
    obtain⟨d2,g2,ht2,l2⟩:=loop2 (ρ:=ρ) (N:=N) hs h (λa b c d e f g=>Z33 N a b c d e f g (λa b c d e=>Z38 N a b c d e (λa b c d e=>Z8L N k0 M a b c d e))) d N 1 _ _ (by omega) h.pos (by omega) t0
    rw[show(((1:Nat):Int))=1 from rfl]at l2
    rw[l2]
    simp only[Z33,Z34,Z35,Z36]
    obtain⟨d3,ht3,l3⟩:=loop3 (ρ:=ρ) (N:=N) hs h (λa b c d e=>Z38 N a b c d e (λa b c d e=>Z8L N k0 M a b c d e)) d d2 g2 ht2 N 0 d2 (by omega) (by omega) ⟨ht2.len,λ_ _ _=>rfl,λk hk=>by omega⟩
    rw[show(((0:Nat):Int))=0 from rfl]at l3
    rw[l3]
    obtain⟨p1,p2,p3⟩:=zr4 hs hlt h (by omega) hcl hpt (by omega) ht2 ht3
    simp only[Z38]
    rw[z1d (by rw[z0y];omega)]
    exact ih (i+1) d3 hlt (by omega) ht3.len p1 (λx hx=>by
     by_cases e:x=i
     ·subst e;exact p2
     ·exact p3 x (by omega) (hpos x (by omega)))
  ·rw[cf (df (by omega))]
   exact⟨d,⟨hdl,hpt,λx hx=>hpos x (by omega)⟩,rfl⟩
def edge(m:Int×Int×List Int)(d:List Int)(i j:Nat):Prop:=d.getD i 0*ent m i j=-(d.getD j 0*ent m j i)
def edge_w(hs:z0t m=true){d:List Int}(hd:Part m.1.toNat (ent m) (λx=>d.getD x 0)){i j:Nat}(hi:i<m.1.toNat)(hj:j<m.1.toNat) :
  (w64 (d.getD i 0*ent m i j)=w64 (0-w64 (d.getD j 0*ent m j i)))↔edge m d i j:=by
 have key:∀a b:Nat,a<m.1.toNat->-913517247483640899<=d.getD a 0*ent m a b/\d.getD a 0*ent m a b<=913517247483640899:=by
  intro a b ha
  obtain⟨h1,h2,_⟩:=hd a ha
  have h3:=z3n hs a b
  have h1':0<=d.getD a 0:=h1
  have h2':d.getD a 0<=9227446944279201:=h2
  have c1:d.getD a 0*ent m a b<=d.getD a 0*99:=Int.mul_le_mul_of_nonneg_left h3.2 h1'
  have c2:d.getD a 0*(-99)<=d.getD a 0*ent m a b:=Int.mul_le_mul_of_nonneg_left h3.1 h1'
  omega
 have k1:=key i j hi
 have k2:=key j i hj
 rw[z1c (by omega) (by omega),z1c (n:=d.getD j 0*ent m j i) (by omega) (by omega),z1c (by omega) (by omega),Int.zero_sub]
 rfl
def check1(hs:z23 m=true){d:List Int}(hdl:d.length=m.1.toNat)(hd:Part m.1.toNat (ent m) (λx=>d.getD x 0))(k10:List Int->Int->Int->Int->List Int->Option ρ)(kr:List Int->Bool->Option ρ){i:Nat}(hi:i<m.1.toNat):∀(M j:Nat),j<=m.1.toNat->m.1.toNat-j<M ->
  (Z51L N k10 kr M d (i:Int) (j:Int) m.1 m.2.1 m.2.2=kr [] false/\∃j',j'<m.1.toNat/\¬ edge m d i j') \/
  (Z51L N k10 kr M d (i:Int) (j:Int) m.1 m.2.1 m.2.2=k10 d (i:Int) m.1 m.2.1 m.2.2/\∀j',j<=j'->j'<m.1.toNat->edge m d i j'):=by
 have hdim:=z1r (z1m hs)
 obtain⟨n,r,hn,hr,hn1,hn5,hnr,hr8,hl⟩:=z12 hdim
 intro M
 induction M with
 | zero=>intro j _ hM;omega
 | succ M ih =>
  intro j hj hM
  simp only[Z51L,Z52]
  by_cases hlt:j<m.1.toNat
  ·rw[ct (dt (by omega)),ct (z1g (by omega)),ct (z1g (by omega)),ct (at_p hdim hi hlt),ct (at_p hdim hlt hi)]
   have hA:z13.g (m.1,(m.2.1,m.2.2)) (i:Int) (j:Int)=ent m i j:=at_g (by omega) _ _
   have hB:z13.g (m.1,(m.2.1,m.2.2)) (j:Int) (i:Int)=ent m j i:=at_g (by omega) _ _
   simp only[Int.toNat_natCast,hA,hB]
   by_cases he:edge m d i j
   ·rw[cf (nf ((edge_w (z1m hs) hd hi hlt).2 he)),z1d (by rw[z0y];omega)]
    rcases ih (j+1) hlt (by omega)with hc | hc
    ·exact Or.inl hc
    ·refine Or.inr ⟨hc.1,λj' h1 h2=>?_⟩
     by_cases e:j'=j
     ·subst e;exact he
     ·exact hc.2 j' (by omega) h2
   ·rw[ct (nt (λhc=>he ((edge_w (z1m hs) hd hi hlt).1 hc)))]
    exact Or.inl ⟨rfl,j,hlt,he⟩
  ·rw[cf (df (by omega))]
   exact Or.inr ⟨rfl,λj' h1 h2=>by omega⟩
def check2(hN:10<=N)(hs:z23 m=true){d:List Int}(hdl:d.length=m.1.toNat)(hd:Part m.1.toNat (ent m) (λx=>d.getD x 0))(k8:List Int->Option ρ)(kr:List Int->Bool->Option ρ):∀(M i:Nat),i<=m.1.toNat->m.1.toNat-i<M ->
  (Z43L N k8 kr M d (i:Int) m.1 m.2.1 m.2.2=kr [] false/\∃i' j',i'<m.1.toNat/\j'<m.1.toNat/\¬ edge m d i' j') \/
  (Z43L N k8 kr M d (i:Int) m.1 m.2.1 m.2.2=k8 d/\∀i',i<=i'->i'<m.1.toNat->∀j',j'<m.1.toNat->edge m d i' j'):=by
 have hdim:=z1r (z1m hs)
 obtain⟨n,r,hn,hr,hn1,hn5,hnr,hr8,hl⟩:=z12 hdim
 intro M
 induction M with
 | zero=>intro i _ hM;omega
 | succ M ih =>
  intro i hi hM
  simp only[Z43L,Z44,Z45]
  by_cases hlt:i<m.1.toNat
  ·rw[ct (dt (by omega))]
   simp only[Z46,Z47,Z48,Z49,Z50,Z51]
   have hc:=check1 (ρ:=ρ) (N:=N) hs hdl hd (λa b c d e=>Z53 N a b c d e (λa b c d e=>Z43L N k8 kr M a b c d e)) kr hlt N 0 (by omega) (by omega)
   rw[show((0:Nat):Int)=0 from rfl]at hc
   rcases hc with⟨hc,j',h1,h2⟩ | ⟨hc,h1⟩
   ·exact Or.inl ⟨hc,i,j',hlt,h1,h2⟩
   ·rw[hc]
    simp only[Z53]
    rw[z1d (by rw[z0y];omega)]
    rcases ih (i+1) hlt (by omega)with h2 | h2
    ·exact Or.inl h2
    ·refine Or.inr ⟨h2.1,λi' h3 h4=>?_⟩
     by_cases e:i'=i
     ·subst e;exact λj' hj'=>h1 j' (by omega) hj'
     ·exact h2.2 i' (by omega) h4
  ·rw[cf (df (by omega))]
   exact Or.inr ⟨rfl,λi' h1 h2=>by omega⟩
end
def ok:Spec:=λm hb hp=>⟨10,λN hN=>by
 have hs:z23 m=true:=hp
 have hdim:=z1r (z1m hs)
 obtain⟨n,r,hn,hr,hn1,hn5,hnr,hr8,hl⟩:=z12 hdim
 simp only[Z0,Z1,Z2,Z3]
 rw[ct (by rw[zbd (by omega),dt (by omega)];rfl)]
 simp only[Z4,Z5,Z6,Z7,Z8]
 have hz:∀x,(List.replicate m.1.toNat (0:Int)).getD x 0=0:=λx=>by
  rw[List.getD_eq_getElem?_getD,List.getElem?_replicate]
  split<;>rfl
 obtain⟨d,⟨h1,h2,h3⟩,h4⟩:=outer (ρ:=Unit×List Int×Bool×Unit) hN hs (λa b c d=>Z39 N a b c d (λt2 t3=>some ((),(t2,(t3,()))))) N 0 (List.replicate m.1.toNat 0) (by omega) (by omega) (by simp) (λj hj=>by
  show 0<=(List.replicate m.1.toNat (0:Int)).getD j 0/\(List.replicate m.1.toNat (0:Int)).getD j 0<=_/\(0<(List.replicate m.1.toNat (0:Int)).getD j 0->_)
  rw[hz]
  exact⟨by omega,by omega,λhc=>by omega⟩) (λx hx=>by omega)
 rw[show((0:Nat):Int)=0 from rfl]at h4
 rw[h4]
 simp only[Z39,Z40,Z41,Z42,Z43]
 have hc:=check2 (ρ:=Unit×List Int×Bool×Unit) hN hs h1 h2 (λd4=>Z54 N d4 (λt2 t3=>some ((),(t2,(t3,()))))) (λt2 t3=>some ((),(t2,(t3,())))) N 0 (by omega) (by omega)
 rw[show((0:Nat):Int)=0 from rfl]at hc
 rcases hc with⟨hc,i',j',h5,h6,h7⟩ | ⟨hc,h5⟩
 ·rw[hc,g,zr6 hs h2 h3 h5 h6 h7]
  rfl
 ·have h6:=zn4 h1 h2 h3 (λi hi j hj=>h5 i (by omega) hi j hj)
  rw[hc,g,h6]
  simp only[Z54]
  rw[df (λe=>by rw[e]at h1;simp at h1;omega)]
  rfl⟩
def fac_ex{m:Int×Int×List Int}(hs:z23 m=true)(h:∃e,za8 m.1.toNat (ent m) e):z3u m≠[]:=by
 have hdim:=z1r (z1m hs)
 obtain⟨n,r,hn,hr,hn1,hn5,hnr,hr8,hl⟩:=z12 hdim
 have hz:∀x,(List.replicate m.1.toNat (0:Int)).getD x 0=0:=λx=>by
  rw[List.getD_eq_getElem?_getD,List.getElem?_replicate]
  split<;>rfl
 obtain⟨d,⟨h1,h2,h3⟩,h4⟩:=outer (ρ:=Unit) (N:=10) (Nat.le_refl _) hs (λ_ _ _ _=>none) 10 0 (List.replicate m.1.toNat 0) (by omega) (by omega) (by simp) (λj hj=>by
  show 0<=(List.replicate m.1.toNat (0:Int)).getD j 0/\(List.replicate m.1.toNat (0:Int)).getD j 0<=_/\(0<(List.replicate m.1.toNat (0:Int)).getD j 0->_)
  rw[hz]
  exact⟨by omega,by omega,λhc=>by omega⟩) (λx hx=>by omega)
 obtain⟨e,he⟩:=h
 rw[zn4 h1 h2 h3 (λi hi j hj=>zr7 hs h2 h3 he hi hj)]
 intro hc
 rw[hc]at h1
 simp at h1
 omega
end z04
end
end Go.Fw
namespace Go.Fw
def z6k(m:Int×Int×List Int):(z0t m&&!decide (z3u m=[]))=(z23 m&&!decide (z3u m=[])):=by
 by_cases h:z3u m=[]
 ·rw[dt h];simp
 ·cases hs:z0t m
  ·simp[z23,hs]
  ·rw[zju hs h]
def zjd{m:Int×Int×List Int}{k:Nat}(h:(z23 m&&!decide (z3u m=[]))=true)(hk:k<m.1.toNat):(z0t (z6h m k)&&!decide (z3u (z6h m k)=[]))=z23 (z6h m k):=by
 simp only[Bool.and_eq_true,Bool.not_eq_true',decide_eq_false_iff_not]at h
 cases hs:z23 (z6h m k)
 ·rw[z6k,hs];rfl
 ·have hd:=z1r (z1m h.1)
  have:=z04.fac_ex hs ⟨_,zd8 hd hk (zdb h.2).2.1⟩
  rw[z6k,hs,df this];rfl
end Go.Fw
namespace Go.Fw
def zdy{a b:Int×Int×List Int}(ha:z3i a=true)(h1:a.1=b.1)(h2:a.2.1=b.2.1)(hl:a.2.2.length=b.2.2.length)(h:∀i j,i<a.2.1.toNat->j<a.1.toNat->ent a i j=ent b i j):a=b:=by
 obtain⟨n,r,hn,hr,hn1,hn5,hnr,hr8,hla⟩:=z12 ha
 obtain⟨a1,a2,a3⟩:=a
 obtain⟨b1,b2,b3⟩:=b
 simp only at h1 h2 hn hr
 subst h1 h2
 have:a3=b3:=by
  apply List.ext_getElem hl
  intro p p1 p2
  have hla':a3.length=r*n:=hla
  have hp:p<r*n:=by omega
  have hi:p / n<r:=Nat.div_lt_of_lt_mul (by rw[Nat.mul_comm];exact hp)
  have hj:p%n<n:=Nat.mod_lt _ (by omega)
  have:=h (p / n) (p%n) (by show p / n<a2.toNat;omega) (by show p%n<a1.toNat;omega)
  have e:p / n*a1.toNat+p%n=p:=by
   rw[show a1.toNat=n by omega,Nat.mul_comm]
   exact Nat.div_add_mod p n
  unfold ent at this
  rw[e]at this
  simp only[List.getD_eq_getElem?_getD,List.getElem?_eq_getElem p1,List.getElem?_eq_getElem p2,Option.getD_some]at this
  exact this
 rw[this]
def zh6(m:Int×Int×List Int)(k:Int):((z0t m&&!decide (z3u m=[]))&&(inK k 0 (m.1-1)&&(z0t (z6h m k.toNat)&&!decide (z3u (z6h m k.toNat)=[]))))=((z23 m&&!decide (z3u m=[]))&&(inK k 0 (m.1-1)&&z23 (z6h m k.toNat))):=by
 rw[z6k]
 cases h:(z23 m&&!decide (z3u m=[]))
 ·rfl
 ·cases hk:inK k 0 (m.1-1)
  ·rfl
  ·have:=z2b.1 hk
   rw[zjd h (by omega)]
end Go.Fw
namespace Go.Fw
section
variable {ρ : Type}
namespace z09
def P(b:List Int)(r:Int×Int):Bool:=z1z b r
def zjc(h:Int):Int:=w64 (w64 (h*6364136223846793005)+1442695040888963407)
def xOf(h:Int):Int:=z81 .and .i64 (z81 .xor .i64 (Int.fdiv h (2 ^ (min (33:Int).toNat (IntKind.bits .i64)))) (Int.fdiv h (2 ^ (min (45:Int).toNat (IntKind.bits .i64))))) 255
def g(b:List Int)(r:Int×Int):(Int×Int)×Int :=
 if r.1<(b.length:Int)then((r.1+1,zjc r.2),z81 .and .i64 (w64 (xOf (zjc r.2)+w64 (b.getD r.1.toNat 0))) 255)else((r.1,zjc r.2),xOf (zjc r.2))
end z09
namespace z09
def Z0{ρ:Type}(N:Nat)(b0:List Int)(r0:Int×Int)(kr:Int->List Int->I2 (Option ρ)):Option ρ :=
 cond (lk N (decide (0<=(33:Int)))) (
  cond (lk N (decide (0<=(45:Int)))) (
   cond (lk N (decide (r0.1<(b0.length:Int))))
   (
    cond (lk N (inB r0.1 b0.length)) (
     kr (z81 .and .i64 (w64 ((z81 .and .i64 (z81 .xor .i64 (Int.fdiv (w64 ((w64 (r0.2*6364136223846793005))+1442695040888963407)) (2 ^ (min (33:Int).toNat (IntKind.bits .i64)))) (Int.fdiv (w64 ((w64 (r0.2*6364136223846793005))+1442695040888963407)) (2 ^ (min (45:Int).toNat (IntKind.bits .i64))))) 255)+(w64 ((b0.getD r0.1.toNat 0))))) 255) b0 (w64 (r0.1+1)) (w64 ((w64 (r0.2*6364136223846793005))+1442695040888963407))) none)
   (
    kr (z81 .and .i64 (z81 .xor .i64 (Int.fdiv (w64 ((w64 (r0.2*6364136223846793005))+1442695040888963407)) (2 ^ (min (33:Int).toNat (IntKind.bits .i64)))) (Int.fdiv (w64 ((w64 (r0.2*6364136223846793005))+1442695040888963407)) (2 ^ (min (45:Int).toNat (IntKind.bits .i64))))) 255) b0 r0.1 (w64 ((w64 (r0.2*6364136223846793005))+1442695040888963407)))) none) none
def Spec:Prop:=∀{U:Type} (u:U) (b0:List Int) (r0:Int×Int),Ty.bd (.sl 0 (.int .u8)) b0->P b0 r0=true->∃N0,∀N,N0<=N->Z0 N b0 r0 (λv2 w0_0 w0_1 w0_2=>some (u,((w0_1,w0_2),((),(v2,())))))=some (u,((g b0 r0).1,((),((g b0 r0).2,()))))
def keep{b:List Int}{r:Int×Int}(h:z1z b r=true):z1z b (g b r).1=true:=by
 rw[z8k]at h ⊢
 unfold g
 split<;>simp only<;>omega
def range(b:List Int)(r:Int×Int):0<=(g b r).2/\(g b r).2<=255:=by
 unfold g
 split
 ·exact zkr _ 255 255 rfl (by omega)
 ·exact zkr _ 255 255 rfl (by omega)
def ok:Spec:=λu b r hb hp=>⟨0,λN hN=>by
 have h:=z8k.1 hp
 simp only[Z0]
 rw[ct (dt (by omega)),ct (dt (by omega))]
 by_cases hl:r.1<(b.length:Int)
 ·obtain⟨i,hi⟩:=Int.eq_ofNat_of_zero_le h.1
  have e1:g b r=((r.1+1,zjc r.2),z81 .and .i64 (w64 (xOf (zjc r.2)+w64 (b.getD r.1.toNat 0))) 255):=if_pos hl
  have e2:w64 (r.1+1)=r.1+1:=by
   have:=h.2.2
   rw[z0y]at this
   exact z1c (by omega) (by omega)
  rw[ct (dt hl),ct (by rw[hi];exact z1g (by omega)),e1,e2]
  rfl
 ·have e1:g b r=((r.1,zjc r.2),xOf (zjc r.2)):=if_neg hl
  rw[cf (df hl),e1]
  rfl⟩
end z09
end
end Go.Fw
namespace Go.Fw
section
variable {ρ : Type}
namespace z00
def P(b:List Int)(r:Int×Int)(n:Int):Bool:=z1z b r
def four(b:List Int)(r:Int×Int)(n:Int):(Int×Int)×Int :=
 ((z09.g b (z09.g b (z09.g b (z09.g b r).1).1).1).1,
  Int.tmod (w64 (w64 (w64 (w64 ((z09.g b r).2*16777216)+w64 ((z09.g b (z09.g b r).1).2*65536))+w64 ((z09.g b (z09.g b (z09.g b r).1).1).2*256))+(z09.g b (z09.g b (z09.g b (z09.g b r).1).1).1).2)) n)
def g(b:List Int)(r:Int×Int)(n:Int):(Int×Int)×Int :=
 if n<=0 then(r,0)else if n<=256 then((z09.g b r).1,Int.tmod (z09.g b r).2 n)else four b r n
end z00
namespace z00
def Z0{ρ:Type}(N:Nat)(b0:List Int)(r0:Int×Int)(a:Int)(kr:Int->List Int->I2 (Option ρ)):Option ρ :=
 cond (lk N (decide (a<=0)))
 (
  kr 0 b0 r0.1 r0.2)
 (
  cond (lk N (decide (a<=256)))
  (
   cond (lk N (z09.P b0 r0)) (
    cond (lk N (!(decide (a=0)))) (
     kr (Int.tmod (z09.g b0 r0).2 a) b0 (z09.g b0 r0).1.1 (z09.g b0 r0).1.2) none) none)
  (
   cond (lk N (z09.P b0 r0)) (
    cond (lk N (z09.P b0 (z09.g b0 r0).1)) (
     cond (lk N (z09.P b0 (z09.g b0 (z09.g b0 r0).1).1)) (
      cond (lk N (z09.P b0 (z09.g b0 (z09.g b0 (z09.g b0 r0).1).1).1)) (
       cond (lk N (!(decide (a=0)))) (
        kr (Int.tmod (w64 ((w64 ((w64 ((w64 ((z09.g b0 r0).2*16777216))+(w64 ((z09.g b0 (z09.g b0 r0).1).2*65536))))+(w64 ((z09.g b0 (z09.g b0 (z09.g b0 r0).1).1).2*256))))+(z09.g b0 (z09.g b0 (z09.g b0 (z09.g b0 r0).1).1).1).2)) a) b0 (z09.g b0 (z09.g b0 (z09.g b0 (z09.g b0 r0).1).1).1).1.1 (z09.g b0 (z09.g b0 (z09.g b0 (z09.g b0 r0).1).1).1).1.2) none) none) none) none) none))
def Spec:Prop:=∀{U:Type} (u:U) (b0:List Int) (r0:Int×Int) (v1:Int),Ty.bd (.sl 0 (.int .u8)) b0->P b0 r0 v1=true->∃N0,∀N,N0<=N->Z0 N b0 r0 v1 (λv4 w0_0 w0_1 w0_2=>some (u,((w0_1,w0_2),((),(v4,())))))=some (u,((g b0 r0 v1).1,((),((g b0 r0 v1).2,()))))
def keep{b:List Int}{r:Int×Int}{n:Int}(h:z1z b r=true):z1z b (g b r n).1=true:=by
 unfold g
 split
 ·exact h
 ·split
  ·exact z09.keep h
  ·exact z09.keep (z09.keep (z09.keep (z09.keep h)))
def range{b:List Int}{r:Int×Int}{n:Int}(h1:1<=n)(h2:n<=256):0<=(g b r n).2/\(g b r n).2<n:=by
 have h:=z09.range b r
 unfold g
 rw[if_neg (by omega),if_pos h2]
 exact⟨Int.tmod_nonneg _ h.1,Int.tmod_lt_of_pos _ (by omega)⟩
def ok:Spec:=λu b r n hb hp=>⟨0,λN hN=>by
 have k1:=z09.keep hp
 have k2:=z09.keep k1
 have k3:=z09.keep k2
 have p0:z09.P b r=true:=hp
 have p1:z09.P b (z09.g b r).1=true:=k1
 have p2:z09.P b (z09.g b (z09.g b r).1).1=true:=k2
 have p3:z09.P b (z09.g b (z09.g b (z09.g b r).1).1).1=true:=k3
 simp only[Z0]
 by_cases h1:n<=0
 ·rw[ct (dt h1),show g b r n=(r,0)from if_pos h1]
 ·rw[cf (df h1)]
  have hz:(!(decide (n=0)))=true:=by rw[df (by omega)];rfl
  by_cases h2:n<=256
  ·rw[ct (dt h2),show g b r n=((z09.g b r).1,Int.tmod (z09.g b r).2 n)from(if_neg h1).trans (if_pos h2)]
   simp only[z1t,p0,hz,cond_true]
  ·rw[cf (df h2),show g b r n=four b r n from(if_neg h1).trans (if_neg h2)]
   simp only[z1t,p0,p1,p2,p3,hz,cond_true]
   rfl⟩
end z00
end
end Go.Fw
namespace Go.Fw
section
variable {ρ : Type}
namespace z0i
def P(b:List Int)(r:Int×Int)(n:Int):Bool:=z1z b r
def g(b:List Int)(r:Int×Int)(n:Int):(Int×Int)×Bool:=((z00.g b r n).1,decide ((z00.g b r n).2=0))
end z0i
namespace z0i
def Z0{ρ:Type}(N:Nat)(b0:List Int)(r0:Int×Int)(a:Int)(kr:Bool->List Int->I2 (Option ρ)):Option ρ :=
 cond (lk N (z00.P b0 r0 a)) (
  kr (lk N (decide ((z00.g b0 r0 a).2=0))) b0 (z00.g b0 r0 a).1.1 (z00.g b0 r0 a).1.2) none
def Spec:Prop:=∀{U:Type} (u:U) (b0:List Int) (r0:Int×Int) (v1:Int),Ty.bd (.sl 0 (.int .u8)) b0->P b0 r0 v1=true->∃N0,∀N,N0<=N->Z0 N b0 r0 v1 (λv4 w0_0 w0_1 w0_2=>some (u,((w0_1,w0_2),((),(v4,())))))=some (u,((g b0 r0 v1).1,((),((g b0 r0 v1).2,()))))
def keep{b:List Int}{r:Int×Int}{n:Int}(h:z1z b r=true):z1z b (g b r n).1=true:=z00.keep h
def ok:Spec:=λu b r n hb hp=>⟨0,λN hN=>by
 simp only[Z0,z1t,show z00.P b r n=true from hp,cond_true]
 rfl⟩
end z0i
end
end Go.Fw
namespace Go.Fw
section
variable {ρ : Type}
namespace z06
def P(b:List Int)(r:Int×Int)(m:Int×Int×List Int)(i j a c:Int):Bool :=
 z1z b r&&(z3i m&&(inK i 0 (m.1-1)&&(inK j 0 (m.1-1)&&(inK a 0 1000&&inK c 0 1000))))
def joinM(s:Bool)(m:Int×Int×List Int)(i j a c:Int):Int×Int×List Int :=
 (m.1,m.2.1,(m.2.2.set (i*m.1+j).toNat (if s=true then -a else a)).set (j*m.1+i).toNat (if s=true then c else -c))
def g(b:List Int)(r:Int×Int)(m:Int×Int×List Int)(i j a c:Int):(Int×Int)×(Int×Int×List Int) :=
 ((z0i.g b r 2).1,joinM (z0i.g b r 2).2 m i j a c)
end z06
namespace z06
def Z0{ρ:Type}(N:Nat)(b0:List Int)(r0:Int×Int)(a:MT)(b c d e:Int)(kn:LI->I2 (List Int->I2 (Option ρ))):Option ρ :=
 cond (lk N (z0i.P b0 r0 2)) (
  cond (lk N ((z0i.g b0 r0 2).2))
  (
   cond (lk N (inB (w64 ((w64 (b*a.1))+c)) a.2.2.length)) (
    cond (lk N (inB (w64 ((w64 (c*a.1))+b)) (a.2.2.set (w64 ((w64 (b*a.1))+c)).toNat (w64 (0-d))).length)) (
     kn ((a.2.2.set (w64 ((w64 (b*a.1))+c)).toNat (w64 (0-d))).set (w64 ((w64 (c*a.1))+b)).toNat (w64 (0-(w64 (0-e))))) a.1 a.2.1 b0 (z0i.g b0 r0 2).1.1 (z0i.g b0 r0 2).1.2) none) none)
  (
   cond (lk N (inB (w64 ((w64 (b*a.1))+c)) a.2.2.length)) (
    cond (lk N (inB (w64 ((w64 (c*a.1))+b)) (a.2.2.set (w64 ((w64 (b*a.1))+c)).toNat d).length)) (
     kn ((a.2.2.set (w64 ((w64 (b*a.1))+c)).toNat d).set (w64 ((w64 (c*a.1))+b)).toNat (w64 (0-e))) a.1 a.2.1 b0 (z0i.g b0 r0 2).1.1 (z0i.g b0 r0 2).1.2) none) none)) none
def Spec:Prop:=∀{U:Type} (u:U) (b0:List Int) (r0:Int×Int) (v1:MT) (v2 v3 v4 v5:Int),Ty.bd (.sl 0 (.int .u8)) b0->Ty.bd (.pair (.int .i64) (.pair (.int .i64) (.sl 0 (.int .i64)))) v1->P b0 r0 v1 v2 v3 v4 v5=true->∃N0,∀N,N0<=N->Z0 N b0 r0 v1 v2 v3 v4 v5 (λw1_2 w1_0 w1_1 w0_0 w0_1 w0_2=>some (u,((w0_1,w0_2),((w1_0,(w1_1,w1_2)),()))))=some (u,((g b0 r0 v1 v2 v3 v4 v5).1,((g b0 r0 v1 v2 v3 v4 v5).2,())))
def keep{b:List Int}{r:Int×Int}{m:Int×Int×List Int}{i j a c:Int}(h:z1z b r=true):z1z b (g b r m i j a c).1=true:=z0i.keep h
def dim_join{s:Bool}{m:Int×Int×List Int}{i j a c:Int}(h:z3i m=true):z3i (joinM s m i j a c)=true:=by
 simpa[z3i,joinM]using h
def ok:Spec:=λu b r m i j a c hb hbm hp=>⟨0,λN hN=>by
 simp only[P,Bool.and_eq_true,z2b]at hp
 obtain⟨h1,h2,hi,hj,ha,hc⟩:=hp
 obtain⟨n,q,hn,hr,hn1,hn5,hnr,hr8,hl⟩:=z12 h2
 obtain⟨x,rfl⟩:=Int.eq_ofNat_of_zero_le hi.1
 obtain⟨y,rfl⟩:=Int.eq_ofNat_of_zero_le hj.1
 have lx:x<n:=by omega
 have ly:y<n:=by omega
 have b1:=z7t (n:=n) (r:=q) (i:=x) (j:=y) (by omega) ly
 have b2:=z7t (n:=n) (r:=q) (i:=y) (j:=x) (by omega) lx
 have hq:q*n<=8*5:=Nat.mul_le_mul hr8 hn5
 have e1:(x:Int)*m.1+(y:Int)=((x*n+y:Nat):Int):=by rw[hn];simp
 have e2:(y:Int)*m.1+(x:Int)=((y*n+x:Nat):Int):=by rw[hn];simp
 have e1':(x:Int)*m.1=((x*n:Nat):Int):=by rw[hn];simp
 have e2':(y:Int)*m.1=((y*n:Nat):Int):=by rw[hn];simp
 have a1:w64 ((x:Int)*m.1)=(x:Int)*m.1:=by rw[e1'];exact z1c (by omega) (by omega)
 have a2:w64 ((y:Int)*m.1)=(y:Int)*m.1:=by rw[e2'];exact z1c (by omega) (by omega)
 have w1:w64 (w64 ((x:Int)*m.1)+(y:Int))=(x:Int)*m.1+(y:Int):=by rw[a1,e1];exact z1c (by omega) (by omega)
 have w2:w64 (w64 ((y:Int)*m.1)+(x:Int))=(y:Int)*m.1+(x:Int):=by rw[a2,e2];exact z1c (by omega) (by omega)
 have wa:w64 (0-a)=-a:=by rw[z1c (by omega) (by omega)];omega
 have wc:w64 (0-c)=-c:=by rw[z1c (by omega) (by omega)];omega
 have wc2:w64 (0-(-c))=c:=by rw[z1c (by omega) (by omega)];omega
 have i1:inB ((x:Int)*m.1+(y:Int)) m.2.2.length=true:=by rw[e1];exact z1g (by omega)
 have i2:∀z:Int,inB ((y:Int)*m.1+(x:Int)) (m.2.2.set ((x:Int)*m.1+(y:Int)).toNat z).length=true:=λz=>by rw[e2,List.length_set];exact z1g (by omega)
 have hP:z0i.P b r 2=true:=h1
 simp only[Z0,z1t,hP,w1,w2,wa,wc,wc2,i1,i2,cond_true,g,joinM]
 cases(z0i.g b r 2).2<;>rfl⟩
end z06
end
end Go.Fw
namespace Go.Fw
section
variable {ρ : Type}
namespace z02
def P(n:Int):Bool:=inK n 0 5
def g(n:Int):Int×Int×List Int:=(n,n,List.replicate (n*n).toNat 0)
end z02
namespace z02
def Z0{ρ:Type}(N:Nat)(a:Int)(kr:LI->I2 (Option ρ)):Option ρ :=
 cond (lk N (leB 0 (w64 (a*a))&&decide ((w64 (a*a))<1099511627776))) (
  kr (List.replicate (w64 (a*a)).toNat (0:Int)) a a) none
def Spec:Prop:=∀ (v0:Int),P v0=true->∃N0,∀N,N0<=N->Z0 N v0 (λv2_2 v2_0 v2_1=>some ((),((v2_0,(v2_1,v2_2)),())))=some ((),((g v0),()))
def ok:Spec:=λn hp=>⟨0,λN hN=>by
 have h:=z2b.1 hp
 obtain⟨j,rfl⟩:=Int.eq_ofNat_of_zero_le h.1
 have hj:j*j<=5*5:=Nat.mul_le_mul (by omega) (by omega)
 have e:(j:Int)*(j:Int)=((j*j:Nat):Int):=by simp
 have hw:w64 ((j:Int)*(j:Int))=(j:Int)*(j:Int):=by
  rw[e]
  exact z1c (by omega) (by omega)
 simp only[Z0]
 rw[hw,ct (by rw[e,zbd (by omega),dt (by omega)];rfl)]
 rfl⟩
end z02
end
end Go.Fw
namespace Go.Fw
structure z2u(m:Int×Int×List Int)(d:Nat->Int):Prop where
 shaped:z0t m=true
 good:za8 m.1.toNat (ent m) d
def z2u.sizes{m:Int×Int×List Int}{d:Nat->Int}(h:z2u m d):z23 m=true:=by
 rw[z23,h.shaped,Bool.true_and,List.all_eq_true]
 intro i hi
 rw[List.all_eq_true]
 intro j hj
 exact z8f h.good (List.mem_range.1 hi) (List.mem_range.1 hj)
def z2u.fac{m:Int×Int×List Int}{d:Nat->Int}(h:z2u m d):z3u m≠[]:=z04.fac_ex h.sizes ⟨d,h.good⟩
def z2u.ok{m:Int×Int×List Int}{d:Nat->Int}(h:z2u m d):(z23 m&&!decide (z3u m=[]))=true:=by
 rw[h.sizes,df h.fac];rfl
def z2u.dim{m:Int×Int×List Int}{d:Nat->Int}(h:z2u m d):z3i m=true:=z1r h.shaped
def z44{m:Int×Int×List Int}:z0t m=true↔z3i m=true/\∀x∈m.2.2,-99<=x/\x<=99:=by
 simp only[z0t,entK,Bool.and_eq_true,List.all_eq_true,z2b]
def z2u.mut{m:Int×Int×List Int}{d:Nat->Int}(h:z2u m d){k:Nat}(hk:k<m.1.toNat)(hs:z23 (z6h m k)=true):z2u (z6h m k) d:=⟨z1m hs,zd8 h.dim hk h.good⟩
def zts{m:Int×Int×List Int}{n r:Nat}(hn:m.1=(n:Int))(hl:m.2.2.length=r*n){i j:Nat}(hi:i<r)(hj:j<n)(x:Int){u v:Nat}(hv:v<n) :
  (m.2.2.set (i*n+j) x).getD (u*n+v) 0=if u=i/\v=j then x else m.2.2.getD (u*n+v) 0:=by
 have hlt:=z7t (n:=n) (r:=r) hi hj
 rw[z28 (by omega)]
 by_cases e:i*n+j=u*n+v
 ·rw[if_pos e]
  have h1:i=u:=by
   have:=congrArg (· / n) e
   simpa[zhv hj,zhv hv]using this
  subst h1
  rw[if_pos ⟨rfl,by omega⟩]
 ·rw[if_neg e,if_neg]
  rintro ⟨rfl,rfl⟩
  exact e rfl
def zdc{s:Bool}{m:Int×Int×List Int}(hd:z3i m=true){i j:Nat}{x y a c:Int}(hx:x=(i:Int))(hy:y=(j:Int))(hi:i<m.1.toNat)(hj:j<m.1.toNat){u v:Nat}(hv:v<m.1.toNat) :
  ent (z06.joinM s m x y a c) u v=if u=j/\v=i then(if s=true then c else -c)else if u=i/\v=j then(if s=true then -a else a)else ent m u v:=by
 subst hx hy
 obtain⟨n,r,hn,hr,hn1,hn5,hnr,hr8,hl⟩:=z12 hd
 have e0:m.1.toNat=n:=by omega
 rw[e0]at hi hj hv
 unfold ent z06.joinM
 show((m.2.2.set ((i:Int)*m.1+(j:Int)).toNat _).set ((j:Int)*m.1+(i:Int)).toNat _).getD (u*m.1.toNat+v) 0=_
 have e1:((i:Int)*m.1+(j:Int)).toNat=i*n+j:=by rw[hn];norm_cast
 have e2:((j:Int)*m.1+(i:Int)).toNat=j*n+i:=by rw[hn];norm_cast
 rw[e1,e2,e0]
 have h2:=zts (m:=(m.1,m.2.1,m.2.2.set (i*n+j) (if s=true then -a else a))) (n:=n) (r:=r) hn (by simpa using hl) (i:=j) (j:=i) (by omega) hi (if s=true then c else -c) (u:=u) hv
 have h1:=zts (m:=m) (n:=n) (r:=r) hn hl (i:=i) (j:=j) (by omega) hj (if s=true then -a else a) (u:=u) hv
 refine h2.trans ?_
 show(if u=j/\v=i then _ else(m.2.2.set (i*n+j) (if s=true then -a else a)).getD (u*n+v) 0)=_
 rw[h1]
def z3d{s:Bool}{m:Int×Int×List Int}{d:Nat->Int}(h:z2u m d){i j:Nat}{x y a c:Int}(hx:x=(i:Int))(hy:y=(j:Int))(hi:i<m.1.toNat)(hj:j<m.1.toNat)(hne:i≠j)(ha:-99<=a/\a<=99)(hc:-99<=c/\c<=99)(hdd:d i*a=d j*c) :
  z2u (z06.joinM s m x y a c) d:=by
 have hd:=h.dim
 refine⟨z44.2 ⟨z06.dim_join hd,λz hz=>?_⟩,λu hu=>⟨(h.good u hu).1,λv hv=>?_⟩⟩
 ·have h0:=(z44.1 h.shaped).2
  have hz:z∈(m.2.2.set (x*m.1+y).toNat (if s=true then -a else a)).set (y*m.1+x).toNat (if s=true then c else -c):=hz
  rcases List.mem_or_eq_of_mem_set hz with hz | rfl
  ·rcases List.mem_or_eq_of_mem_set hz with hz | rfl
   ·exact h0 z hz
   ·split<;>omega
  ·split<;>omega
 ·have hu:u<m.1.toNat:=hu
  have hv:v<m.1.toNat:=hv
  have hg:=(h.good u hu).2 v hv
  have E1:=zdc (s:=s) (a:=a) (c:=c) hd hx hy hi hj (u:=i) hj
  have E2:=zdc (s:=s) (a:=a) (c:=c) hd hx hy hi hj (u:=j) hi
  rw[if_neg (λe=>hne e.1),if_pos ⟨rfl,rfl⟩]at E1
  rw[if_pos ⟨rfl,rfl⟩]at E2
  by_cases e1:u=j/\v=i
  ·rw[e1.1,e1.2,E1,E2]
   cases s
   ·simp only[Bool.false_eq_true,if_false,Int.mul_neg];omega
   ·simp only[if_true,Int.mul_neg];omega
  by_cases e2:u=i/\v=j
  ·rw[e2.1,e2.2,E1,E2]
   cases s
   ·simp only[Bool.false_eq_true,if_false,Int.mul_neg];omega
   ·simp only[if_true,Int.mul_neg];omega
  rw[zdc hd hx hy hi hj hv,zdc hd hx hy hi hj hu,if_neg e1,if_neg e2,if_neg (λe=>e2 ⟨e.2,e.1⟩),if_neg (λe=>e1 ⟨e.2,e.1⟩)]
  exact hg
def zo1(n:Int)(u v:Nat):ent (z02.g n) u v=0:=by
 unfold ent z02.g
 rw[List.getD_eq_getElem?_getD,List.getElem?_replicate]
 split<;>rfl
def z4d{n:Int}(h1:1<=n)(h5:n<=5){d:Nat->Int}(hd:∀i,0<d i):z2u (z02.g n) d:=by
 refine⟨z44.2 ⟨?_,λx hx=>?_⟩,λu hu=>⟨hd u,λv hv=>?_⟩⟩
 ·have:n=1\/n=2\/n=3\/n=4\/n=5:=by omega
  rcases this with rfl | rfl | rfl | rfl | rfl<;>rfl
 ·have:=(List.mem_replicate.1 hx).2
  omega
 ·rw[zo1,zo1];simp
end Go.Fw
namespace Go.Fw
def z5l{m:Int×Int×List Int}(hd:z3i m=true)(names:List Int){p q:Nat}(hp:p<m.2.1.toNat)(hq:q<m.1.toNat) :
  ent (z94 m names) p q=ent m (zfn m.1.toNat (names.map Int.toNat) p) (zap (names.map Int.toNat) q):=by
 obtain⟨n,r,hn,hr,hn1,hn5,hnr,hr8,hl⟩:=z12 hd
 have e0:m.1.toNat=n:=by omega
 have hlt:=z7t (n:=n) (r:=r) (i:=p) (j:=q) (by omega) (by omega)
 unfold ent z94
 show((List.range m.2.2.length).map λp=>m.2.2.getD (za4 m.1.toNat (names.map Int.toNat) p) 0).getD (p*m.1.toNat+q) 0=_
 rw[List.getD_eq_getElem?_getD,List.getElem?_map,List.getElem?_range (by rw[e0];omega)]
 show m.2.2.getD (za4 m.1.toNat (names.map Int.toNat) (p*m.1.toNat+q)) 0=_
 unfold za4
 rw[zhv hq,zro hq]
def za1{m:Int×Int×List Int}(names:List Int)(h:z3i m=true):z3i (z94 m names)=true:=by
 simpa[z3i,z94]using h
def z2u.ren{m:Int×Int×List Int}{d:Nat->Int}(h:z2u m d){names:List Int}(hn:z6l names m.1=true):z2u (z94 m names) λp=>d (zap (names.map Int.toNat) p):=by
 obtain⟨L,rfl,h1,h2,h3⟩:=z6y hn
 have hd:=h.dim
 obtain⟨n,r,en,hr,hn1,hn5,hnr,hr8,hl⟩:=z12 hd
 refine⟨z44.2 ⟨za1 _ hd,λx hx=>?_⟩,λu hu=>?_⟩
 ·have h0:=(z44.1 h.shaped).2
  obtain⟨p,_,rfl⟩:=List.mem_map.1 hx
  rw[List.getD_eq_getElem?_getD]
  cases hq:m.2.2[za4 m.1.toNat ((z39 L).map Int.toNat) p]? with
  | none=>exact⟨by decide,by decide⟩
  | some y=>exact h0 y (List.mem_of_getElem? hq)
 ·have hu:u<m.1.toNat:=hu
  rw[z43]
  have pu:=(z3c (z3b h1 h2 h3 hu)).1
  refine⟨(h.good _ (by omega)).1,λv hv=>?_⟩
  have hv:v<m.1.toNat:=hv
  have pv:=(z3c (z3b h1 h2 h3 hv)).1
  rw[z5l hd _ (by omega) hv,z5l hd _ (by omega) hu,z43]
  unfold zfn
  rw[if_pos hu,if_pos hv]
  exact(h.good _ (by omega)).2 _ (by omega)
end Go.Fw
namespace Go.Fw
section
variable {ρ : Type}
namespace z0e
def P(b:List Int)(r:Int×Int):Bool:=z1z b r
def markov:Int×Int×List Int:=(3,3,[0,2,-2,-2,0,2,2,-2,0])
def step4(b:List Int)(i:Nat)(s:(Int×Int)×List Int)(j:Nat):(Int×Int)×List Int :=
 ((z00.g b s.1 5).1,(s.2.set (i*4+j) ((z00.g b s.1 5).2-2)).set (j*4+i) (2-(z00.g b s.1 5).2))
def row4(b:List Int)(s:(Int×Int)×List Int)(i:Nat):(Int×Int)×List Int:=(List.range i).foldl (step4 b i) s
def zon(b:List Int)(r:Int×Int):(Int×Int)×List Int:=(List.range 4).foldl (row4 b) (r,List.replicate 16 0)
def two(b:List Int)(r:Int×Int):(Int×Int)×(Int×Int×List Int) :=
 z06.g b (z00.g b (z00.g b r 4).1 4).1 (z02.g 2) 0 1 (1+(z00.g b r 4).2) (1+(z00.g b (z00.g b r 4).1 4).2)
def j1(b:List Int)(r:Int×Int):(Int×Int)×(Int×Int×List Int):=z06.g b r (z02.g 3) 0 1 1 1
def j2(b:List Int)(r:Int×Int):(Int×Int)×(Int×Int×List Int):=z06.g b (j1 b r).1 (j1 b r).2 1 2 1 1
def j3(b:List Int)(r:Int×Int):(Int×Int)×(Int×Int×List Int):=z06.g b (z00.g b (j2 b r).1 2).1 (j2 b r).2 0 2 (1+(z00.g b (j2 b r).1 2).2) 1
def three(b:List Int)(r:Int×Int):(Int×Int)×(Int×Int×List Int):=((j3 b r).1,((j3 b r).2.1,(j3 b r).2.2.1,(j3 b r).2.2.2.set 6 (w64 (0-(j3 b r).2.2.2.getD 2 0))))
def g(b:List Int)(r:Int×Int):(Int×Int)×(Int×Int×List Int) :=
 if(z00.g b r 4).2=0 then((z00.g b r 4).1,markov)else
 if(z00.g b r 4).2=1 then two b (z00.g b r 4).1 else
 if(z00.g b r 4).2=2 then three b (z00.g b r 4).1 else
 ((zon b (z00.g b r 4).1).1,(4,4,(zon b (z00.g b r 4).1).2))
end z0e
namespace z0e
def Z1{ρ:Type}(N:Nat)(b0:List Int)(r0:Int×Int)(kn:List Int->I4 (Option ρ)):Option ρ :=
 kn b0 r0.1 r0.2 0 0
def Z3{ρ:Type}(N:Nat)(a:List Int)(b c d e:Int)(kn:List Int->I4 (Option ρ))(kr:LI->I2 (List Int->I2 (Option ρ))):Option ρ :=
 let x2_:=(z00.g a (b,c) 4)
 let x5_:=(z00.g a x2_.1 4)
 let x6_:=(z06.g a x2_.1 (z02.g 3) 0 1 1 1)
 let x9_:=(z00.g a x5_.1 4)
 let x0_:=(z06.g a x6_.1 ((z02.g 3).1,((z02.g 3).2.1,x6_.2.2.2)) 1 2 1 1)
 let x4_:=(z06.g a x9_.1 (z02.g 2) 0 1 (w64 (1+x5_.2)) (w64 (1+x9_.2)))
 let x8_:=(z00.g a x0_.1 2)
 let x1_:=(
   cond (lk N (z06.P a x9_.1 (z02.g 2) 0 1 (w64 (1+x5_.2)) (w64 (1+x9_.2)))) (
   kr x4_.2.2.2 (z02.g 2).1 (z02.g 2).2.1 a x4_.1.1 x4_.1.2) none)
 let x3_:=(z06.g a x8_.1 ((z02.g 3).1,((z02.g 3).2.1,x0_.2.2.2)) 0 2 (w64 (1+x8_.2)) 1)
 let x7_:=(
   bo (
   cond (lk N (z00.P a x5_.1 4)) x1_ none))
 cond (lk N (z00.P a (b,c) 4)) (
 cond (lk N (decide (x2_.2=0)))
 (
 kr ([0,2,(-2),(-2),0,2,2,(-2),0]:List Int) 3 3 a x2_.1.1 x2_.1.2)
 (
 cond (lk N (decide (x2_.2=1)))
 (
 cond (lk N (z02.P 2)) (
 z6d (
 cond (lk N (z00.P a x2_.1 4)) x7_ none)
 (
 cond (lk N (z00.P a x2_.1 4)) (
 z6d x7_
 (
 z6d x7_
 (
 cond (lk N (z00.P a x5_.1 4)) (
 bo x1_) none))) none)) none)
 (
 cond (lk N (decide (x2_.2=2)))
 (
 cond (lk N (z02.P 3)) (
 cond (lk N (z06.P a x2_.1 (z02.g 3) 0 1 1 1)) (
 cond (lk N (z06.P a x6_.1 ((z02.g 3).1,((z02.g 3).2.1,x6_.2.2.2)) 1 2 1 1)) (
 bo (
 cond (lk N (z00.P a x0_.1 2)) (
 cond (lk N (z06.P a x8_.1 ((z02.g 3).1,((z02.g 3).2.1,x0_.2.2.2)) 0 2 (w64 (1+x8_.2)) 1)) (
 cond (lk N (inB 2 x3_.2.2.2.length)) (
 cond (lk N (inB 6 x3_.2.2.2.length)) (
 kr (x3_.2.2.2.set 6 (w64 (0-(x3_.2.2.2.getD 2 0)))) (z02.g 3).1 (z02.g 3).2.1 a x3_.1.1 x3_.1.2) none) none) none) none)) none) none) none)
 (
 kn a x2_.1.1 x2_.1.2 d e)))) none
def Z5{ρ:Type}(N:Nat)(a:List Int)(b c d e:Int)(kn:LI->List Int->I6 (Option ρ)):Option ρ :=
 cond (lk N (z02.P 4)) (
  kn (z02.g 4).2.2 a b c d e (z02.g 4).1 (z02.g 4).2.1) none
def Z8{ρ:Type}(N:Nat)(a:LI)(b:List Int)(c d e f g h:Int)(kn:LI->Int->List Int->I6 (Option ρ)):Option ρ :=
 kn a 0 b c d e f g h
def Z12{ρ:Type}(N:Nat)(a:LI)(b:Int)(c:List Int)(d e f g h i:Int)(kn:LI->Int->List Int->I6 (Option ρ))(k1:LI->I4 (List Int->I2 (Option ρ))):Option ρ :=
 cond (lk N (decide (b<4)))
 (
  kn a b c d e f g h i)
 (
  k1 a f g h i c d e)
def Z16{ρ:Type}(N:Nat)(a:LI)(b:Int)(c:List Int)(d e f g h i:Int)(kn:LI->I2 (List Int->I6 (Option ρ))):Option ρ :=
 kn a b 0 c d e f g h i
def Z19{ρ:Type}(N:Nat)(f:LI)(a c:Int)(b:List Int)(d e h i j l:Int)(kn:LI->I2 (List Int->I6 (Option ρ)))(k3:LI->Int->List Int->I6 (Option ρ)):Option ρ :=
 cond (lk N (decide (c<a)))
 (
  cond (lk N (z00.P b (d,e) 5)) (
   cond (lk N (inB (w64 ((w64 (a*4))+c)) f.length)) (
    cond (lk N (inB (w64 ((w64 (c*4))+a)) (f.set (w64 ((w64 (a*4))+c)).toNat (w64 ((z00.g b (d,e) 5).2-2))).length)) (
     kn ((f.set (w64 ((w64 (a*4))+c)).toNat (w64 ((z00.g b (d,e) 5).2-2))).set (w64 ((w64 (c*4))+a)).toNat (w64 (0-(w64 ((z00.g b (d,e) 5).2-2))))) a (w64 (c+1)) b (z00.g b (d,e) 5).1.1 (z00.g b (d,e) 5).1.2 h i j l) none) none) none)
 (
  k3 f a b d e h i j l)
def Z18L{ρ:Type}(N:Nat)(k3:LI->Int->List Int->I6 (Option ρ)):Nat->LI->Int->Int->List Int->Int->Int->Int->Int->Int->Int->Option ρ
 | 0,_,_,_,_,_,_,_,_,_,_=>none
 | M+1,a,b,c,d,e,f,g,h,i,j=>Z19 N a b c d e f g h i j (λa b c d e f g h i j=>Z18L N k3 M a b c d e f g h i j) k3
def Z18 N a b c d e f g h i j k3:=(Z18L N k3 N a b c d e f g h i j:Option ρ)
def Z17 N a b c d e f g h i j kn:=(Z18 N a b c d e f g h i j kn:Option ρ)
def Z15 N a b c d e f g h i kn:=(Z16 N a b c d e f g h i (λa b j c d e f g h i=>Z17 N a b j c d e f g h i kn):Option ρ)
def Z14 N a b c d e f g h i kn:=(Z15 N a b c d e f g h i kn:Option ρ)
def Z20{ρ:Type}(N:Nat)(a:LI)(b:Int)(c:List Int)(d e f g h i:Int)(kn:LI->Int->List Int->I6 (Option ρ)):Option ρ :=
 kn a (w64 (b+1)) c d e f g h i
def Z13 N a b c d e f g h i kn:=(Z14 N a b c d e f g h i (λa b c d e f g h i=>Z20 N a b c d e f g h i kn):Option ρ)
def Z11 N a b c d e f g h i kn k1:=(Z12 N a b c d e f g h i (λa b c d e f g h i=>Z13 N a b c d e f g h i kn) k1:Option ρ)
def Z10L{ρ:Type}(N:Nat)(k1:LI->I4 (List Int->I2 (Option ρ))):Nat->LI->Int->List Int->Int->Int->Int->Int->Int->Int->Option ρ
 | 0,_,_,_,_,_,_,_,_,_=>none
 | M+1,a,b,c,d,e,f,g,h,i=>Z11 N a b c d e f g h i (λa b c d e f g h i=>Z10L N k1 M a b c d e f g h i) k1
def Z10 N a b c d e f g h i k1:=(Z10L N k1 N a b c d e f g h i:Option ρ)
def Z9 N a b c d e f g h i kn:=(Z10 N a b c d e f g h i kn:Option ρ)
def Z7 N a b c d e f g h kn:=(Z8 N a b c d e f g h (λa i b c d e f g h=>Z9 N a i b c d e f g h kn):Option ρ)
def Z21{ρ:Type}(N:Nat)(a:LI)(g h b c:Int)(d:List Int)(e f:Int)(kr:LI->I2 (List Int->I2 (Option ρ))):Option ρ :=
 kr a b c d e f
def Z6 N a b c d e f g h kr:=(Z7 N a b c d e f g h (λa e f g h b c d=>Z21 N a e f g h b c d kr):Option ρ)
def Z4 N a b c d e kr:=(Z5 N a b c d e (λf a b c d e g h=>Z6 N f a b c d e g h kr):Option ρ)
def Z2 N a b c d e kr:=(Z3 N a b c d e (λa b c d e=>Z4 N a b c d e kr) kr:Option ρ)
def Z0 N b0 r0 kr:=(Z1 N b0 r0 (λa b c d e=>Z2 N a b c d e kr):Option ρ)
def Spec:Prop:=∀{U:Type} (u:U) (b0:List Int) (r0:Int×Int),Ty.bd (.sl 0 (.int .u8)) b0->P b0 r0=true->∃N0,∀N,N0<=N->Z0 N b0 r0 (λv2_2 v2_0 v2_1 w0_0 w0_1 w0_2=>some (u,((w0_1,w0_2),((),((v2_0,(v2_1,v2_2)),())))))=some (u,((g b0 r0).1,((),((g b0 r0).2,()))))
def zqh{b:List Int}{i j:Nat}{s:(Int×Int)×List Int}(h:z1z b s.1=true/\s.2.length=16):z1z b (step4 b i s j).1=true/\(step4 b i s j).2.length=16 :=
 ⟨z00.keep h.1,by simpa[step4]using h.2⟩
def zgi{b:List Int}{i:Nat}:∀(l:List Nat) {s:(Int×Int)×List Int},(z1z b s.1=true/\s.2.length=16)->z1z b (l.foldl (step4 b i) s).1=true/\(l.foldl (step4 b i) s).2.length=16
 | [],_,h=>h
 | _::l,_,h=>zgi l (zqh h)
def rows_ok{b:List Int}:∀(l:List Nat) {s:(Int×Int)×List Int},(z1z b s.1=true/\s.2.length=16)->z1z b (l.foldl (row4 b) s).1=true/\(l.foldl (row4 b) s).2.length=16
 | [],_,h=>h
 | i::l,_,h=>rows_ok l (zgi (i:=i) (List.range i) h)
def inner{ρ:Type}{N:Nat}{b:List Int}(k3:List Int->Int->List Int->Int->Int->Int->Int->Int->Int->Option ρ)(t0 t1 m0 m1:Int){i:Nat}(hi:i<4):∀(M j:Nat) (s:(Int×Int)×List Int),j<=i->(z1z b s.1=true/\s.2.length=16)->i-j<M ->
  Z18L N k3 M s.2 (i:Int) (j:Int) b s.1.1 s.1.2 t0 t1 m0 m1=k3 (((List.range i).drop j).foldl (step4 b i) s).2 (i:Int) b (((List.range i).drop j).foldl (step4 b i) s).1.1 (((List.range i).drop j).foldl (step4 b i) s).1.2 t0 t1 m0 m1:=by
 intro M
 induction M with
 | zero=>intro j s _ _ h;omega
 | succ M ih =>
  intro j s hj hs hM
  simp only[Z18L,Z19]
  by_cases h:j<i
  ·have e1:w64 (w64 ((i:Int)*4)+(j:Int))=((i*4+j:Nat):Int):=by
    rw[z1c (n:=(i:Int)*4) (by omega) (by omega),z1c (by omega) (by omega)]
    simp
   have e2:w64 (w64 ((j:Int)*4)+(i:Int))=((j*4+i:Nat):Int):=by
    rw[z1c (n:=(j:Int)*4) (by omega) (by omega),z1c (by omega) (by omega)]
    simp
   have hr:=z00.range (b:=b) (r:=s.1) (n:=5) (by omega) (by omega)
   have hP:z00.P b s.1 5=true:=hs.1
   have es:((s.1.1,s.1.2):Int×Int)=s.1:=rfl
   have e3:w64 ((z00.g b s.1 5).2-2)=(z00.g b s.1 5).2-2:=z1c (by omega) (by omega)
   have e4:w64 (0-((z00.g b s.1 5).2-2))=2-(z00.g b s.1 5).2:=by
    rw[z1c (by omega) (by omega)]
    omega
   rw[ct (dt (by omega)),es,ct hP,e1,e2,e3,e4,ct (z1g (by rw[hs.2];omega)),ct (z1g (by rw[List.length_set,hs.2];omega)),Int.toNat_natCast,Int.toNat_natCast,z1d (by rw[z0y];omega),z4e h,List.foldl_cons]
   exact ih (j+1) (step4 b i s j) h (zqh hs) (by omega)
  ·rw[cf (df (by omega)),List.drop_of_length_le (by rw[List.length_range];omega)]
   rfl
def outer{ρ:Type}{N:Nat}(hN:10<=N){b:List Int}(k1:List Int->Int->Int->Int->Int->List Int->Int->Int->Option ρ)(t0 t1 m0 m1:Int):∀(M i:Nat) (s:(Int×Int)×List Int),i<=4->(z1z b s.1=true/\s.2.length=16)->4-i<M ->
  Z10L N k1 M s.2 (i:Int) b s.1.1 s.1.2 t0 t1 m0 m1=k1 (((List.range 4).drop i).foldl (row4 b) s).2 t0 t1 m0 m1 b (((List.range 4).drop i).foldl (row4 b) s).1.1 (((List.range 4).drop i).foldl (row4 b) s).1.2:=by
 intro M
 induction M with
 | zero=>intro i s _ _ h;omega
 | succ M ih =>
  intro i s hi hs hM
  simp only[Z10L,Z11,Z12]
  by_cases h:i<4
  ·rw[ct (dt (by omega))]
   simp only[Z13,Z14,Z15,Z16,Z17,Z18]
   refine(inner _ t0 t1 m0 m1 h N 0 s (Nat.zero_le _) hs (by omega)).trans ?_
   simp only[Z20]
   rw[List.drop_zero,z1d (by rw[z0y];omega),z4e h,List.foldl_cons]
   exact ih (i+1) (row4 b s i) h (zgi _ hs) (by omega)
  ·rw[cf (df (by omega)),List.drop_of_length_le (by rw[List.length_range];omega)]
   rfl
def dim_zero{n:Int}(h1:1<=n)(h5:n<=5):z3i (z02.g n)=true:=by
 have:n=1\/n=2\/n=3\/n=4\/n=5:=by omega
 rcases this with rfl | rfl | rfl | rfl | rfl<;>rfl
def joinP{b:List Int}{r:Int×Int}{m:Int×Int×List Int}{i j a c:Int}(h1:z1z b r=true)(h2:z3i m=true)(hi:0<=i/\i<m.1)(hj:0<=j/\j<m.1)(ha:0<=a/\a<=1000)(hc:0<=c/\c<=1000):z06.P b r m i j a c=true:=by
 simp only[z06.P,Bool.and_eq_true,z2b]
 exact⟨h1,h2,by omega,by omega,by omega,by omega⟩
def keep{b:List Int}{r:Int×Int}(h:z1z b r=true):z1z b (g b r).1=true:=by
 have h0:=z00.keep (n:=4) h
 unfold g
 split
 ·exact h0
 split
 ·exact z06.keep (z00.keep (z00.keep h0))
 split
 ·have k1:z1z b (j1 b (z00.g b r 4).1).1=true:=z06.keep h0
  have k2:z1z b (j2 b (z00.g b r 4).1).1=true:=z06.keep k1
  have k3:z1z b (j3 b (z00.g b r 4).1).1=true:=z06.keep (z00.keep k2)
  exact k3
 ·exact(rows_ok (List.range 4) ⟨h0,by simp⟩).1
def dim{b:List Int}{r:Int×Int}(h:z1z b r=true):z3i (g b r).2=true/\(g b r).2.1=(g b r).2.2.1:=by
 have h0:=z00.keep (n:=4) h
 unfold g
 split
 ·exact⟨rfl,rfl⟩
 split
 ·exact⟨z06.dim_join (dim_zero (by omega) (by omega)),rfl⟩
 split
 ·have:z3i (j3 b (z00.g b r 4).1).2=true:=z06.dim_join (z06.dim_join (z06.dim_join (dim_zero (by omega) (by omega))))
  exact⟨by simpa[z3i,three]using this,rfl⟩
 ·have:=(rows_ok (List.range 4) (s:=((z00.g b r 4).1,List.replicate 16 0)) ⟨h0,by simp⟩).2
  refine⟨?_,rfl⟩
  simp only[z3i,Bool.and_eq_true,decide_eq_true_eq,z2b]
  refine⟨by omega,by omega, ?_⟩
  show((zon b (z00.g b r 4).1).2.length:Int)=4*4
  unfold zon
  omega
def ok:Spec:=λu b r hb hp=>⟨20,λN hN=>by
 have h0:=z00.keep (n:=4) hp
 have hP:z00.P b r 4=true:=hp
 have er:((r.1,r.2):Int×Int)=r:=rfl
 simp only[Z0,Z1,Z2,Z3,er]
 rw[ct hP]
 by_cases c0:(z00.g b r 4).2=0
 ·rw[ct (dt c0),show g b r=((z00.g b r 4).1,markov)from if_pos c0]
  rfl
 rw[cf (df c0)]
 by_cases c1:(z00.g b r 4).2=1
 ·rw[ct (dt c1),show g b r=two b (z00.g b r 4).1 from(if_neg c0).trans (if_pos c1)]
  have h1:=z00.keep (n:=4) h0
  have h2:=z00.keep (n:=4) h1
  have r1:=z00.range (b:=b) (r:=(z00.g b r 4).1) (n:=4) (by omega) (by omega)
  have r2:=z00.range (b:=b) (r:=(z00.g b (z00.g b r 4).1 4).1) (n:=4) (by omega) (by omega)
  have p1:z00.P b (z00.g b r 4).1 4=true:=h0
  have p2:z00.P b (z00.g b (z00.g b r 4).1 4).1 4=true:=h1
  have w1:w64 (1+(z00.g b (z00.g b r 4).1 4).2)=1+(z00.g b (z00.g b r 4).1 4).2:=z1c (by omega) (by omega)
  have w2:w64 (1+(z00.g b (z00.g b (z00.g b r 4).1 4).1 4).2)=1+(z00.g b (z00.g b (z00.g b r 4).1 4).1 4).2:=z1c (by omega) (by omega)
  have pz:z02.P 2=true:=rfl
  have pj:=joinP (m:=z02.g 2) (i:=0) (j:=1) (a:=1+(z00.g b (z00.g b r 4).1 4).2) (c:=1+(z00.g b (z00.g b (z00.g b r 4).1 4).1 4).2) h2 (dim_zero (by omega) (by omega)) (show(0:Int)<=0/\(0:Int)<2 by omega) (show(0:Int)<=1/\(1:Int)<2 by omega) (by omega) (by omega)
  simp only[z1t,p1,p2,w1,w2,pz,pj,cond_true,z30]
  rfl
 rw[cf (df c1)]
 by_cases c2:(z00.g b r 4).2=2
 ·rw[ct (dt c2),show g b r=three b (z00.g b r 4).1 from(if_neg c0).trans ((if_neg c1).trans (if_pos c2))]
  generalize(z00.g b r 4).1=r1 at h0
  have pz:z02.P 3=true:=rfl
  have d0:z3i (z02.g 3)=true:=dim_zero (by omega) (by omega)
  have k1:z1z b (j1 b r1).1=true:=z06.keep h0
  have k2:z1z b (j2 b r1).1=true:=z06.keep k1
  have k3:=z00.keep (n:=2) k2
  have d1:z3i (j1 b r1).2=true:=z06.dim_join d0
  have d2:z3i (j2 b r1).2=true:=z06.dim_join d1
  have q1:z06.P b r1 (z02.g 3) 0 1 1 1=true:=joinP h0 d0 (show(0:Int)<=0/\(0:Int)<3 by omega) (show(0:Int)<=1/\(1:Int)<3 by omega) (by omega) (by omega)
  have q2:z06.P b (j1 b r1).1 (j1 b r1).2 1 2 1 1=true:=joinP k1 d1 (show(0:Int)<=1/\(1:Int)<3 by omega) (show(0:Int)<=2/\(2:Int)<3 by omega) (by omega) (by omega)
  have rr:=z00.range (b:=b) (r:=(j2 b r1).1) (n:=2) (by omega) (by omega)
  have w1:w64 (1+(z00.g b (j2 b r1).1 2).2)=1+(z00.g b (j2 b r1).1 2).2:=z1c (by omega) (by omega)
  have q3:z06.P b (z00.g b (j2 b r1).1 2).1 (j2 b r1).2 0 2 (1+(z00.g b (j2 b r1).1 2).2) 1=true:=joinP k3 d2 (show(0:Int)<=0/\(0:Int)<3 by omega) (show(0:Int)<=2/\(2:Int)<3 by omega) (by omega) (by omega)
  have p2:z00.P b (j2 b r1).1 2=true:=k2
  have len:(j3 b r1).2.2.2.length=9:=by simp[j3,j2,j1,z06.g,z06.joinM,z02.g]
  have i2:inB 2 (j3 b r1).2.2.2.length=true:=by rw[len];rfl
  have i6:inB 6 (j3 b r1).2.2.2.length=true:=by rw[len];rfl
  have f1:z06.g b r1 (z02.g 3) 0 1 1 1=j1 b r1:=rfl
  have f2:z06.g b (j1 b r1).1 (j1 b r1).2 1 2 1 1=j2 b r1:=rfl
  have f3:z06.g b (z00.g b (j2 b r1).1 2).1 (j2 b r1).2 0 2 (1+(z00.g b (j2 b r1).1 2).2) 1=j3 b r1:=rfl
  have s1:(((z02.g 3).1,((z02.g 3).2.1,(j1 b r1).2.2.2)):Int×Int×List Int)=(j1 b r1).2:=rfl
  have s1':(((z02.g 3).1,((z02.g 3).2.1,(j2 b r1).2.2.2)):Int×Int×List Int)=(j2 b r1).2:=rfl
  simp only[z1t,pz,q1,f1,s1,q2,f2,p2,s1',w1,q3,f3,i2,i6,cond_true,z30]
  rfl
 rw[cf (df c2),show g b r=((zon b (z00.g b r 4).1).1,(4,4,(zon b (z00.g b r 4).1).2))from(if_neg c0).trans ((if_neg c1).trans (if_neg c2))]
 simp only[Z4,Z5]
 rw[ct (show z02.P 4=true from rfl)]
 simp only[Z6,Z7,Z8,Z9,Z10]
 have ez:(z02.g 4).2.2=List.replicate 16 0:=rfl
 rw[ez]
 refine(outer (by omega) (λm5_2 t2_0 t2_1 m5_0 m5_1 io100000_0 io100000_1 io100000_2=>Z21 N m5_2 t2_0 t2_1 m5_0 m5_1 io100000_0 io100000_1 io100000_2 _) 0 0 4 4 N 0 ((z00.g b r 4).1,List.replicate 16 0) (Nat.zero_le _) ⟨h0,by simp⟩ (by omega)).trans ?_
 rw[List.drop_zero]
 simp only[Z21]
 rfl⟩
end z0e
end
end Go.Fw
namespace Go.Fw
section
variable {ρ : Type}
namespace z0a
def g(n:Int):ByteArray:=z3m n
def P(n:Int):Bool:=zf0 n
end z0a
namespace z0a
def Z1{ρ:Type}(N:Nat)(a:Int)(kn:Int->Option ρ):Option ρ :=
 kn a
def Z3{ρ:Type}(N:Nat)(a:Int)(kn:List Int->Int->Option ρ):Option ρ :=
 kn ([]:List Int) a
def Z5{ρ:Type}(N:Nat)(b:List Int)(a:Int)(kn:List Int->I2 (Option ρ)):Option ρ :=
 kn b a a
def Z9{ρ:Type}(N:Nat)(b:List Int)(c a:Int)(kn:List Int->I2 (Option ρ))(k0:List Int->Int->Option ρ):Option ρ :=
 cond (lk N (!(decide (a=0))))
 (
  cond (lk N (true)) (
   cond (lk N (decide ((Int.tmod a 10)<0)))
   (
    cond (lk N (Nat.blt (b.length+([(w8 ((w64 (48+(w64 (0-(Int.tmod a 10)))))))]:List Int).length) 1099511627776)) (
     cond (lk N (true)) (
      kn (b++([(w8 ((w64 (48+(w64 (0-(Int.tmod a 10)))))))]:List Int)) c (w64 (Int.tdiv a 10))) none) none)
   (
    cond (lk N (Nat.blt (b.length+([(w8 ((w64 (48+(Int.tmod a 10)))))]:List Int).length) 1099511627776)) (
     cond (lk N (true)) (
      kn (b++([(w8 ((w64 (48+(Int.tmod a 10)))))]:List Int)) c (w64 (Int.tdiv a 10))) none) none)) none)
 (
  cond (lk N (decide ((b.length:Int)=0)))
  (
   cond (lk N (true)) (
    cond (lk N (decide ((Int.tmod a 10)<0)))
    (
     cond (lk N (Nat.blt (b.length+([(w8 ((w64 (48+(w64 (0-(Int.tmod a 10)))))))]:List Int).length) 1099511627776)) (
      cond (lk N (true)) (
       kn (b++([(w8 ((w64 (48+(w64 (0-(Int.tmod a 10)))))))]:List Int)) c (w64 (Int.tdiv a 10))) none) none)
    (
     cond (lk N (Nat.blt (b.length+([(w8 ((w64 (48+(Int.tmod a 10)))))]:List Int).length) 1099511627776)) (
      cond (lk N (true)) (
       kn (b++([(w8 ((w64 (48+(Int.tmod a 10)))))]:List Int)) c (w64 (Int.tdiv a 10))) none) none)) none)
  (
   k0 b c))
def Z8L{ρ:Type}(N:Nat)(k0:List Int->Int->Option ρ):Nat->List Int->Int->Int->Option ρ
 | 0,_,_,_=>none
 | M+1,a,b,c=>Z9 N a b c (λa b c=>Z8L N k0 M a b c) k0
def Z8 N a b c k0:=(Z8L N k0 N a b c:Option ρ)
def Z7 N a b c kn:=(Z8 N a b c kn:Option ρ)
def Z11{ρ:Type}(N:Nat)(a:List Int)(b:Int)(kn:List Int->List Int->Int->Option ρ):Option ρ :=
 kn a ([]:List Int) b
def Z13{ρ:Type}(N:Nat)(b a:List Int)(c:Int)(kn:List Int->List Int->Option ρ):Option ρ :=
 cond (lk N (decide (c<0)))
 (
  cond (lk N (Nat.blt (a.length+([45]:List Int).length) 1099511627776)) (
   kn b (a++([45]:List Int))) none)
 (
  kn b a)
def Z16{ρ:Type}(N:Nat)(a b:List Int)(kn:List Int->List Int->Int->Option ρ):Option ρ :=
 kn a b (w64 ((a.length:Int)-1))
def Z19{ρ:Type}(N:Nat)(b c:List Int)(a:Int)(kn:List Int->List Int->Int->Option ρ)(k2:List Int->Option ρ):Option ρ :=
 cond (lk N (decide (0<=a)))
 (
  cond (lk N (inB a b.length)) (
   cond (lk N (Nat.blt (c.length+([(b.getD a.toNat 0)]:List Int).length) 1099511627776)) (
    kn b (c++([(b.getD a.toNat 0)]:List Int)) (w64 (a-1))) none) none)
 (
  k2 c)
def Z18L{ρ:Type}(N:Nat)(k2:List Int->Option ρ):Nat->List Int->List Int->Int->Option ρ
 | 0,_,_,_=>none
 | M+1,a,b,c=>Z19 N a b c (λa b c=>Z18L N k2 M a b c) k2
def Z18 N a b c k2:=(Z18L N k2 N a b c:Option ρ)
def Z17 N a b c kn:=(Z18 N a b c kn:Option ρ)
def Z15 N a b kn:=(Z16 N a b (λa b c=>Z17 N a b c kn):Option ρ)
def Z20{ρ:Type}(N:Nat)(a:List Int)(kr:ByteArray->Option ρ):Option ρ :=
 kr (strOfNums a)
def Z14 N b a kr:=(Z15 N b a (λa=>Z20 N a kr):Option ρ)
def Z12 N a b c kr:=(Z13 N a b c (λa b=>Z14 N a b kr):Option ρ)
def Z10 N a b kr:=(Z11 N a b (λa c b=>Z12 N a c b kr):Option ρ)
def Z6 N a b c kr:=(Z7 N a b c (λa b=>Z10 N a b kr):Option ρ)
def Z4 N a b kr:=(Z5 N a b (λa b c=>Z6 N a b c kr):Option ρ)
def Z2 N a kr:=(Z3 N a (λb a=>Z4 N b a kr):Option ρ)
def Z0 N a kr:=(Z1 N a (λa=>Z2 N a kr):Option ρ)
def Spec:Prop:=∀ (v0:Int),P v0=true->∃N0,∀N,N0<=N->Z0 N v0 (λv2=>some ((),(v2,())))=some ((),((g v0),()))
def done{ρ:Type}{N M:Nat}(k0:List Int->Int->Option ρ){ds:List Int}(hd:ds≠[])(n:Int):Z8L N k0 (M+1) ds n 0=k0 ds n:=by
 have hl:ds.length≠0:=λh=>hd (List.length_eq_zero_iff.1 h)
 simp only[Z8L,Z9]
 rw[cf (show(!decide True)=false from rfl),cf (df (by omega))]
def loop{ρ:Type}{N:Nat}(k0:List Int->Int->Option ρ)(n:Int):∀(c M:Nat) (ds:List Int) (k:Int),k.natAbs<10 ^ c->k.natAbs<9223372036854775809->1<=c->c<M->ds.length+c<=100->(k≠0\/ds=[]) ->
  Z8L N k0 M ds n k=k0 (ds++lsd k.natAbs) n:=by
 intro c
 induction c with
 | zero=>intro M ds k _ _ h;omega
 | succ c ih =>
  intro M ds k hk hk2 _ hM hd hor
  obtain⟨M,rfl⟩:∃m,M=m+1:=⟨M-1,by omega⟩
  have hq:w64 (Int.tdiv k 10)=Int.tdiv k 10:=by
   have:=z9o k
   exact z1c (by omega) (by omega)
  have hstep:Z8L N k0 (M+1) ds n k=Z8L N k0 M (ds++[48+((k.natAbs%10:Nat):Int)]) n (Int.tdiv k 10):=by
   have hb:∀x:Int,Nat.blt (ds.length+([x]:List Int).length) 1099511627776=true:=λx=>Nat.ble_eq_true_of_le (by simp;omega)
   simp only[Z8L,Z9,hq,hb,z1t,cond_true]
   by_cases hk0:k=0
   ·subst hk0
    have hds:ds=[]:=hor.resolve_left (by simp)
    subst hds
    rfl
   ·rw[nt hk0,cond_true]
    by_cases hneg:Int.tmod k 10<0
    ·rw[dt hneg,cond_true,dig_neg hneg]
    ·rw[df hneg,cond_false,dig_pos hneg]
  rw[hstep]
  by_cases hsm:k.natAbs<10
  ·have e0:Int.tdiv k 10=0:=by
    have:=z9o k
    omega
   obtain⟨M,rfl⟩:∃m,M=m+1:=⟨M-1,by omega⟩
   rw[e0,done k0 (by simp) n,zjg hsm,Nat.mod_eq_of_lt hsm]
  ·have hc:1<=c:=by
    rcases Nat.eq_zero_or_pos c with h | h
    ·subst h
     omega
    ·exact h
   have hd2:=z9o k
   rw[ih M _ (Int.tdiv k 10) (by rw[hd2,Nat.div_lt_iff_lt_mul (by omega),<-Nat.pow_succ];exact hk) (by omega) hc (by omega) (by simp;omega) (.inl (by omega)),hd2,zrq hsm,List.append_assoc]
   rfl
def back{ρ:Type}{N:Nat}(k2:List Int->Option ρ){ds:List Int}(hd:ds.length<=100):∀(j M:Nat) (out:List Int),j<=ds.length->j<M->out.length+j<=1000->Z18L N k2 M ds out ((j:Int)-1)=k2 (out++(ds.take j).reverse):=by
 intro j
 induction j with
 | zero =>
  intro M out _ hM _
  obtain⟨M,rfl⟩:∃m,M=m+1:=⟨M-1,by omega⟩
  simp only[Z18L,Z19]
  rw[cf (df (by omega)),List.take_zero,List.reverse_nil,List.append_nil]
 | succ j ih =>
  intro M out hj hM ho
  obtain⟨M,rfl⟩:∃m,M=m+1:=⟨M-1,by omega⟩
  have e:((j+1:Nat):Int)-1=(j:Int):=by omega
  have hb:∀x:Int,Nat.blt (out.length+([x]:List Int).length) 1099511627776=true:=λx=>Nat.ble_eq_true_of_le (by simp;omega)
  simp only[Z18L,Z19,e]
  rw[ct (dt (by omega)),ct (z1g hj),ct (hb _),Int.toNat_natCast,z1c (by omega) (by omega),ih M _ (by omega) (by omega) (by simp;omega),<-z55 0 hj,List.reverse_append,List.append_assoc]
  rfl
def lsd_len{u:Nat}:∀(c:Nat),u<10 ^ c->1<=c->(lsd u).length<=c:=by
 intro c
 induction c generalizing u with
 | zero=>intro _ h;omega
 | succ c ih =>
  intro h _
  by_cases hs:u<10
  ·rw[zjg hs]
   simp
  ·rw[zrq hs,List.length_cons]
   have hc:1<=c:=by
    rcases Nat.eq_zero_or_pos c with h' | h'
    ·subst h'
     omega
    ·exact h'
   have:=ih (u:=u / 10) (by rw[Nat.div_lt_iff_lt_mul (by omega),<-Nat.pow_succ];exact h) hc
   omega
def ok:Spec:=λn hp=>⟨200,λN hN=>by
 simp only[P,zf0,Bool.and_eq_true,decide_eq_true_eq]at hp
 have h19:n.natAbs<10 ^ 19:=by
  have:(10:Nat) ^ 19=10000000000000000000:=by decide
  omega
 have hlen:=lsd_len 19 h19 (by omega)
 simp only[Z0,Z1,Z2,Z3,Z4,Z5,Z6,Z7,Z8]
 refine(loop _ n 19 N [] n h19 (by omega) (by omega) (by omega) (by simp) (.inr rfl)).trans ?_
 rw[List.nil_append]
 have hl0:lsd n.natAbs=(lsd n.natAbs).take (lsd n.natAbs).length:=by rw[List.take_length]
 have fin:∀out:List Int,out.length<=10->Z18L N (λout6=>some ((),(strOfNums out6,()))) N (lsd n.natAbs) out (((lsd n.natAbs).length:Int)-1)=some ((),(strOfNums (out++(lsd n.natAbs).reverse),())):=λout ho=>by
  rw[back _ (by omega) _ N out (Nat.le_refl _) (by omega) (by omega),List.take_length]
 simp only[Z10,Z11,Z12,Z13]
 by_cases hneg:n<0
 ·rw[ct (dt hneg),ct (show Nat.blt (([]:List Int).length+([45]:List Int).length) 1099511627776=true from rfl)]
  simp only[Z14,Z15,Z16,Z17,Z18,Z20]
  rw[z1c (by omega) (by omega),fin _ (by simp),g,z3m,Lib.itoa,if_pos hneg]
  have:=nums_neg n.natAbs
  simp only[List.nil_append,List.singleton_append]
  rw[this]
 ·rw[cf (df hneg)]
  simp only[Z14,Z15,Z16,Z17,Z18,Z20]
  rw[z1c (by omega) (by omega),fin _ (by simp),g,z3m,Lib.itoa,if_neg hneg,List.nil_append,nums_lsd,show n.natAbs=n.toNat by omega]⟩
end z0a
end
end Go.Fw
