/- The plain part: what the functions compute, in lists and numbers. Nothing is assumed. -/
import Derived.Test.YtkjnhmjfdfiklaaDoorFwd
import Derived.Lib.ItoaLen
import Derived.Lib.Join
import Derived.Lib.AtoiAll
import Derived.Lib.SplitLaws
import Derived.Lib.CutLaws
noncomputable section
set_option linter.defProp false
set_option linter.unusedVariables false
namespace Go.Fw
def fF:List Int->List Int->Bool
 |[],[]=>false
 |[],_::_=>true
 |_::_,[]=>false
 |x::xs,y::ys=>if x=y then fF xs ys else decide (x<y)
def iu:List Int->List Int->Int
 |[],[]=>0
 |[],_::_=>-1
 |_::_,[]=>1
 |x::xs,y::ys=>if x=y then iu xs ys else if x<y then -1 else 1
def xp:∀a b:List Int,decide (iu a b<=0)=!(fF b a)
 |[],[]=>rfl
 |[],_::_=>rfl
 |_::_,[]=>rfl
 |x::xs,y::ys=>by
  rw[iu,fF];by_cases h:x=y;·rw[if_pos h,if_pos h.symm,xp xs ys]
  ·rw[if_neg h,if_neg (show ¬ y=x from λe=>h e.symm)];by_cases h2:x<y;·rw[if_pos h2,df (show ¬ y<x by omega)];rfl
   ·rw[if_neg h2,dt (show y<x by omega)];rfl
def aN(n lo hi:Int):Bool:=decide (lo<=n)&&decide (n<=hi)
def gA(vars:Int)(e:List Int):Bool:=decide ((e.length:Int)=vars)&&e.all λx=>aN x (-20) 20
def iv(c:Int):Bool:=!(decide (c=0))&&aN c (-1000000) 1000000
def oP(l:List (List Int×Int)):Nat->Option (List Int)
 |0=>none
 |j+1=>some (l.getD j ([],0)).1
def sN:Option (List Int)->List Int->Bool
 |none,_=>true
 |some p,e=>fF e p
def fX(vars:Int):List (List Int×Int)->Option (List Int)->Bool
 |[],_=>true
 |t::ts,p=>gA vars t.1&&(iv t.2&&(sN p t.1&&fX vars ts (some t.1)))
def bO(f:Int×List (List Int×Int)):Bool:=aN f.1 1 8&&(decide (f.2.length<=600)&&fX f.1 f.2 none)
def xq(x y:Int)(n:Nat)(hy:y=(n:Int))(hn:n<2147483648):0<=du .and .i64 x y/\du .and .i64 x y<=n:=by
 subst hy;have e:du .and .i64 x (n:Int)=IntKind.i64.wrap ((BitVec.ofInt 64 x &&& BitVec.ofInt 64 (n:Int)).toNat:Int):=rfl;have h1:(BitVec.ofInt 64 x &&& BitVec.ofInt 64 (n:Int)).toNat<=n:=by rw[BitVec.toNat_and];refine Nat.le_trans Nat.and_le_right ?_;rw[BitVec.toNat_ofInt];omega
 rw[e];generalize(BitVec.ofInt 64 x &&& BitVec.ofInt 64 (n:Int)).toNat=k at h1;have:IntKind.i64.wrap (k:Int)=(k:Int):=by simp[IntKind.wrap,IntKind.bits,IntKind.signed];omega
 rw[this];omega
def bn(b:List Int)(r:Int×Int):Bool:=decide (0<=r.1)&&(decide (r.1<=(b.length:Int))&&decide (b.length<=maxLen))
def oQ{b:List Int}{r:Int×Int}:bn b r=true↔0<=r.1/\r.1<=(b.length:Int)/\b.length<=maxLen:=by simp[bn]
def d8{n lo hi:Int}:aN n lo hi=true↔lo<=n/\n<=hi:=by simp[aN]
def EU{j n:Nat}(h:j<n):(List.range n).drop j=j::(List.range n).drop (j+1):=by rw[dA 0 (by simpa using h),List.getD_eq_getElem?_getD,List.getElem?_range h,Option.getD_some]
def aU(n:Int):ByteArray:=⟨(Lib.itoa n).toArray⟩
def dM(u:Nat):List Int:=(Lib.decDigits u).reverse.map λb=>(b.toNat:Int)
def xu{t:Nat}(h:t<10):((UInt8.ofNat (48+t)).toNat:Int)=48+(t:Int):=by rw[UInt8.toNat_ofNat'];omega
def xv{u:Nat}(h:u<10):dM u=[48+(u:Int)]:=by rw[dM,Lib.decDigits,dif_pos h];simp only[List.reverse_cons,List.reverse_nil,List.nil_append,List.map_cons,List.map_nil];rw[xu h]
def xw{u:Nat}(h:¬ u<10):dM u=(48+((u%10:Nat):Int))::dM (u / 10):=by rw[dM,Lib.decDigits,dif_neg h,List.reverse_append];simp only[List.reverse_cons,List.reverse_nil,List.nil_append,List.singleton_append,List.map_cons];rw[xu (Nat.mod_lt _ (by omega))];rfl
def xx(l:List UInt8):strOfNums (l.map λb=>(b.toNat:Int))=⟨l.toArray⟩:=by
 unfold strOfNums;rw[List.map_map];congr 2;conv=>rhs;rw[<-List.map_id l]
 apply List.map_congr_left;intro b _;simp
def EV(u:Nat):strOfNums (dM u).reverse=⟨(Lib.decDigits u).toArray⟩:=by rw[dM,<-List.map_reverse,List.reverse_reverse,xx]
def EW(u:Nat):strOfNums (45::(dM u).reverse)=⟨(45::Lib.decDigits u).toArray⟩:=by rw[dM,<-List.map_reverse,List.reverse_reverse];exact xx (45::Lib.decDigits u)
def xy(k:Int):Int.tmod k 10=if k<0 then -((k.natAbs%10:Nat):Int)else((k.natAbs%10:Nat):Int):=by
 split;·rename_i h;obtain⟨u,rfl⟩:∃u:Nat,k=-(u:Int):=⟨k.natAbs,by omega⟩;rw[Int.neg_tmod,Int.natAbs_neg,Int.natAbs_natCast];rfl
 ·rename_i h;obtain⟨u,rfl⟩:∃u:Nat,k=(u:Int):=⟨k.toNat,by omega⟩;rw[Int.natAbs_natCast];rfl
def EX(k:Int):Int.tdiv k 10=if k<0 then -((k.natAbs / 10:Nat):Int)else((k.natAbs / 10:Nat):Int):=by
 split;·rename_i h;obtain⟨u,rfl⟩:∃u:Nat,k=-(u:Int):=⟨k.natAbs,by omega⟩;rw[Int.neg_tdiv,Int.natAbs_neg,Int.natAbs_natCast];rfl
 ·rename_i h;obtain⟨u,rfl⟩:∃u:Nat,k=(u:Int):=⟨k.toNat,by omega⟩;rw[Int.natAbs_natCast];rfl
def xz{n:Int}(h0:0<=n)(h1:n<256):w8 n=n:=by unfold w8;rw[IntKind.wrap_u8];omega
def EY{k:Int}(h:¬ Int.tmod k 10<0):w8 (af (48+Int.tmod k 10))=48+((k.natAbs%10:Nat):Int):=by
 have hm:k.natAbs%10<10:=Nat.mod_lt _ (by omega);have e:Int.tmod k 10=((k.natAbs%10:Nat):Int):=by
  rw[xy]at h ⊢;split;·rename_i hk;rw[if_pos hk]at h;omega
  ·rfl
 rw[e,cO (by omega) (by omega),xz (by omega) (by omega)]
def EZ{k:Int}(h:Int.tmod k 10<0):w8 (af (48+af (0-Int.tmod k 10)))=48+((k.natAbs%10:Nat):Int):=by
 have hm:k.natAbs%10<10:=Nat.mod_lt _ (by omega);have e:Int.tmod k 10=-((k.natAbs%10:Nat):Int):=by
  rw[xy]at h ⊢;split;·rfl
  ·rename_i hk;rw[if_neg hk]at h;omega
 have e1:af (0 - -((k.natAbs%10:Nat):Int))=((k.natAbs%10:Nat):Int):=by rw[cO (by omega) (by omega)];omega
 rw[e,e1,cO (by omega) (by omega),xz (by omega) (by omega)]
def sP(k:Int):(Int.tdiv k 10).natAbs=k.natAbs / 10:=by rw[EX];split<;>omega
def oT(a b:List UInt8):(⟨a.toArray⟩:ByteArray)++⟨b.toArray⟩=⟨(a++b).toArray⟩:=by apply ByteArray.ext;simp
def sQ(n:Int):(aU n).data.toList=Lib.itoa n:=by simp[aU]
def E3{n:Int}(h:cz n=true):(aU n).size<=21:=by simp only[cz,Bool.and_eq_true,decide_eq_true_eq]at h;have:=Lib.itoa_length_le n h.1 h.2;show(Lib.itoa n).toArray.size<=21;simpa using this
def aY(l:List Int):List UInt8:=Lib.join (l.map Lib.itoa) [32]
def bc(l:List Int):ByteArray:=⟨(aY l).toArray⟩
def xA{l:List Int}(h:l≠[])(n:Int):aY (l++[n])=aY l++[32]++Lib.itoa n:=by
 unfold aY Lib.join;cases l with
 |nil=>exact absurd rfl h
 |cons x xs =>
  rw[List.map_append,List.map_cons,List.map_cons,List.map_nil];induction xs generalizing x with
  |nil=>simp[List.intercalate,List.intersperse]
  |cons y ys ih =>have:=ih y (by simp);simp only[List.map_cons,List.cons_append,List.intercalate,List.intersperse,List.flatten_cons,List.append_assoc]at this ⊢;rw[this]
def xC(n:Int):aY [n]=Lib.itoa n:=by simp[aY,Lib.join,List.intercalate]
def E4:aY []=[]:=rfl
def oU{l:List Int}(h:l.all cz=true):(aY l).length<=22*l.length:=by
 have key:∀j,j<=l.length->(aY (l.take j)).length<=22*j:=by
  intro j;induction j with
  |zero=>intro _;simp[E4]
  |succ j ih =>
   intro hj;have h2:cz (l.getD j 0)=true:=List.all_eq_true.1 h _ (dK 0 hj);have hn:(Lib.itoa (l.getD j 0)).length<=21:=by simp only[cz,Bool.and_eq_true,decide_eq_true_eq]at h2;exact Lib.itoa_length_le _ h2.1 h2.2
   have:=ih (by omega);rw[<-ir 0 hj];by_cases he:l.take j=[];·rw[he,List.nil_append,xC];omega
   ·rw[xA he];simp only[List.length_append,List.length_cons,List.length_nil];omega
 have:=key l.length (Nat.le_refl _);rwa [List.take_length]at this
def dT(l:List Int):Bool:=decide (l.length<=2097152)&&l.all cz
def E5{xs:List (List UInt8)}(h:xs≠[])(x sep:List UInt8):Lib.join (xs++[x]) sep=Lib.join xs sep++sep++x:=by
 cases xs with
 |nil=>exact absurd rfl h
 |cons y ys =>rw[List.cons_append,Lib.join_cons,Lib.join_cons];simp[Lib.joinTail,List.append_assoc]
def join_len{B:Nat}{sep:List UInt8}:∀{xs:List (List UInt8)},(∀x∈xs,x.length<=B)->(Lib.join xs sep).length<=(B+sep.length)*xs.length
 |[],_=>by simp[Lib.join_nil]
 |y::ys,h=>by
  have hy:=h y (List.mem_cons_self ..);have ht:∀(zs:List (List UInt8)),(∀z∈zs,z.length<=B)->(Lib.joinTail sep zs).length<=(B+sep.length)*zs.length:=by
   intro zs;induction zs with
   |nil=>intro _;simp[Lib.joinTail]
   |cons z zs ih =>
    intro hz;have h1:=hz z (List.mem_cons_self ..);have h2:=ih λx hx=>hz x (List.mem_cons_of_mem _ hx);have e:(Lib.joinTail sep (z::zs)).length=sep.length+z.length+(Lib.joinTail sep zs).length:=by simp[Lib.joinTail,List.length_append];omega
    rw[e,List.length_cons,Nat.mul_succ];omega
  have:=ht ys λx hx=>h x (List.mem_cons_of_mem _ hx);rw[Lib.join_cons,List.length_append,List.length_cons,Nat.mul_succ];omega
def aK(l:List UInt8):ByteArray:=⟨l.toArray⟩
def bZ(l:List UInt8):(aK l).size=l.length:=by simp[aK,ByteArray.size]
def fY(l:List UInt8):(aK l).data.toList=l:=by simp[aK]
def kC(a b:List UInt8):aK a++aK b=aK (a++b):=oT a b
def E6(xs:List (List UInt8)):(xs.map aK).map (·.data.toList)=xs:=by
 rw[List.map_map];conv=>rhs;rw[<-List.map_id xs]
 exact List.map_congr_left λx _=>fY x
def ck(t:List Int×Int):List UInt8:=Lib.itoa t.2++[58]++aY t.1
def bU(f:Int×List (List Int×Int)):List (List UInt8):=f.2.map ck
def fi(f:Int×List (List Int×Int)):List UInt8:=Lib.itoa f.1++[124]
def cd(f:Int×List (List Int×Int)):ByteArray:=aK (fi f++(if f.2.length=0 then[48]else Lib.join (bU f) [44,32]))
def sR(v:Int):∀(l:List (List Int×Int)) (p:Option (List Int)),fX v l p=true->∀t∈l,gA v t.1=true/\iv t.2=true
 |[],_,_,t,ht=>by cases ht
 |x::xs,p,h,t,ht=>by
  simp only[fX,Bool.and_eq_true]at h;rcases List.mem_cons.1 ht with rfl|ht;·exact⟨h.1,h.2.1⟩
  ·exact sR v xs _ h.2.2.2 t ht
def gB{n lo hi:Int}:aN n lo hi=true↔lo<=n/\n<=hi:=by simp[aN]
structure me(f:Int×List (List Int×Int)):Prop where
 v:1<=f.1/\f.1<=8
 n:f.2.length<=600
 c:∀t∈f.2,cz t.2=true
 e:∀t∈f.2,dT t.1=true
 l:∀t∈f.2,(ck t).length<=250
def mf{n:Int}(h1:-2000000000<=n)(h2:n<=2000000000):cz n=true:=by simp only[cz,Bool.and_eq_true,decide_eq_true_eq];omega
def xD{n:Int}(h:cz n=true):(Lib.itoa n).length<=21:=by simp only[cz,Bool.and_eq_true,decide_eq_true_eq]at h;exact Lib.itoa_length_le n h.1 h.2
def sS{f:Int×List (List Int×Int)}(h:bO f=true):me f:=by
 simp only[bO,Bool.and_eq_true,decide_eq_true_eq,gB]at h;obtain⟨h1,h2,h3⟩:=h;have ht:=sR _ _ _ h3;have hc:∀t∈f.2,cz t.2=true:=λt m=>by have:=(ht t m).2;simp only[iv,Bool.and_eq_true,gB]at this;exact mf (by omega) (by omega)
 have hr:∀t∈f.2,dT t.1=true/\t.1.length<=8:=λt m=>by have:=(ht t m).1;simp only[gA,Bool.and_eq_true,decide_eq_true_eq]at this;refine⟨?_,by omega⟩;simp only[dT,Bool.and_eq_true,decide_eq_true_eq];refine⟨by omega,List.all_eq_true.2 λx hx=>?_⟩;have:=gB.1 (List.all_eq_true.1 this.2 x hx);exact mf (by omega) (by omega)
 refine⟨h1,h2,hc,λt m=>(hr t m).1,λt m=>?_⟩;have a:=xD (hc t m);have b:=(hr t m).1;simp only[dT,Bool.and_eq_true]at b;have b:=oU b.2;have c:=(hr t m).2;unfold ck;simp only[List.length_append,List.length_cons,List.length_nil];omega
def fZ(f:Int×List (List Int×Int)):(bU f).length=f.2.length:=by simp[bU]
def sT{f:Int×List (List Int×Int)}{j:Nat}(h:j<f.2.length):(bU f).getD j []=ck (f.2.getD j ([],0)):=by unfold bU;rw[List.getD_eq_getElem?_getD,List.getElem?_map,List.getElem?_eq_getElem h,List.getD_eq_getElem?_getD,List.getElem?_eq_getElem h];rfl
def sU{f:Int×List (List Int×Int)}(h:me f)(j:Nat):(Lib.join ((bU f).take j) [44,32]).length<=252*600:=by
 have:=join_len (B:=250) (sep:=[44,32]) (xs:=(bU f).take j) λx hx=>by obtain⟨t,ht,rfl⟩:=List.mem_map.1 (List.mem_of_mem_take hx);exact h.l t ht
 have h2:(250+([44,32]:List UInt8).length)*((bU f).take j).length<=252*600:=Nat.mul_le_mul (by simp) (by rw[List.length_take,fZ];have:=h.n;omega);omega
def oV{f:Int×List (List Int×Int)}(h:me f):(fi f).length<=22:=by have:=xD (mf (n:=f.1) (by have:=h.v;omega) (by have:=h.v;omega));unfold fi;simp only[List.length_append,List.length_cons,List.length_nil];omega
def xE{f:Int×List (List Int×Int)}(h:bO f=true):(cd f).size<=151222:=by
 have hl:=sS h;have h1:=oV hl;have h2:=sU hl f.2.length;rw[List.take_of_length_le (by rw[fZ];omega)]at h2;unfold cd;rw[bZ,List.length_append];split;·rw[List.length_singleton];omega
 ·omega
def fj(s:ByteArray):Int×Bool:=match Lib.atoiAll s.data.toList with
 |.ok n=>(n,false)
 |.range=>(Lib.atoiSat s.data.toList,true)
 |_=>(0,true)
def aW(p:UInt8->Bool):List UInt8->List (List UInt8)
 |[]=>[[]]
 |b::l=>if p b=true then[]::aW p l else match aW p l with
  |h::t=>(b::h)::t
  |[]=>[[b]]
def kD(p:UInt8->Bool):∀l,aW p l≠[]
 |[]=>by simp[aW]
 |b::l=>by
  rw[aW];split;·simp
  ·split<;>simp
def fH(a:List UInt8):List (List UInt8)->List (List UInt8)
 |h::t=>(a++h)::t
 |[]=>[a]
def E7{q:List (List UInt8)}(h:q≠[]):fH [] q=q:=by
 cases q with
 |nil=>exact absurd rfl h
 |cons x xs=>rfl
def oW{p:UInt8->Bool}{b:UInt8}(h:p b=true)(a l:List UInt8):fH a (aW p (b::l))=a::aW p l:=by rw[aW,if_pos h];simp[fH]
def xF(c:UInt8):∀l:List UInt8,Lib.splitK [c] 0 (l.count c) l=aW (λb=>b == c) l
 |[]=>rfl
 |b::l=>by
  have ih:=xF c l;rw[aW];by_cases h:b=c
  ·subst h;have hi:Lib.index (b::l) [b]=0:=by unfold Lib.index;simp
   rw[List.count_cons_self,Lib.splitK,if_neg (by rw[hi];decide),if_pos (by simp),hi,<-ih];rfl
  ·have hp:([c]:List UInt8).isPrefixOf (b::l)=false:=by simp[List.isPrefixOf];exact λe=>h e.symm
   have hi:Lib.index (b::l) [c]=if Lib.index l [c] == -1 then -1 else Lib.index l [c]+1:=by
    conv=>lhs;unfold Lib.index
    rw[hp];simp
   rw[List.count_cons_of_ne h,if_neg (by simpa using h),<-ih];cases hk:l.count c with
   |zero=>rfl
   |succ k =>
    rw[Lib.splitK,Lib.splitK,hi];by_cases hm:(Lib.index l [c] == -1)=true;·rw[if_pos hm,if_pos (by decide),if_pos hm]
    ·have hge:=Lib.index_ge l [c];have hne:Lib.index l [c]≠-1:=λe=>hm (beq_iff_eq.2 e);obtain⟨i,hx⟩:=Int.eq_ofNat_of_zero_le (show 0<=Lib.index l [c] by omega);rw[if_neg hm,hx,if_neg (by simp;omega),if_neg (by simp)];have e:((i:Int)+1).toNat=i+1:=by omega
     simp only[e,Int.toNat_natCast,Nat.add_zero,List.length_singleton,List.take_succ_cons,List.drop_succ_cons]
def aS(l:List UInt8):ByteArray:=⟨l.toArray⟩
def sV(s:ByteArray):aS s.data.toList=s:=by simp[aS]
def E8(s:ByteArray)(c:UInt8):Lib.splitB ⟨#[c]⟩ 0 (Lib.countB s ⟨#[c]⟩) s=(aW (λb=>b == c) s.data.toList).map aS:=by
 have h1:Lib.countB s ⟨#[c]⟩=s.data.toList.count c:=Lib.count_one c _;have h2:=Lib.splitB_data ⟨#[c]⟩ 0 (s.data.toList.count c) s;rw[xF]at h2;rw[h1,<-h2,List.map_map];conv=>lhs;rw[<-List.map_id (Lib.splitB _ _ _ _)]
 exact List.map_congr_left λx _=>(sV x).symm
def sW(p:UInt8->Bool):∀l,(aW p l).length<=l.length+1
 |[]=>by simp[aW]
 |b::l=>by
  have:=sW p l;rw[aW];split;·simp;omega
  ·split;·rename_i hq;rw[hq]at this;simp at this ⊢;omega
   ·simp
def cP(s:ByteArray):List ByteArray:=(aW (λb=>b == 32) s.data.toList).map aS
def xJ(s:ByteArray):(cP s).length<=s.size+1:=by unfold cP;rw[List.length_map,Lib.size_eq];exact sW _ _
end Go.Fw
set_option linter.unusedSimpArgs false
namespace Go.Fw
def dN(c:UInt8):Bool:=decide (48<=c.toNat)&&decide (c.toNat<=57)
def ix(a:Nat)(c:UInt8):Nat:=10*a+(c.toNat-48)
def cX(a:Nat)(l:List UInt8):Nat:=l.foldl ix a
def mh(a:Nat):cX a []=a:=rfl
def mi(a:Nat)(c:UInt8)(l:List UInt8):cX a (c::l)=cX (ix a c) l:=by unfold cX;rw[List.foldl_cons]
def Fe(l m:List UInt8)(a:Nat):cX a (l++m)=cX (cX a l) m:=by unfold cX;rw[List.foldl_append]
def mj(a:Nat)(c:UInt8):ix a c=10*a+(c.toNat-48):=by unfold ix;rfl
def Ff:∀(l:List UInt8) (a:Nat),l.all dN=true->cX a l<(a+1)*10 ^ l.length:=by
 intro l;induction l with
 |nil=>intro a _;rw[mh];simp
 |cons c l ih =>intro a h;rw[List.all_cons,Bool.and_eq_true]at h;have hc:=h.1;simp only[dN,Bool.and_eq_true,decide_eq_true_eq]at hc;have:=ih (ix a c) h.2;have hs:=mj a c;rw[mi,List.length_cons,Nat.pow_succ];refine Nat.lt_of_lt_of_le this ?_;rw[Nat.mul_comm (10 ^ l.length) 10,<-Nat.mul_assoc];exact Nat.mul_le_mul_right _ (by omega)
def Fg:∀(l:List UInt8) (a:Nat),a<=cX a l:=by
 intro l;induction l with
 |nil=>intro a;rw[mh];exact Nat.le_refl _
 |cons c l ih =>intro a;have:=ih (ix a c);have hs:=mj a c;rw[mi];omega
def Fh:∀(l:List UInt8) (a:Nat),l.all dN=true->cX a l<1000000000000000000->Lib.parseUint10 a l=.ok (cX a l):=by
 intro l;induction l with
 |nil=>intro a _ _;rw[mh];rfl
 |cons c l ih =>
  intro a h hv;rw[List.all_cons,Bool.and_eq_true]at h;have hc:=h.1;simp only[dN,Bool.and_eq_true,decide_eq_true_eq]at hc;rw[mi]at hv ⊢;have hge:=Fg l (ix a c);have hs:=mj a c;have e:a*10+(c.toNat-48)=ix a c:=by omega
  rw[Lib.parseUint10,if_pos hc,if_neg (by omega),if_neg (by omega),e];exact ih _ h.2 hv
def ml(u:Nat):(Lib.decDigits u).all dN=true:=by
 induction u using Nat.strongRecOn with
 |_ u ih =>
  have key:∀t,t<10->dN (UInt8.ofNat (48+t))=true:=λt ht=>by
   have:(UInt8.ofNat (48+t)).toNat=48+t:=by rw[UInt8.toNat_ofNat'];omega
   simp only[dN,this,Bool.and_eq_true,decide_eq_true_eq];omega
  rw[Lib.decDigits];split;·rename_i h;rw[List.all_cons,key u h];rfl
  ·rename_i h;rw[List.all_append,ih (u / 10) (by omega),List.all_cons,key (u%10) (by omega)];rfl
def Fi(u:Nat):cX 0 (Lib.decDigits u)=u:=by
 induction u using Nat.strongRecOn with
 |_ u ih =>
  have key:∀t,t<10->(UInt8.ofNat (48+t)).toNat-48=t:=λt ht=>by
   have:(UInt8.ofNat (48+t)).toNat=48+t:=by rw[UInt8.toNat_ofNat'];omega
   omega
  rw[Lib.decDigits];split;·rename_i h;rw[mi,mj,key u h,mh];omega
  ·rename_i h;rw[Fe,ih (u / 10) (by omega),mi,mj,key (u%10) (by omega),mh];omega
def xK(u:Nat):Lib.decDigits u≠[]:=by rw[Lib.decDigits];split<;>simp
def xL:∀(k u:Nat),u<10 ^ k->1<=k->(Lib.decDigits u).length<=k
 |0,_,_,h=>by omega
 |k+1,u,h,_=>by
  rw[Lib.decDigits];split;·simp
  ·rename_i hs;have hk:1<=k:=by
    rcases Nat.eq_zero_or_pos k with h'|h';·subst h';omega
    ·exact h'
   have:=xL k (u / 10) (by rw[Nat.div_lt_iff_lt_mul (by omega),<-Nat.pow_succ];exact h) hk;simp;omega
def xM:∀l:List UInt8,Lib.join (aW (λb=>b == 32) l) [32]=l
 |[]=>rfl
 |b::l=>by
  have ih:=xM l;have hne:=kD (λb=>b == 32) l;rw[aW];by_cases h:(b == 32)=true
  ·rw[if_pos h,Lib.join_cons];cases hq:aW (λb=>b == 32) l with
   |nil=>exact absurd hq hne
   |cons x xs =>rw[hq,Lib.join_cons]at ih;have hb:b=32:=beq_iff_eq.1 h;subst hb;simp only[Lib.joinTail,List.map_cons,List.flatten_cons,List.nil_append,List.singleton_append,List.cons_append]at ih ⊢;rw[ih]
  ·rw[if_neg h];cases hq:aW (λb=>b == 32) l with
   |nil=>exact absurd hq hne
   |cons x xs =>rw[hq,Lib.join_cons]at ih;simp only;rw[Lib.join_cons,List.cons_append,ih]
def gC{p:UInt8->Bool}:∀(x l:List UInt8),(∀b∈x,p b=false)->aW p (x++l)=fH x (aW p l)
 |[],l,_=>(E7 (kD p l)).symm
 |b::x,l,h=>by
  have ih:=gC x l λc hc=>h c (List.mem_cons_of_mem _ hc);rw[List.cons_append,aW,if_neg (by rw[h b (List.mem_cons_self ..)];simp),ih];have hne:=kD p l;cases hq:aW p l with
  |nil=>exact absurd hq hne
  |cons y ys=>rfl
def sZ:∀(xs:List (List UInt8)),xs≠[]->(∀x∈xs,∀b∈x,(b == (32:UInt8))=false)->aW (λb=>b == 32) (Lib.join xs [32])=xs
 |[],h,_=>absurd rfl h
 |[x],_,h=>by rw[Lib.join_one];have:=gC (p:=λb=>b == 32) x [] (h x (List.mem_cons_self ..));rw[List.append_nil]at this;rw[this];simp[aW,fH]
 |x::y::ys,_,h=>by
  have ih:=sZ (y::ys) (by simp) λz hz=>h z (List.mem_cons_of_mem _ hz);have e:Lib.join (x::y::ys) [32]=x++(32::Lib.join (y::ys) [32]):=by rw[Lib.join_cons,Lib.join_cons];simp[Lib.joinTail]
  rw[e,gC _ _ (h x (List.mem_cons_self ..)),oW (by rfl),ih]
def xN(n:Int):∀b∈Lib.itoa n,(b == (32:UInt8))=false:=by
 have key:∀u,∀b∈Lib.decDigits u,(b == (32:UInt8))=false:=λu b hb=>by have:=List.all_eq_true.1 (ml u) b hb;simp only[dN,Bool.and_eq_true,decide_eq_true_eq]at this;rw[beq_eq_false_iff_ne];intro e;subst e;have:(32:UInt8).toNat=32:=rfl;omega
 intro b hb;unfold Lib.itoa at hb;split at hb
 ·rcases List.mem_cons.1 hb with rfl|hb;·rfl
  ·exact key _ b hb
 ·exact key _ b hb
def dk(l:List UInt8):Nat:=match l with
 |c::_=>if c=45 then 1 else 0
 |[]=>0
def fk(s:ByteArray):Int×Bool :=
  if(s.data.toList.drop (dk s.data.toList)).length=0\/9<(s.data.toList.drop (dk s.data.toList)).length then(0,false)
  else if(s.data.toList.drop (dk s.data.toList)).all dN=true then
    (if dk s.data.toList=1 then -(cX 0 (s.data.toList.drop (dk s.data.toList)):Int)else(cX 0 (s.data.toList.drop (dk s.data.toList)):Int),
     bD (aU (if dk s.data.toList=1 then -(cX 0 (s.data.toList.drop (dk s.data.toList)):Int)else(cX 0 (s.data.toList.drop (dk s.data.toList)):Int))) s)
  else(0,false)
def de{a b:ByteArray}:bD a b=true↔a=b:=by
 unfold bD;rw[beq_iff_eq,ByteArray.toList_eq,ByteArray.toList_eq];constructor;·intro h;apply ByteArray.ext;exact Array.toList_inj.1 h
 ·intro h;rw[h]
def dU(w:ByteArray):Option Int:=if(fj w).2=true then none else if 10<w.size then none else if aN (fj w).1 (-999999999) 999999999=true then some (fj w).1 else none
def eC(w:ByteArray):Option Int:=if(fk w).2=true then some (fk w).1 else none
def Fj{w:ByteArray}{n:Int}(h:eC w=some n):dU w=some n/\w=aU n:=by
 unfold eC at h;split at h
 ·rename_i h2;injection h with h;unfold fk at h h2;split at h2;·cases h2
  rename_i hlen;rw[if_neg hlen]at h;split at h2
  ·rename_i hall;rw[if_pos hall]at h;simp only at h h2;have hw:=de.1 h2;rw[h]at hw;have hlt:=Ff _ 0 hall;have h9:(10:Nat) ^ (w.data.toList.drop (dk w.data.toList)).length<=10 ^ 9:=Nat.pow_le_pow_right (by omega) (by omega);have h9':(10:Nat) ^ 9=1000000000:=by decide
   rw[Nat.zero_add,Nat.one_mul]at hlt;have hu:=Fh _ 0 hall (by omega);have hsz:=Lib.size_eq w;refine⟨?_,hw.symm⟩;have hat:fj w=(n,false):=by
    unfold fj;cases hL:w.data.toList with
    |nil=>rw[hL]at hlen;simp[dk]at hlen
    |cons c r =>
     rw[hL]at hall hlen hlt hu h h9;by_cases hc:c=45
     ·subst hc;have hs:dk (45::r)=1:=rfl;rw[hs]at hall hlen hlt hu h h9;rw[if_pos rfl]at h;simp only[List.drop_succ_cons,List.drop_zero]at hall hlen hlt hu h h9;have hm:Lib.parseMag r=.ok (cX 0 r):=by unfold Lib.parseMag;rw[if_neg (λe=>by rw[e]at hlen;simp at hlen),hu]
      have fo:(45:UInt8).toNat=45:=rfl;simp only[Lib.atoiAll,fo,or_true,if_true,hm,not_true,false_and,if_false,true_and];rw[if_neg (show ¬ 9223372036854775808<cX 0 r by have:=hlt;have:=h9;omega),h]
     ·have hs:dk (c::r)=0:=by simp[dk,hc]
      rw[hs]at hall hlen hlt hu h h9;rw[if_neg (by omega)]at h;rw[List.drop_zero]at hall hlen hlt hu h h9;have hd:dN c=true:=by rw[List.all_cons,Bool.and_eq_true]at hall;exact hall.1
      simp only[dN,Bool.and_eq_true,decide_eq_true_eq]at hd;have hm:Lib.parseMag (c::r)=.ok (cX 0 (c::r)):=by unfold Lib.parseMag;rw[if_neg (by simp),hu]
      have h43:¬ c.toNat=43:=by omega
      have h45:¬ c.toNat=45:=by omega
      simp only[Lib.atoiAll,h43,h45,or_self,if_false,hm,not_false_eq_true,true_and,false_and];rw[if_neg (show ¬ 9223372036854775808<=cX 0 (c::r) by omega)];rw[h]
   have hsg:dk w.data.toList<=1:=by
    unfold dk;split;·split<;>omega
    ·omega
   have hwl:w.size<=10:=by rw[hsz];rw[List.length_drop]at hlen;omega
   have hin:aN n (-999999999) 999999999=true:=by rw[d8];split at h<;>omega
   unfold dU;rw[hat,if_neg (by simp),if_neg (by omega),if_pos hin]
  ·cases h2
 ·cases h
def oY{w:ByteArray}{n:Int}(hin:aN n (-999999999) 999999999=true)(hw:w=aU n):fk w=(n,true):=by
 rw[d8]at hin;have hd:w.data.toList=Lib.itoa n:=by rw[hw,sQ]
 have hu:n.natAbs<10 ^ 9:=by
  have h9':(10:Nat) ^ 9=1000000000:=by decide
  omega
 have hl:=xL 9 n.natAbs hu (by omega);have hne:(Lib.decDigits n.natAbs).length≠0:=λe=>xK _ (List.length_eq_zero_iff.1 e);have hall:=ml n.natAbs;have hval:=Fi n.natAbs;by_cases hneg:n<0
 ·have e:Lib.itoa n=45::Lib.decDigits n.natAbs:=by unfold Lib.itoa;rw[if_pos hneg]
  have hs:dk w.data.toList=1:=by rw[hd,e];rfl
  have hdr:w.data.toList.drop 1=Lib.decDigits n.natAbs:=by rw[hd,e];rfl
  have hv:-((n.natAbs:Nat):Int)=n:=by omega
  unfold fk;rw[hs,hdr,if_neg (by omega),if_pos hall,if_pos rfl,hval,hv,de.2 hw.symm]
 ·have e:Lib.itoa n=Lib.decDigits n.natAbs:=by unfold Lib.itoa;rw[if_neg hneg,show n.toNat=n.natAbs by omega]
  have hs:dk w.data.toList=0:=by
   rw[hd,e];unfold dk;split;·rename_i c r hc;rw[hc,List.all_cons,Bool.and_eq_true]at hall;have h1:=hall.1;simp only[dN,Bool.and_eq_true,decide_eq_true_eq]at h1;rw[if_neg];intro fo;subst fo;have:(45:UInt8).toNat=45:=rfl;omega
   ·rfl
  have hdr:w.data.toList.drop 0=Lib.decDigits n.natAbs:=by rw[hd,e];rfl
  have hv:((n.natAbs:Nat):Int)=n:=by omega
  unfold fk;rw[hs,hdr,if_neg (by omega),if_pos hall,if_neg (by omega),hval,hv,de.2 hw.symm]
def Fk{n:Int}(hin:aN n (-999999999) 999999999=true):eC (aU n)=some n:=by unfold eC;rw[oY hin rfl,if_pos rfl]
def Fl{w:ByteArray}{n:Int}(h:dU w=some n)(hw:w=aU n):eC w=some n:=by
 have hin:aN n (-999999999) 999999999=true:=by
  unfold dU at h;split at h;·cases h
  ·split at h;·cases h
   ·split at h;·rename_i h3;injection h with h;rw[h]at h3;exact h3
    ·cases h
 have hnum:=oY hin hw;unfold eC;rw[hnum,if_pos rfl]
def cn(f:ByteArray->Option Int):List ByteArray->Option (List Int)
 |[]=>some []
 |w::ws=>match f w with
  |none=>none
  |some n=>match cn f ws with
   |none=>none
   |some l=>some (n::l)
def fI(s:ByteArray):List Int×Bool:=if bD s ByteArray.empty=true then([],true)else match cn eC (cP s)with
 |none=>([],false)
 |some l=>(l,true)
def bI(s:ByteArray):List Int×Bool:=if bD s ByteArray.empty=true then([],true)else match cn dU (cP s)with
 |none=>([],false)
 |some l=>if bD (bc l) s=true then(l,true)else([],false)
def s0:∀{ws:List ByteArray}{l:List Int},cn eC ws=some l->cn dU ws=some l/\ws=l.map aU
 |[],l,h=>by injection h with h;subst h;exact⟨rfl,rfl⟩
 |w::ws,l,h=>by
  rw[cn]at h;cases hw:eC w with
  |none=>rw[hw]at h;cases h
  |some n =>
   rw[hw]at h;cases hr:cn eC ws with
   |none=>rw[hr]at h;cases h
   |some m =>rw[hr]at h;injection h with h;subst h;obtain⟨a,b⟩:=Fj hw;obtain⟨c,d⟩:=s0 hr;rw[cn,a,c];exact⟨rfl,by rw[List.map_cons,<-b,<-d]⟩
def xO:∀{ws:List ByteArray}{l:List Int},cn dU ws=some l->ws=l.map aU->cn eC ws=some l
 |[],l,h,_=>by injection h with h;subst h;rfl
 |w::ws,l,h,hm=>by
  rw[cn]at h;cases hw:dU w with
  |none=>rw[hw]at h;cases h
  |some n =>
   rw[hw]at h;cases hr:cn dU ws with
   |none=>rw[hr]at h;cases h
   |some m =>rw[hr]at h;injection h with h;subst h;rw[List.map_cons,List.cons.injEq]at hm;rw[cn,Fl hw hm.1,xO hr hm.2]
def Fm(s:ByteArray):Lib.join ((cP s).map (·.data.toList)) [32]=s.data.toList:=by
 unfold cP;rw[List.map_map];have:((·.data.toList) ∘ aS)=(id:List UInt8->List UInt8):=by funext l;simp[aS]
 rw[this,List.map_id];exact xM _
def s9(s:ByteArray):bI s=fI s:=by
 unfold bI fI;split;·rfl
 cases hS:cn eC (cP s)with
 |some l =>
  obtain⟨hI,hm⟩:=s0 hS;rw[hI];have hj:=Fm s;have e1:(l.map aU).map (·.data.toList)=l.map Lib.itoa:=by rw[List.map_map];exact List.map_congr_left λn _=>sQ n
  rw[hm,e1]at hj;have e2:bc l=s:=by apply ByteArray.ext;apply Array.toList_inj.1;rw[<-hj];simp[bc,aY]
  simp only;rw[if_pos (de.2 e2)]
 |none =>
  cases hI:cn dU (cP s)with
  |none=>rfl
  |some l =>
   simp only;split
   ·rename_i he;have e2:=de.1 he;have hl:l≠[]:=λh0=>by
     subst h0;have:=congrArg List.length (show cP s=[] by
      cases hq:cP s with
      |nil=>rfl
      |cons w ws =>
       rw[hq,cn]at hI;split at hI;·cases hI
       ·split at hI<;>cases hI)
     have h3:=kD (λb=>b == (32:UInt8)) s.data.toList;unfold cP at this;rw[List.length_map,List.length_nil]at this;exact h3 (List.length_eq_zero_iff.1 this)
    have hd:s.data.toList=Lib.join (l.map Lib.itoa) [32]:=by rw[<-e2];simp[bc,aY]
    have hp:=sZ (l.map Lib.itoa) (by simpa using hl) λx hx=>by obtain⟨n,_,rfl⟩:=List.mem_map.1 hx;exact xN n
    have hws:cP s=l.map aU:=by unfold cP;rw[hd,hp,List.map_map];rfl
    rw[xO hI hws]at hS;cases hS
   ·rfl
def ta(p:UInt8->Bool):∀l,∀x∈aW p l,x.length<=l.length
 |[],x,hx=>by simp[aW]at hx;subst hx;simp
 |b::l,x,hx=>by
  have ih:=ta p l;have hne:=kD p l;rw[aW]at hx;split at hx
  ·rcases List.mem_cons.1 hx with rfl|hx;·simp
   ·have:=ih x hx;rw[List.length_cons];omega
  ·cases hq:aW p l with
   |nil=>exact absurd hq hne
   |cons y ys =>
    rw[hq]at hx ih;rcases List.mem_cons.1 hx with rfl|hx;·have:=ih y (List.mem_cons_self ..);rw[List.length_cons,List.length_cons];omega
    ·have:=ih x (List.mem_cons_of_mem _ hx);rw[List.length_cons];omega
def Fn(s:ByteArray):∀w∈cP s,w.size<=s.size:=by
 intro w hw;unfold cP at hw;obtain⟨l,hl,rfl⟩:=List.mem_map.1 hw;have:=ta _ _ l hl;rw[Lib.size_eq s];have e:(aS l).size=l.length:=by simp[aS,ByteArray.size]
 omega
def Fo{w:ByteArray}{n:Int}(h:dU w=some n):cz n=true:=by
 unfold dU at h;split at h;·cases h
 ·split at h;·cases h
  ·split at h;·rename_i h3;injection h with h;rw[h,d8]at h3;simp only[cz,Bool.and_eq_true,decide_eq_true_eq];omega
   ·cases h
def Fu(n:Int):Lib.itoa n≠[]:=by
 unfold Lib.itoa;split;·simp
 ·exact xK _
def xT{row:List Int}(h:row≠[]):aY row≠[]:=by
 cases row with
 |nil=>exact absurd rfl h
 |cons x xs =>unfold aY;rw[List.map_cons,Lib.join_cons];have:=Fu x;simp[this]
def Fv{row:List Int}(h:row≠[]):cP (bc row)=row.map aU:=by
 have hd:(bc row).data.toList=Lib.join (row.map Lib.itoa) [32]:=by simp[bc,aY]
 unfold cP;rw[hd,sZ (row.map Lib.itoa) (by simpa using h) λx hx=>by obtain⟨n,_,rfl⟩:=List.mem_map.1 hx;exact xN n,List.map_map];rfl
def xU:∀{row:List Int},(∀n∈row,aN n (-999999999) 999999999=true)->cn eC (row.map aU)=some row
 |[],_=>rfl
 |n::ns,h=>by rw[List.map_cons,cn,Fk (h n (List.mem_cons_self ..)),xU λm hm=>h m (List.mem_cons_of_mem _ hm)]
def mo{row:List Int}(h:row≠[])(hr:∀n∈row,aN n (-999999999) 999999999=true):fI (bc row)=(row,true):=by unfold fI;rw[if_neg,Fv h,xU hr];intro he;have e:=de.1 he;have:=congrArg (λb:ByteArray=>b.data.toList) e;simp[bc]at this;exact xT h this
def tn(sep:ByteArray):∀(k:Nat) (s:ByteArray),∀w∈Lib.splitB sep 0 k s,w.size<=s.size
 |0,s,w,hw=>by rw[Lib.splitB_zero,List.mem_singleton]at hw;rw[hw];exact Nat.le_refl _
 |k+1,s,w,hw=>by
  by_cases h:Lib.indexB s sep=-1;·rw[Lib.splitB_miss _ _ _ _ h,List.mem_singleton]at hw;rw[hw];exact Nat.le_refl _
  ·have hge:-1<=Lib.indexB s sep:=Lib.index_ge _ _;obtain⟨i,hi⟩:=Int.eq_ofNat_of_zero_le (show 0<=Lib.indexB s sep by omega);rw[Lib.splitB_hit _ _ _ _ i hi]at hw;rcases List.mem_cons.1 hw with rfl|hw;·rw[ByteArray.size_extract];omega
   ·have:=tn sep k _ w hw;rw[ByteArray.size_extract]at this;omega
def yo{sep:List UInt8}{b:UInt8}:∀{xs:List (List UInt8)},b∈Lib.join xs sep->(∃x∈xs,b∈x)\/b∈sep
 |[],h=>by simp[Lib.join_nil]at h
 |x::xs,h=>by
  rw[Lib.join_cons]at h;rcases List.mem_append.1 h with h|h;·exact .inl ⟨x,List.mem_cons_self ..,h⟩
  ·unfold Lib.joinTail at h;obtain⟨l,hl,hb⟩:=List.mem_flatten.1 h;obtain⟨z,hz,rfl⟩:=List.mem_map.1 hl;rcases List.mem_append.1 hb with hb|hb;·exact .inr hb
   ·exact .inl ⟨z,List.mem_cons_of_mem _ hz,hb⟩
def FV{n:Int}{b:UInt8}(h:b∈Lib.itoa n):b=45\/dN b=true:=by
 unfold Lib.itoa at h;split at h
 ·rcases List.mem_cons.1 h with rfl|h;·exact .inl rfl
  ·exact .inr (List.all_eq_true.1 (ml _) b h)
 ·exact .inr (List.all_eq_true.1 (ml _) b h)
def kK{n:Int}{c:UInt8}(h1:c≠45)(h2:dN c=false):∀b∈Lib.itoa n,b≠c:=λb hb e=>by
 subst e;rcases FV hb with h|h;·exact h1 h
 ·rw[h2]at h;cases h
def yp{l:List Int}{c:UInt8}(h1:c≠45)(h2:dN c=false)(h3:c≠32):∀b∈aY l,b≠c:=λb hb e=>by
 subst e;rcases yo hb with⟨x,hx,hb⟩|hb;·obtain⟨n,_,rfl⟩:=List.mem_map.1 hx;exact kK h1 h2 b hb rfl
 ·exact h3 (List.mem_singleton.1 hb)
def yq{t:List Int×Int}{c:UInt8}(h1:c≠45)(h2:dN c=false)(h3:c≠32)(h4:c≠58):∀b∈ck t,b≠c:=λb hb e=>by
 subst e;unfold ck at hb;rcases List.mem_append.1 hb with hb|hb
 ·rcases List.mem_append.1 hb with hb|hb;·exact kK h1 h2 b hb rfl
  ·exact h4 (List.mem_singleton.1 hb)
 ·exact yp h1 h2 h3 b hb rfl
def yr{c:UInt8}(x t:List UInt8)(hx:∀b∈x,b≠c):Lib.index (x++c::32::t) [c,32]=x.length:=by
 refine Lib.index_first (by simp) (by simp[Lib.occAt,List.isPrefixOf]) λj hj=>?_;have hlt:j<(x++c::32::t).length:=by simp;omega
 unfold Lib.occAt;rw[List.drop_eq_getElem_cons hlt,List.getElem_append_left hj];have:=hx x[j] (List.getElem_mem hj);simp[List.isPrefixOf];intro e;exact absurd e.symm this
def FW{c:UInt8}(x:List UInt8)(hx:∀b∈x,b≠c):Lib.index x [c,32]=-1:=by
 refine Lib.index_none λj hj=>?_;unfold Lib.occAt;by_cases h:j<x.length;·rw[List.drop_eq_getElem_cons h];have:=hx x[j] (List.getElem_mem h);simp[List.isPrefixOf];intro e;exact absurd e.symm this
 ·rw[List.drop_of_length_le (by omega)];rfl
def o7(c:UInt8)(x y:List UInt8)(ys:List (List UInt8)):Lib.join (x::y::ys) [c,32]=x++c::32::Lib.join (y::ys) [c,32]:=by rw[Lib.join_cons,Lib.join_cons];simp[Lib.joinTail]
def yt(c:UInt8)(x t:List UInt8):(x++c::32::t).drop (x.length+2)=t:=by rw[List.drop_append,List.drop_of_length_le (by omega)];simp
def yu{c:UInt8}:∀(rows:List (List UInt8)),rows≠[]->(∀x∈rows,∀b∈x,b≠c)->Lib.splitK [c,32] 0 (rows.length-1) (Lib.join rows [c,32])=rows
 |[],h,_=>absurd rfl h
 |[x],_,_=>by rw[Lib.join_one];rfl
 |x::y::ys,_,h=>by
  have ih:=yu (y::ys) (by simp) λz hz=>h z (List.mem_cons_of_mem _ hz);have hx:=h x (List.mem_cons_self ..);rw[o7];have e:(x::y::ys).length-1=((y::ys).length-1)+1:=by simp
  rw[e,Lib.splitK,yr x _ hx,if_neg (by simp)];have e2:((x.length:Nat):Int).toNat=x.length:=Int.toNat_natCast _;rw[e2,Nat.add_zero,List.take_left,show x.length+([c,32]:List UInt8).length=x.length+2 from rfl,yt,ih]
def yv{c:UInt8}:∀(rows:List (List UInt8)) (fuel:Nat),rows≠[]->rows.length<=fuel->(∀x∈rows,∀b∈x,b≠c)->Lib.countFrom [c,32] fuel (Lib.join rows [c,32])=rows.length-1
 |[],_,h,_,_=>absurd rfl h
 |[x],0,_,hf,_=>by simp at hf
 |[x],fuel+1,_,_,h=>by rw[Lib.join_one,Lib.countFrom,FW x (h x (List.mem_cons_self ..))];rfl
 |x::y::ys,0,_,hf,_=>by simp at hf
 |x::y::ys,fuel+1,_,hf,h=>by have ih:=yv (y::ys) fuel (by simp) (by simp at hf ⊢;omega) λz hz=>h z (List.mem_cons_of_mem _ hz);rw[o7,Lib.countFrom,yr x _ (h x (List.mem_cons_self ..)),if_neg (by simp)];have e2:((x.length:Nat):Int).toNat=x.length:=Int.toNat_natCast _;rw[e2,show x.length+([c,32]:List UInt8).length=x.length+2 from rfl,yt,ih];simp;omega
def yw(c:UInt8):∀(rows:List (List UInt8)),rows.length<=(Lib.join rows [c,32]).length+1
 |[]=>by simp
 |[x]=>by simp
 |x::y::ys=>by have:=yw c (y::ys);rw[o7];simp at this ⊢;omega
def FX{c:UInt8}{rows:List (List UInt8)}(h0:rows≠[])(h:∀x∈rows,∀b∈x,b≠c) :
  Lib.splitB ⟨#[c,32]⟩ 0 (Lib.countB (aK (Lib.join rows [c,32])) ⟨#[c,32]⟩) (aK (Lib.join rows [c,32]))=rows.map aK:=by
 have hd:(⟨#[c,32]⟩:ByteArray).data.toList=[c,32]:=rfl;have hc:Lib.countB (aK (Lib.join rows [c,32])) ⟨#[c,32]⟩=rows.length-1:=by show Lib.count (aK (Lib.join rows [c,32])).data.toList (⟨#[c,32]⟩:ByteArray).data.toList=_;rw[fY,hd,Lib.count];exact yv rows _ h0 (yw c rows) h
 have h2:=Lib.splitB_data ⟨#[c,32]⟩ 0 (rows.length-1) (aK (Lib.join rows [c,32]));rw[fY,hd,yu rows h0 h]at h2;rw[hc];generalize Lib.splitB ⟨#[c,32]⟩ 0 (rows.length-1) (aK (Lib.join rows [c,32]))=q at h2;rw[<-h2,List.map_map];have e:(aK ∘ λx:ByteArray=>x.data.toList)=id:=by funext x;simp[aK]
 rw[e,List.map_id]
def FY{c:UInt8}(x t:List UInt8)(hx:∀b∈x,b≠c):Lib.index (x++c::t) [c]=x.length:=by
 refine Lib.index_first (by simp) (by simp[Lib.occAt,List.isPrefixOf]) λj hj=>?_;have hlt:j<(x++c::t).length:=by simp;omega
 unfold Lib.occAt;rw[List.drop_eq_getElem_cons hlt,List.getElem_append_left hj];have:=hx x[j] (List.getElem_mem hj);simp[List.isPrefixOf];intro e;exact absurd e.symm this
def yy{c:UInt8}(x t:List UInt8)(hx:∀b∈x,b≠c):Lib.cut (x++c::t) [c]=(x,t,true):=by
 unfold Lib.cut;rw[FY x t hx,if_pos (by omega),Int.toNat_natCast,List.take_left,show x.length+([c]:List UInt8).length=x.length+1 from rfl];have:(x++c::t).drop (x.length+1)=t:=by rw[List.drop_append,List.drop_of_length_le (by omega)];simp
 rw[this]
def b7(s sep:ByteArray):ByteArray×ByteArray×Bool:=(⟨(Lib.cut s.data.toList sep.data.toList).1.toArray⟩,⟨(Lib.cut s.data.toList sep.data.toList).2.1.toArray⟩,(Lib.cut s.data.toList sep.data.toList).2.2)
def jB:ByteArray:=⟨#[48]⟩
def f9:List ByteArray->List (List Int×Int)->Option (List (List Int×Int))
 |[],out=>some out
 |t::ts,out=>if(b7 t ⟨#[58]⟩).2.2=true then
   (if(bI (b7 t ⟨#[58]⟩).1).2=true then
    (if(bI (b7 t ⟨#[58]⟩).2.1).2=true then
     (if(bI (b7 t ⟨#[58]⟩).1).1.length=1 then
      f9 ts (out++[((bI (b7 t ⟨#[58]⟩).2.1).1,(bI (b7 t ⟨#[58]⟩).1).1.getD 0 0)])
     else none)else none)else none)else none
def d9:(Int×List (List Int×Int))×Bool:=((0,[]),false)
def gF(s:ByteArray)(f:Int×List (List Int×Int)):(Int×List (List Int×Int))×Bool:=if bO f=true then(if bD (if bO f=true then cd f else ByteArray.empty) s=true then(f,true)else d9)else d9
def mv(t:ByteArray):Option (List (List Int×Int)):=if bD t jB=true then some []else f9 (Lib.splitB ⟨#[44,32]⟩ 0 (Lib.countB t ⟨#[44,32]⟩) t) []
def ga(s:ByteArray):(Int×List (List Int×Int))×Bool:=if(b7 s ⟨#[124]⟩).2.2=true then
  (if(bI (b7 s ⟨#[124]⟩).1).2=true then
   (if(bI (b7 s ⟨#[124]⟩).1).1.length=1 then
    (match mv (b7 s ⟨#[124]⟩).2.1 with
     |some l=>gF s ((bI (b7 s ⟨#[124]⟩).1).1.getD 0 0,l)
     |none=>d9)else d9)else d9)else d9
def F0{s:ByteArray}{f:Int×List (List Int×Int)}:gF s f=d9\/(gF s f=(f,true)/\bO f=true/\cd f=s):=by
 unfold gF;by_cases h2:bO f=true
 ·rw[if_pos h2,if_pos h2];by_cases h1:bD (cd f) s=true;·exact .inr ⟨if_pos h1,h2,de.1 h1⟩
  ·exact .inl (if_neg h1)
 ·exact .inl (if_neg h2)
def tp(s:ByteArray):ga s=d9\/∃f,ga s=(f,true)/\bO f=true/\cd f=s:=by
 unfold ga;by_cases h1:(b7 s ⟨#[124]⟩).2.2=true
 ·rw[if_pos h1];by_cases h2:(bI (b7 s ⟨#[124]⟩).1).2=true
  ·rw[if_pos h2];by_cases h3:(bI (b7 s ⟨#[124]⟩).1).1.length=1
   ·rw[if_pos h3];cases mv (b7 s ⟨#[124]⟩).2.1 with
    |none=>exact .inl rfl
    |some l =>
     rcases F0 (s:=s) (f:=((bI (b7 s ⟨#[124]⟩).1).1.getD 0 0,l))with h|h;·exact .inl h
     ·exact .inr ⟨_,h⟩
   ·exact .inl (if_neg h3)
  ·exact .inl (if_neg h2)
 ·exact .inl (if_neg h1)
def cK(f:Int×List (List Int×Int)):List UInt8:=if f.2.length=0 then[48]else Lib.join (bU f) [44,32]
def tq(f:Int×List (List Int×Int)):(cd f).data.toList=Lib.itoa f.1++124::cK f:=by unfold cd fi cK;rw[fY,List.append_assoc];rfl
structure tu(f:Int×List (List Int×Int)):Prop where
 v:aN f.1 (-999999999) 999999999=true
 n:f.2.length<=600
 t:∀t∈f.2,aN t.2 (-999999999) 999999999=true/\t.1≠[]/\∀x∈t.1,aN x (-999999999) 999999999=true
def yA{f:Int×List (List Int×Int)}(h:bO f=true):tu f:=by
 simp only[bO,Bool.and_eq_true,decide_eq_true_eq,gB]at h;obtain⟨h1,h2,h3⟩:=h;have ht:=sR _ _ _ h3;refine⟨gB.2 (by omega),h2,λt m=>?_⟩;obtain⟨he,hc⟩:=ht t m;simp only[iv,Bool.and_eq_true,gB]at hc;simp only[gA,Bool.and_eq_true,decide_eq_true_eq]at he;refine⟨gB.2 (by omega),λe=>?_,λx hx=>?_⟩;·rw[e]at he;simp at he;omega
 ·have:=gB.1 (List.all_eq_true.1 he.2 x hx);exact gB.2 (by omega)
def yB{f:Int×List (List Int×Int)}(h:¬ f.2.length=0):¬ bD (aS (cK f)) jB=true:=λhe=>by
 have e:=congrArg (λb:ByteArray=>b.data.toList) (de.1 he);have e:cK f=[48]:=by simpa[aS,jB]using e
 have hm:(58:UInt8)∈cK f:=by
  unfold cK;rw[if_neg h];cases hq:f.2 with
  |nil=>rw[hq]at h;exact absurd rfl h
  |cons t ts =>unfold bU;rw[hq,List.map_cons,Lib.join_cons];refine List.mem_append_left _ ?_;unfold ck;simp
 rw[e]at hm;simp at hm
def yC{n:Int}(h:aN n (-999999999) 999999999=true):bI (aU n)=([n],true):=by
 have:=(s9 _).trans (mo (row:=[n]) (by simp) λm hm=>by rw[List.mem_singleton.1 hm];exact h);have e:bc [n]=aU n:=by unfold bc aY aU;rw[List.map_cons,List.map_nil,Lib.join_one]
 rwa [e]at this
def yE:∀(ts:List (List Int×Int)) (out:List (List Int×Int)),(∀t∈ts,aN t.2 (-999999999) 999999999=true/\t.1≠[]/\∀x∈t.1,aN x (-999999999) 999999999=true)->f9 (ts.map λt=>aK (ck t)) out=some (out++ts)
 |[],out,_=>by rw[List.map_nil,f9,List.append_nil]
 |t::ts,out,h=>by
  obtain⟨h1,h2,h3⟩:=h t (List.mem_cons_self ..);have hc:b7 (aK (ck t)) ⟨#[58]⟩=(aU t.2,bc t.1,true):=by
   unfold b7;have:ck t=Lib.itoa t.2++58::aY t.1:=by simp[ck]
   rw[fY,this,show(⟨#[58]⟩:ByteArray).data.toList=[58]from rfl,yy _ _ (kK (by decide) (by decide))];rfl
  rw[List.map_cons,f9,hc,if_pos rfl,yC h1,if_pos rfl,(s9 _).trans (mo h2 h3),if_pos rfl,if_pos (show(([t.2],true):List Int×Bool).1.length=1 from rfl),yE ts _ λx hx=>h x (List.mem_cons_of_mem _ hx)];simp
def yF{f:Int×List (List Int×Int)}(h:¬ f.2.length=0):bU f≠[]:=λe=>by have:=congrArg List.length e;rw[fZ]at this;exact h this
def yG{f:Int×List (List Int×Int)}:∀x∈bU f,∀b∈x,b≠(44:UInt8):=λx hx=>by obtain⟨t,_,rfl⟩:=List.mem_map.1 hx;exact yq (by decide) (by decide) (by decide) (by decide)
def F5{f:Int×List (List Int×Int)}(h:tu f):mv (aS (cK f))=some f.2:=by
 unfold mv;by_cases h0:f.2.length=0;·have:cK f=[48]:=if_pos h0;rw[this,if_pos (de.2 (show aS [48]=jB from rfl)),List.length_eq_zero_iff.1 h0]
 ·rw[if_neg (yB h0)];have hr:cK f=Lib.join (bU f) [44,32]:=if_neg h0;rw[hr];have:=FX (c:=44) (yF h0) yG;show f9 (Lib.splitB ⟨#[44,32]⟩ 0 (Lib.countB (aK (Lib.join (bU f) [44,32])) ⟨#[44,32]⟩) (aK (Lib.join (bU f) [44,32]))) []=_;rw[this,bU,List.map_map];exact yE f.2 [] h.t
def yH{f:Int×List (List Int×Int)}(h:bO f=true):ga (cd f)=(f,true):=by
 have hr:=yA h;have hc:b7 (cd f) ⟨#[124]⟩=(aU f.1,aS (cK f),true):=by unfold b7;rw[tq,show(⟨#[124]⟩:ByteArray).data.toList=[124]from rfl,yy _ _ (kK (by decide) (by decide))];rfl
 unfold ga;rw[hc,if_pos rfl,yC hr.v,if_pos rfl,if_pos (show(([f.1],true):List Int×Bool).1.length=1 from rfl),F5 hr];show gF (cd f) f=_;unfold gF;rw[if_pos h,if_pos h,if_pos (de.2 rfl)]
def F7{α:Type}(out:List α)(x:α)(h:out.length<3000000):Nat.blt (out.length+[x].length) 1099511627776=true:=by refine Nat.ble_eq_true_of_le ?_;rw[List.length_singleton];omega
def yI{m:Nat}(h:0<m):aI 0 m=true:=bh (j:=0) h
def yJ(l:List UInt8):(aS l).size=l.length:=by simp[aS,ByteArray.size]
def yK(s sep:ByteArray):(b7 s sep).1.size<=s.size/\(b7 s sep).2.1.size<=s.size:=by
 have hs:=Lib.size_eq s;have e1:(b7 s sep).1.size=(Lib.cut s.data.toList sep.data.toList).1.length:=yJ _;have e2:(b7 s sep).2.1.size=(Lib.cut s.data.toList sep.data.toList).2.1.length:=yJ _;rw[e1,e2];unfold Lib.cut;by_cases h:0<=Lib.index s.data.toList sep.data.toList
 ·rw[if_pos h];constructor;·show(List.take _ _).length<=_;rw[List.length_take];omega
  ·show(List.drop _ _).length<=_;rw[List.length_drop];omega
 ·rw[if_neg h];constructor;·show s.data.toList.length<=_;omega
  ·show([]:List UInt8).length<=_;rw[List.length_nil];omega
def yL(c:UInt8):∀(fuel:Nat) (l:List UInt8),2*Lib.countFrom [c,32] fuel l<=l.length
 |0,l=>by simp[Lib.countFrom]
 |fuel+1,l=>by
  rw[Lib.countFrom];by_cases h:(Lib.index l [c,32] == -1)=true;·rw[if_pos h];omega
  ·rw[if_neg h];have hge:=Lib.index_ge l [c,32];have hne:Lib.index l [c,32]≠-1:=λe=>h (beq_iff_eq.2 e);have hr:=Lib.index_room l [c,32] (by omega);have h2:([c,32]:List UInt8).length=2:=rfl;rw[h2]at hr ⊢;have ih:=yL c fuel (l.drop ((Lib.index l [c,32]).toNat+2));rw[List.length_drop]at ih;omega
def F8(c:UInt8)(s:ByteArray):2*(Lib.splitB ⟨#[c,32]⟩ 0 (Lib.countB s ⟨#[c,32]⟩) s).length<=s.size+2/\∀w∈Lib.splitB ⟨#[c,32]⟩ 0 (Lib.countB s ⟨#[c,32]⟩) s,w.size<=s.size:=by
 refine⟨?_,tn _ _ _⟩;have h1:=Lib.splitB_length_le ⟨#[c,32]⟩ 0 (Lib.countB s ⟨#[c,32]⟩) s;have h2:2*Lib.countB s ⟨#[c,32]⟩<=s.size:=by rw[Lib.size_eq];exact yL c _ _
 omega
end Go.Fw
set_option linter.defProp false
set_option linter.unusedSectionVars false
set_option maxRecDepth 100000
namespace Go.Fw
section
variable {J : Type}
namespace gN
def g(b:List Int):Bool:=decide (1048576<(b.length:Int))
def Z0{J:Type}(N:Nat)(a:List Int)(kr:Bool->Option J):Option J :=
 kr (lk N (decide (1048576<(a.length:Int))))
def Spec:Prop:=∀ (v0:List Int),Ty.bd (.sl 0 (.int .u8)) v0->∃N0,∀N,N0<=N->Z0 N v0 (λv2=>some ((),(v2,())))=some ((),((g v0),()))
def ok:Spec:=λb hb=>⟨0,λN hN=>by simp only[Z0,aM,g]⟩
end gN
namespace bL
def o9(h x:Int):Int:=du .and .i64 (af (af (af (h*131)+af x)+7)) 1073741823
def g(b:List Int):Int×Int:=(0,(b.take 4000).foldl o9 (af (124929+(b.length:Int))))
def Z1{J:Type}(N:Nat)(a:List Int)(kn:List Int->Option J):Option J :=
 kn a
def Z3{J:Type}(N:Nat)(a:List Int)(kn:List Int->Int->Option J):Option J :=
 kn a (af (124929+(a.length:Int)))
def Z6{J:Type}(N:Nat)(a:List Int)(b:Int)(kn:List Int->I2 (Option J)):Option J :=
 kn a b 0
def Z9{J:Type}(N:Nat)(a:List Int)(c b:Int)(kn:List Int->I2 (Option J))(k0:List Int->Int->Option J):Option J :=
 cond (lk N (decide (b<(a.length:Int))))
 (
  cond (lk N (decide (b<4000)))
  (
   cond (lk N (aI b a.length)) (
    kn a (du .and .i64 (af ((af ((af (c*131))+(af ((a.getD b.toNat 0)))))+7)) 1073741823) (af (b+1))) none)
  (
   k0 a c))
 (
  k0 a c)
def Z8L{J:Type}(N:Nat)(k0:List Int->Int->Option J):Nat->List Int->Int->Int->Option J
 |0,_,_,_=>none
 |M+1,a,b,c=>Z9 N a b c (λa b c=>Z8L N k0 M a b c) k0
def Z8 N a b c k0:=(Z8L N k0 N a b c:Option J)
def Z7 N a b c kn:=(Z8 N a b c kn:Option J)
def Z5 N a b kn:=(Z6 N a b (λa b c=>Z7 N a b c kn):Option J)
def Z10{J:Type}(N:Nat)(a:List Int)(b:Int)(kr:List Int->I2 (Option J)):Option J :=
 kr a 0 b
def Z4 N a b kr:=(Z5 N a b (λa b=>Z10 N a b kr):Option J)
def Z2 N a kr:=(Z3 N a (λa b=>Z4 N a b kr):Option J)
def Z0 N a kr:=(Z1 N a (λa=>Z2 N a kr):Option J)
def Spec:Prop:=∀{U:Type} (u:U) (v0:List Int),Ty.bd (.sl 0 (.int .u8)) v0->∃N0,∀N,N0<=N->Z0 N v0 (λv31_0 v31_1 v31_2=>some (u,(v31_1,v31_2)))=some (u,(g v0))
def loop{J:Type}{N:Nat}(b:List Int)(k0:List Int->Int->Option J):∀(M i:Nat) (h:Int),i<=(b.take 4000).length->(b.take 4000).length-i<M ->
  Z8L N k0 M b h (i:Int)=k0 b (((b.take 4000).drop i).foldl o9 h):=by
 intro M;induction M with
 |zero=>intro i h _ hM;omega
 |succ M ih =>
  intro i h hi hM;have hL:(b.take 4000).length=min 4000 b.length:=List.length_take;simp only[Z8L,Z9];by_cases hl:i<(b.take 4000).length
  ·have hlt:i<b.length:=by omega
   have hge:(b.take 4000).getD i 0=b.getD i 0:=by rw[List.getD_eq_getElem?_getD,List.getD_eq_getElem?_getD,List.getElem?_take,if_pos (by omega)]
   rw[ct (dt (by omega)),ct (dt (by omega)),ct (bh hlt),Int.toNat_natCast,dA (l:=b.take 4000) 0 hl,hge,cI (by rw[cR];omega)];exact ih (i+1) _ hl (by omega)
  ·rw[List.drop_of_length_le (by omega)];by_cases hlt:i<b.length;·rw[ct (dt (by omega)),cf (df (by omega))];rfl
   ·rw[cf (df (by omega))];rfl
def ok:Spec:=λu b hb=>⟨5000,λN hN=>by simp only[Z0,Z1,Z2,Z3,Z4,Z5,Z6,Z7,Z8];refine(loop b _ N 0 _ (Nat.zero_le _) (by rw[List.length_take];omega)).trans ?_;rw[List.drop_zero];rfl⟩
end bL
namespace aC
def P(b:List Int)(r:Int×Int):Bool:=bn b r
def iC(h:Int):Int:=af (af (h*6364136223846793005)+1442695040888963407)
def pc(h:Int):Int:=du .and .i64 (du .xor .i64 (Int.fdiv h (2 ^ (min (33:Int).toNat (IntKind.bits .i64)))) (Int.fdiv h (2 ^ (min (45:Int).toNat (IntKind.bits .i64))))) 255
def g(b:List Int)(r:Int×Int):(Int×Int)×Int :=
 if r.1<(b.length:Int)then((r.1+1,iC r.2),du .and .i64 (af (pc (iC r.2)+af (b.getD r.1.toNat 0))) 255)else((r.1,iC r.2),pc (iC r.2))
def Z0{J:Type}(N:Nat)(b0:List Int)(r0:Int×Int)(kr:Int->List Int->I2 (Option J)):Option J :=
 cond (lk N (decide (0<=(33:Int)))) (
  cond (lk N (decide (0<=(45:Int)))) (
   cond (lk N (decide (r0.1<(b0.length:Int))))
   (
    cond (lk N (aI r0.1 b0.length)) (
     kr (du .and .i64 (af ((du .and .i64 (du .xor .i64 (Int.fdiv (af ((af (r0.2*6364136223846793005))+1442695040888963407)) (2 ^ (min (33:Int).toNat (IntKind.bits .i64)))) (Int.fdiv (af ((af (r0.2*6364136223846793005))+1442695040888963407)) (2 ^ (min (45:Int).toNat (IntKind.bits .i64))))) 255)+(af ((b0.getD r0.1.toNat 0))))) 255) b0 (af (r0.1+1)) (af ((af (r0.2*6364136223846793005))+1442695040888963407))) none)
   (
    kr (du .and .i64 (du .xor .i64 (Int.fdiv (af ((af (r0.2*6364136223846793005))+1442695040888963407)) (2 ^ (min (33:Int).toNat (IntKind.bits .i64)))) (Int.fdiv (af ((af (r0.2*6364136223846793005))+1442695040888963407)) (2 ^ (min (45:Int).toNat (IntKind.bits .i64))))) 255) b0 r0.1 (af ((af (r0.2*6364136223846793005))+1442695040888963407)))) none) none
def Spec:Prop:=∀{U:Type} (u:U) (b0:List Int) (r0:Int×Int),Ty.bd (.sl 0 (.int .u8)) b0->P b0 r0=true->∃N0,∀N,N0<=N->Z0 N b0 r0 (λv2 w0_0 w0_1 w0_2=>some (u,((w0_1,w0_2),((),(v2,())))))=some (u,((g b0 r0).1,((),((g b0 r0).2,()))))
def keep{b:List Int}{r:Int×Int}(h:bn b r=true):bn b (g b r).1=true:=by rw[oQ]at h ⊢;unfold g;split<;>simp only<;>omega
def range(b:List Int)(r:Int×Int):0<=(g b r).2/\(g b r).2<=255:=by
 unfold g;split;·exact xq _ 255 255 rfl (by omega)
 ·exact xq _ 255 255 rfl (by omega)
def ok:Spec:=λu b r hb hp=>⟨0,λN hN=>by
 have h:=oQ.1 hp;simp only[Z0];rw[ct (dt (by omega)),ct (dt (by omega))];by_cases hl:r.1<(b.length:Int)
 ·obtain⟨i,hi⟩:=Int.eq_ofNat_of_zero_le h.1;have e1:g b r=((r.1+1,iC r.2),du .and .i64 (af (pc (iC r.2)+af (b.getD r.1.toNat 0))) 255):=if_pos hl;have e2:af (r.1+1)=r.1+1:=by have:=h.2.2;rw[cR]at this;exact cO (by omega) (by omega)
  rw[ct (dt hl),ct (by rw[hi];exact bh (by omega)),e1,e2];rfl
 ·have e1:g b r=((r.1,iC r.2),pc (iC r.2)):=if_neg hl;rw[cf (df hl),e1];rfl⟩
end aC
namespace aB
def P(b:List Int)(r:Int×Int)(n:Int):Bool:=bn b r
def yM(b:List Int)(r:Int×Int)(n:Int):(Int×Int)×Int :=
 ((aC.g b (aC.g b (aC.g b (aC.g b r).1).1).1).1,
  Int.tmod (af (af (af (af ((aC.g b r).2*16777216)+af ((aC.g b (aC.g b r).1).2*65536))+af ((aC.g b (aC.g b (aC.g b r).1).1).2*256))+(aC.g b (aC.g b (aC.g b (aC.g b r).1).1).1).2)) n)
def g(b:List Int)(r:Int×Int)(n:Int):(Int×Int)×Int :=
 if n<=0 then(r,0)else if n<=256 then((aC.g b r).1,Int.tmod (aC.g b r).2 n)else yM b r n
def Z0{J:Type}(N:Nat)(b0:List Int)(r0:Int×Int)(a:Int)(kr:Int->List Int->I2 (Option J)):Option J :=
 cond (lk N (decide (a<=0)))
 (
  kr 0 b0 r0.1 r0.2)
 (
  cond (lk N (decide (a<=256)))
  (
   cond (lk N (aC.P b0 r0)) (
    cond (lk N (!(decide (a=0)))) (
     kr (Int.tmod (aC.g b0 r0).2 a) b0 (aC.g b0 r0).1.1 (aC.g b0 r0).1.2) none) none)
  (
   cond (lk N (aC.P b0 r0)) (
    cond (lk N (aC.P b0 (aC.g b0 r0).1)) (
     cond (lk N (aC.P b0 (aC.g b0 (aC.g b0 r0).1).1)) (
      cond (lk N (aC.P b0 (aC.g b0 (aC.g b0 (aC.g b0 r0).1).1).1)) (
       cond (lk N (!(decide (a=0)))) (
        kr (Int.tmod (af ((af ((af ((af ((aC.g b0 r0).2*16777216))+(af ((aC.g b0 (aC.g b0 r0).1).2*65536))))+(af ((aC.g b0 (aC.g b0 (aC.g b0 r0).1).1).2*256))))+(aC.g b0 (aC.g b0 (aC.g b0 (aC.g b0 r0).1).1).1).2)) a) b0 (aC.g b0 (aC.g b0 (aC.g b0 (aC.g b0 r0).1).1).1).1.1 (aC.g b0 (aC.g b0 (aC.g b0 (aC.g b0 r0).1).1).1).1.2) none) none) none) none) none))
def Spec:Prop:=∀{U:Type} (u:U) (b0:List Int) (r0:Int×Int) (v1:Int),Ty.bd (.sl 0 (.int .u8)) b0->P b0 r0 v1=true->∃N0,∀N,N0<=N->Z0 N b0 r0 v1 (λv4 w0_0 w0_1 w0_2=>some (u,((w0_1,w0_2),((),(v4,())))))=some (u,((g b0 r0 v1).1,((),((g b0 r0 v1).2,()))))
def keep{b:List Int}{r:Int×Int}{n:Int}(h:bn b r=true):bn b (g b r n).1=true:=by
 unfold g;split;·exact h
 ·split;·exact aC.keep h
  ·exact aC.keep (aC.keep (aC.keep (aC.keep h)))
def range{b:List Int}{r:Int×Int}{n:Int}(h1:1<=n)(h2:n<=256):0<=(g b r n).2/\(g b r n).2<n:=by have h:=aC.range b r;unfold g;rw[if_neg (by omega),if_pos h2];exact⟨Int.tmod_nonneg _ h.1,Int.tmod_lt_of_pos _ (by omega)⟩
def ok:Spec:=λu b r n hb hp=>⟨0,λN hN=>by
 have k1:=aC.keep hp;have k2:=aC.keep k1;have k3:=aC.keep k2;have p0:aC.P b r=true:=hp;have p1:aC.P b (aC.g b r).1=true:=k1;have p2:aC.P b (aC.g b (aC.g b r).1).1=true:=k2;have p3:aC.P b (aC.g b (aC.g b (aC.g b r).1).1).1=true:=k3;simp only[Z0];by_cases h1:n<=0;·rw[ct (dt h1),show g b r n=(r,0)from if_pos h1]
 ·rw[cf (df h1)];have hz:(!(decide (n=0)))=true:=by rw[df (by omega)];rfl
  by_cases h2:n<=256;·rw[ct (dt h2),show g b r n=((aC.g b r).1,Int.tmod (aC.g b r).2 n)from(if_neg h1).trans (if_pos h2)];simp only[aM,p0,hz,cond_true]
  ·rw[cf (df h2),show g b r n=yM b r n from(if_neg h1).trans (if_neg h2)];simp only[aM,p0,p1,p2,p3,hz,cond_true];rfl⟩
end aB
namespace bH
def P(b:List Int)(r:Int×Int)(vars:Int):Bool:=bn b r&&aN vars 0 100
def stepK(b:List Int)(s:(Int×Int)×List Int):(Int×Int)×List Int:=((aB.g b s.1 5).1,s.2++[af ((aB.g b s.1 5).2-2)])
def stepsK(b:List Int):Nat->(Int×Int)×List Int->(Int×Int)×List Int
 |0,s=>s
 |c+1,s=>stepsK b c (stepK b s)
def g(b:List Int)(r:Int×Int)(vars:Int):(Int×Int)×List Int:=stepsK b vars.toNat (r,[])
def Z1{J:Type}(N:Nat)(b0:List Int)(r0:Int×Int)(a:Int)(kn:Int->List Int->I2 (Option J)):Option J :=
 kn a b0 r0.1 r0.2
def Z3{J:Type}(N:Nat)(a:Int)(b:List Int)(c d:Int)(kn:LI->Int->List Int->I2 (Option J)):Option J :=
 kn ([]:List Int) a b c d
def Z6{J:Type}(N:Nat)(a:LI)(b:Int)(c:List Int)(d e:Int)(kn:LI->I2 (List Int->I2 (Option J))):Option J :=
 kn a b 0 c d e
def Z9{J:Type}(N:Nat)(d:LI)(e f:Int)(a:List Int)(b c:Int)(kn:LI->I2 (List Int->I2 (Option J)))(k0:LI->List Int->I2 (Option J)):Option J :=
 cond (lk N (decide (f<e)))
 (
  cond (lk N (aB.P a (b,c) 5)) (
   cond (lk N (Nat.blt (d.length+([(af ((aB.g a (b,c) 5).2-2))]:List Int).length) 1099511627776)) (
    kn (d++([(af ((aB.g a (b,c) 5).2-2))]:List Int)) e (af (f+1)) a (aB.g a (b,c) 5).1.1 (aB.g a (b,c) 5).1.2) none) none)
 (
  k0 d a b c)
def Z8L{J:Type}(N:Nat)(k0:LI->List Int->I2 (Option J)):Nat->LI->Int->Int->List Int->Int->Int->Option J
 |0,_,_,_,_,_,_=>none
 |M+1,a,b,c,d,e,f=>Z9 N a b c d e f (λa b c d e f=>Z8L N k0 M a b c d e f) k0
def Z8 N a b c d e f k0:=(Z8L N k0 N a b c d e f:Option J)
def Z7 N a b c d e f kn:=(Z8 N a b c d e f kn:Option J)
def Z5 N a b c d e kn:=(Z6 N a b c d e (λa b f c d e=>Z7 N a b f c d e kn):Option J)
def Z10{J:Type}(N:Nat)(a:LI)(b:List Int)(c d:Int)(kr:LI->List Int->I2 (Option J)):Option J :=
 kr a b c d
def Z4 N a e b c d kr:=(Z5 N a e b c d (λa b c d=>Z10 N a b c d kr):Option J)
def Z2 N a b c d kr:=(Z3 N a b c d (λe a b c d=>Z4 N e a b c d kr):Option J)
def Z0 N b0 r0 a kr:=(Z1 N b0 r0 a (λa b c d=>Z2 N a b c d kr):Option J)
def Spec:Prop:=∀{U:Type} (u:U) (b0:List Int) (r0:Int×Int) (v1:Int),Ty.bd (.sl 0 (.int .u8)) b0->P b0 r0 v1=true->∃N0,∀N,N0<=N->Z0 N b0 r0 v1 (λv4 w0_0 w0_1 w0_2=>some (u,((w0_1,w0_2),((),(v4,())))))=some (u,((g b0 r0 v1).1,((),((g b0 r0 v1).2,()))))
def keeps{b:List Int}:∀(c:Nat) {s:(Int×Int)×List Int},bn b s.1=true->bn b (stepsK b c s).1=true
 |0,_,h=>h
 |c+1,s,h=>keeps c (s:=stepK b s) (aB.keep h)
def keep{b:List Int}{r:Int×Int}{vars:Int}(h:bn b r=true):bn b (g b r vars).1=true:=keeps _ h
def loop{J:Type}{N:Nat}{b:List Int}(k0:List Int->List Int->Int->Int->Option J){c:Nat}(hc:c<=100):∀(M i:Nat) (s:(Int×Int)×List Int),i<=c->bn b s.1=true->s.2.length+(c-i)<=1000->c-i<M ->
  Z8L N k0 M s.2 (c:Int) (i:Int) b s.1.1 s.1.2=k0 (stepsK b (c-i) s).2 b (stepsK b (c-i) s).1.1 (stepsK b (c-i) s).1.2:=by
 intro M;induction M with
 |zero=>intro i s _ _ _ h;omega
 |succ M ih =>
  intro i s hi hs hl hM;simp only[Z8L,Z9];by_cases h:i<c;·have es:((s.1.1,s.1.2):Int×Int)=s.1:=rfl;have hP:aB.P b s.1 5=true:=hs;have w1:af ((i:Int)+1)=((i+1:Nat):Int):=cI (by rw[cR];omega);have c1:Nat.blt (s.2.length+([af ((aB.g b s.1 5).2-2)]:List Int).length) 1099511627776=true:=Nat.ble_eq_true_of_le (by rw[List.length_singleton];omega);rw[ct (dt (by omega)),es,ct hP,ct c1,w1,show c-i=(c-(i+1))+1 by omega];exact ih (i+1) (stepK b s) h (aB.keep hs) (by simp[stepK];omega) (by omega)
  ·rw[cf (df (by omega)),show c-i=0 by omega];rfl
def ok:Spec:=λu b r vars hb hp=>⟨200,λN hN=>by simp only[P,Bool.and_eq_true,d8]at hp;obtain⟨h,hm⟩:=hp;obtain⟨c,rfl⟩:=Int.eq_ofNat_of_zero_le hm.1;simp only[Z1,Z3,Z6,Z9,Z8,Z7,Z5,Z10,Z4,Z2,Z0];refine(loop (λo b a c=>some (u,((a,c),((),(o,()))))) (c:=c) (by omega) N 0 (r,[]) (Nat.zero_le _) h (by simp;omega) (by omega)).trans ?_;rfl⟩
end bH
namespace cY
def stepK(k x:Int):Int:=af (af (af (k*128)+x)+64)
def g(l:List Int):Int:=l.foldl stepK 0
def Z1{J:Type}(N:Nat)(a:LI)(kn:LI->Option J):Option J :=
 kn a
def Z3{J:Type}(N:Nat)(a:LI)(kn:LI->Int->Option J):Option J :=
 kn a 0
def Z6{J:Type}(N:Nat)(a:LI)(b:Int)(kn:LI->I2 (Option J)):Option J :=
 kn a b 0
def Z9{J:Type}(N:Nat)(a:LI)(c b:Int)(kn:LI->I2 (Option J))(k0:Int->Option J):Option J :=
 cond (lk N (decide (b<(a.length:Int))))
 (
  cond (lk N (aI b a.length)) (
   kn a (af ((af ((af (c*128))+(a.getD b.toNat 0)))+64)) (af (b+1))) none)
 (
  k0 c)
def Z8L{J:Type}(N:Nat)(k0:Int->Option J):Nat->LI->Int->Int->Option J
 |0,_,_,_=>none
 |M+1,a,b,c=>Z9 N a b c (λa b c=>Z8L N k0 M a b c) k0
def Z8 N a b c k0:=(Z8L N k0 N a b c:Option J)
def Z7 N a b c kn:=(Z8 N a b c kn:Option J)
def Z5 N a b kn:=(Z6 N a b (λa b c=>Z7 N a b c kn):Option J)
def Z10{J:Type}(N:Nat)(a:Int)(kr:Int->Option J):Option J :=
 kr a
def Z4 N b a kr:=(Z5 N b a (λa=>Z10 N a kr):Option J)
def Z2 N a kr:=(Z3 N a (λa b=>Z4 N a b kr):Option J)
def Z0 N a kr:=(Z1 N a (λa=>Z2 N a kr):Option J)
def Spec:Prop:=∀ (v0:LI),Ty.bd (.sl 0 (.int .i64)) v0->∃N0,∀N,N0<=N->Z0 N v0 (λv2=>some ((),(v2,())))=some ((),((g v0),()))
def loop{J:Type}{N:Nat}(k0:Int->Option J){l:List Int}(hl:l.length<=maxLen):∀(M i:Nat) (k:Int),i<=l.length->l.length-i<M ->
  Z8L N k0 M l k (i:Int)=k0 ((l.drop i).foldl stepK k):=by
 intro M;induction M with
 |zero=>intro i k _ h;omega
 |succ M ih =>
  intro i k hi hM;simp only[Z8L,Z9];by_cases h:i<l.length;·rw[ct (dt (by omega)),ct (bh h),Int.toNat_natCast,cI (by omega),dA 0 h,List.foldl_cons];exact ih (i+1) _ h (by omega)
  ·rw[cf (df (by omega)),List.drop_of_length_le (by omega)];rfl
def ok:Spec:=λl hb=>⟨l.length+1,λN hN=>by simp only[Z1,Z3,Z6,Z9,Z8,Z7,Z5,Z10,Z4,Z2,Z0];refine(loop (λk=>some ((),(k,()))) hb.1 N 0 0 (Nat.zero_le _) (by omega)).trans ?_;rw[List.drop_zero];rfl⟩
end cY
namespace aF
def P(l:List (Int×Int)):Bool:=decide (l.length<=100)
abbrev el(l:List (Int×Int))(i:Nat):Int×Int:=l.getD i (0,0)
def gb:Nat->List (Int×Int)->Nat->Nat->Nat->Nat->List (Int×Int)->List (Int×Int)
 |0,_,_,_,_,_,nx=>nx
 |f+1,out,i,mid,j,e,nx =>
  if i<mid\/j<e then
   (if e<=j\/(i<mid/\(el out j).1<=(el out i).1)then gb f out (i+1) mid j e (nx++[el out i])
   else gb f out i mid (j+1) e (nx++[el out j]))
  else nx
def iD:Nat->List (Int×Int)->Nat->Nat->List (Int×Int)->List (Int×Int)
 |0,_,_,_,nx=>nx
 |f+1,out,sz,at_,nx =>if at_<out.length then iD f out sz (at_+2*sz) (gb 300 out at_ (min (at_+sz) out.length) (min (at_+sz) out.length) (min (at_+2*sz) out.length) nx)else nx
def iE:Nat->List (Int×Int)->Nat->List (Int×Int)
 |0,out,_=>out
 |f+1,out,sz=>if sz<out.length then iE f (iD 200 out sz 0 []) (sz*2)else out
def gG(out left:List (Int×Int))(k:Nat):List (Int×Int) :=
 if 0<left.length/\(el left (left.length-1)).1=(el out k).1 then left.set (left.length-1) ((el left (left.length-1)).1,af ((el left (left.length-1)).2+(el out k).2))else left++[el out k]
def mw(out left:List (Int×Int))(k:Nat):List (Int×Int) :=
 if(k+1=out.length\/¬ (el out (k+1)).1=(el out k).1)/\(el left (left.length-1)).2=0 then left.take (left.length-1)else left
def iF:Nat->List (Int×Int)->List (Int×Int)->Nat->List (Int×Int)
 |0,_,left,_=>left
 |f+1,out,left,k=>if k<out.length then iF f out (mw out (gG out left k) k) (k+1)else left
def g(l:List (Int×Int)):List (Int×Int):=iF 200 (iE 200 l 1) [] 0
def Z1{J:Type}(N:Nat)(a:List (Int×Int))(kn:(List (Int×Int))->Option J):Option J :=
 kn a
def Z3{J:Type}(N:Nat)(a:List (Int×Int))(kn:(List (Int×Int))->Option J):Option J :=
 cond (lk N (Nat.blt (([]:List (Int×Int)).length+a.length) 1099511627776)) (
  kn (([]:List (Int×Int))++a)) none
def Z6{J:Type}(N:Nat)(a:List (Int×Int))(kn:(List (Int×Int))->Int->Option J):Option J :=
 kn a 1
def Z10{J:Type}(N:Nat)(a:List (Int×Int))(b:Int)(kn:(List (Int×Int))->Int->Option J)(k0:(List (Int×Int))->Option J):Option J :=
 cond (lk N (decide (b<(a.length:Int))))
 (
  kn a b)
 (
  k0 a)
def Z14{J:Type}(N:Nat)(a:List (Int×Int))(b:Int)(kn:(List (Int×Int))->(List (Int×Int))->Int->Option J):Option J :=
 cond (lk N (be 0 (a.length:Int)&&decide ((a.length:Int)<1099511627776))) (
  kn a ([]:List (Int×Int)) b) none
def Z17{J:Type}(N:Nat)(a b:List (Int×Int))(c:Int)(kn:(List (Int×Int))->(List (Int×Int))->I2 (Option J)):Option J :=
 kn a b c 0
def Z21{J:Type}(N:Nat)(a b:List (Int×Int))(c d:Int)(kn:(List (Int×Int))->(List (Int×Int))->I2 (Option J))(k2:(List (Int×Int))->Int->Option J):Option J :=
 cond (lk N (decide (d<(a.length:Int))))
 (
  kn a b c d)
 (
  k2 b c)
def Z25{J:Type}(N:Nat)(b c:List (Int×Int))(d a:Int)(kn:(List (Int×Int))->(List (Int×Int))->I3 (Option J)):Option J :=
 kn b c d a a
def Z27{J:Type}(N:Nat)(a d:List (Int×Int))(b c e:Int)(kn:(List (Int×Int))->(List (Int×Int))->I4 (Option J)):Option J :=
 kn a d b c e (mn (af (c+b)) (a.length:Int))
def Z29{J:Type}(N:Nat)(b c:List (Int×Int))(d e f a:Int)(kn:(List (Int×Int))->(List (Int×Int))->I5 (Option J)):Option J :=
 kn b c d e f a a
def Z31{J:Type}(N:Nat)(a d:List (Int×Int))(b c e f g:Int)(kn:(List (Int×Int))->(List (Int×Int))->I6 (Option J)):Option J :=
 kn a d b c e f g (mn (af (c+(af (2*b)))) (a.length:Int))
def Z34{J:Type}(N:Nat)(a d:List (Int×Int))(g h b e c f:Int)(kn:(List (Int×Int))->(List (Int×Int))->I6 (Option J))(k4:(List (Int×Int))->(List (Int×Int))->I2 (Option J)):Option J :=
 let x1_:=(
   cond (lk N (aI b a.length)) (
   cond (lk N (Nat.blt (d.length+([(a.getD b.toNat (0,0))]:List (Int×Int)).length) 1099511627776)) (
   kn a (d++([(a.getD b.toNat (0,0))]:List (Int×Int))) g h (af (b+1)) e c f) none) none)
 let x2_:=(
   cond (lk N (aI c a.length)) (
   cond (lk N (Nat.blt (d.length+([(a.getD c.toNat (0,0))]:List (Int×Int)).length) 1099511627776)) (
   kn a (d++([(a.getD c.toNat (0,0))]:List (Int×Int))) g h b e (af (c+1)) f) none) none)
 let x0_:=(
   cond (lk N (decide (f<=c)))
   x1_
   (
   cond (lk N (decide (b<e)))
   (
   cond (lk N (aI b a.length)) (
   cond (lk N (aI c a.length)) (
   cond (lk N (decide ((a.getD c.toNat (0,0)).1<=(a.getD b.toNat (0,0)).1)))
   x1_
   x2_) none) none)
   x2_))
 cond (lk N (decide (b<e)))
 x0_
 (
 cond (lk N (decide (c<f)))
 x0_
 (
 k4 a d g h))
def Z33L{J:Type}(N:Nat)(k4:(List (Int×Int))->(List (Int×Int))->I2 (Option J)):Nat->(List (Int×Int))->(List (Int×Int))->Int->Int->Int->Int->Int->Int->Option J
 |0,_,_,_,_,_,_,_,_=>none
 |M+1,a,b,c,d,e,f,g,h=>Z34 N a b c d e f g h (λa b c d e f g h=>Z33L N k4 M a b c d e f g h) k4
def yN N a b c d e f g h k4:=(Z33L N k4 N a b c d e f g h:Option J)
def Z32 N a b c d e f g h kn:=(yN N a b c d e f g h kn:Option J)
def yO N a b c d e f g kn:=(Z31 N a b c d e f g (λa b c d e f g h=>Z32 N a b c d e f g h kn):Option J)
def yP N a b c d e f kn:=(Z29 N a b c d e f (λa b c d e f g=>yO N a b c d e f g kn):Option J)
def yQ N a b c d e kn:=(Z27 N a b c d e (λa b c d e f=>yP N a b c d e f kn):Option J)
def yR N a b c d kn:=(Z25 N a b c d (λa b c d e=>yQ N a b c d e kn):Option J)
def Z23 N a b c d kn:=(yR N a b c d kn:Option J)
def Z35{J:Type}(N:Nat)(b c:List (Int×Int))(a d:Int)(kn:(List (Int×Int))->(List (Int×Int))->I2 (Option J)):Option J :=
 kn b c a (af (d+(af (2*a))))
def Z22 N a b c d kn:=(Z23 N a b c d (λa b c d=>Z35 N a b c d kn):Option J)
def Z20 N a b c d kn k2:=(Z21 N a b c d (λa b c d=>Z22 N a b c d kn) k2:Option J)
def Z19L{J:Type}(N:Nat)(k2:(List (Int×Int))->Int->Option J):Nat->(List (Int×Int))->(List (Int×Int))->Int->Int->Option J
 |0,_,_,_,_=>none
 |M+1,a,b,c,d=>Z20 N a b c d (λa b c d=>Z19L N k2 M a b c d) k2
def Z19 N a b c d k2:=(Z19L N k2 N a b c d:Option J)
def Z18 N a b c d kn:=(Z19 N a b c d kn:Option J)
def Z16 N a b c kn:=(Z17 N a b c (λa b c d=>Z18 N a b c d kn):Option J)
def Z36{J:Type}(N:Nat)(a:List (Int×Int))(b:Int)(kn:(List (Int×Int))->Int->Option J):Option J :=
 kn a b
def Z15 N c a b kn:=(Z16 N c a b (λa b=>Z36 N a b kn):Option J)
def Z13 N a b kn:=(Z14 N a b (λa c b=>Z15 N a c b kn):Option J)
def Z12 N a b kn:=(Z13 N a b kn:Option J)
def Z37{J:Type}(N:Nat)(a:List (Int×Int))(b:Int)(kn:(List (Int×Int))->Int->Option J):Option J :=
 kn a (af (b*2))
def Z11 N a b kn:=(Z12 N a b (λa b=>Z37 N a b kn):Option J)
def Z9 N a b kn k0:=(Z10 N a b (λa b=>Z11 N a b kn) k0:Option J)
def Z8L{J:Type}(N:Nat)(k0:(List (Int×Int))->Option J):Nat->(List (Int×Int))->Int->Option J
 |0,_,_=>none
 |M+1,a,b=>Z9 N a b (λa b=>Z8L N k0 M a b) k0
def Z8 N a b k0:=(Z8L N k0 N a b:Option J)
def Z7 N a b kn:=(Z8 N a b kn:Option J)
def Z5 N a kn:=(Z6 N a (λa b=>Z7 N a b kn):Option J)
def Z39{J:Type}(N:Nat)(a:List (Int×Int))(kn:(List (Int×Int))->(List (Int×Int))->Option J):Option J :=
 kn a ([]:List (Int×Int))
def Z42{J:Type}(N:Nat)(a b:List (Int×Int))(kn:(List (Int×Int))->(List (Int×Int))->Int->Option J):Option J :=
 kn a b 0
def Z46{J:Type}(N:Nat)(a b:List (Int×Int))(c:Int)(kn:(List (Int×Int))->(List (Int×Int))->Int->Option J)(k6:(List (Int×Int))->Option J):Option J :=
 cond (lk N (decide (c<(a.length:Int))))
 (
  kn a b c)
 (
  k6 b)
def Z50{J:Type}(N:Nat)(b a:List (Int×Int))(c:Int)(kn:(List (Int×Int))->(List (Int×Int))->Int->Option J):Option J :=
 cond (lk N (decide (0<(a.length:Int))))
 (
  cond (lk N (aI (af ((a.length:Int)-1)) a.length)) (
   cond (lk N (aI c b.length)) (
    cond (lk N (decide ((a.getD (af ((a.length:Int)-1)).toNat (0,0)).1=(b.getD c.toNat (0,0)).1)))
    (
     cond (lk N (aI (af ((a.length:Int)-1)) a.length)) (
      cond (lk N (aI c b.length)) (
       cond (lk N (aI (af ((a.length:Int)-1)) a.length)) (
        kn b (a.set (af ((a.length:Int)-1)).toNat ((a.getD (af ((a.length:Int)-1)).toNat (0,0)).1,(af ((a.getD (af ((a.length:Int)-1)).toNat (0,0)).2+(b.getD c.toNat (0,0)).2)))) c) none) none) none)
    (
     cond (lk N (aI c b.length)) (
      cond (lk N (Nat.blt (a.length+([(b.getD c.toNat (0,0))]:List (Int×Int)).length) 1099511627776)) (
       kn b (a++([(b.getD c.toNat (0,0))]:List (Int×Int))) c) none) none)) none) none)
 (
  cond (lk N (aI c b.length)) (
   cond (lk N (Nat.blt (a.length+([(b.getD c.toNat (0,0))]:List (Int×Int)).length) 1099511627776)) (
    kn b (a++([(b.getD c.toNat (0,0))]:List (Int×Int))) c) none) none)
def Z51{J:Type}(N:Nat)(b a:List (Int×Int))(c:Int)(kn:(List (Int×Int))->(List (Int×Int))->Int->Option J):Option J :=
 cond (lk N (decide ((af (c+1))=(b.length:Int))))
 (
  cond (lk N (aI (af ((a.length:Int)-1)) a.length)) (
   cond (lk N (decide ((a.getD (af ((a.length:Int)-1)).toNat (0,0)).2=0)))
   (
    cond (lk N (be 0 (af ((a.length:Int)-1))&&be (af ((a.length:Int)-1)) a.length)) (
     kn b (a.take (af ((a.length:Int)-1)).toNat) c) none)
   (
    kn b a c)) none)
 (
  cond (lk N (aI (af (c+1)) b.length)) (
   cond (lk N (aI c b.length)) (
    cond (lk N (!(decide ((b.getD (af (c+1)).toNat (0,0)).1=(b.getD c.toNat (0,0)).1))))
    (
     cond (lk N (aI (af ((a.length:Int)-1)) a.length)) (
      cond (lk N (decide ((a.getD (af ((a.length:Int)-1)).toNat (0,0)).2=0)))
      (
       cond (lk N (be 0 (af ((a.length:Int)-1))&&be (af ((a.length:Int)-1)) a.length)) (
        kn b (a.take (af ((a.length:Int)-1)).toNat) c) none)
      (
       kn b a c)) none)
    (
     kn b a c)) none) none)
def yS N a b c kn:=(Z50 N a b c (λa b c=>Z51 N a b c kn):Option J)
def Z48 N a b c kn:=(yS N a b c kn:Option J)
def Z52{J:Type}(N:Nat)(a b:List (Int×Int))(c:Int)(kn:(List (Int×Int))->(List (Int×Int))->Int->Option J):Option J :=
 kn a b (af (c+1))
def yT N a b c kn:=(Z48 N a b c (λa b c=>Z52 N a b c kn):Option J)
def Z45 N a b c kn k6:=(Z46 N a b c (λa b c=>yT N a b c kn) k6:Option J)
def Z44L{J:Type}(N:Nat)(k6:(List (Int×Int))->Option J):Nat->(List (Int×Int))->(List (Int×Int))->Int->Option J
 |0,_,_,_=>none
 |M+1,a,b,c=>Z45 N a b c (λa b c=>Z44L N k6 M a b c) k6
def yU N a b c k6:=(Z44L N k6 N a b c:Option J)
def Z43 N a b c kn:=(yU N a b c kn:Option J)
def Z41 N a b kn:=(Z42 N a b (λa b c=>Z43 N a b c kn):Option J)
def Z53{J:Type}(N:Nat)(a:List (Int×Int))(kr:(List (Int×Int))->Option J):Option J :=
 kr a
def yV N b a kr:=(Z41 N b a (λa=>Z53 N a kr):Option J)
def yW N a kr:=(Z39 N a (λa b=>yV N a b kr):Option J)
def Z4 N a kr:=(Z5 N a (λa=>yW N a kr):Option J)
def Z2 N a kr:=(Z3 N a (λb=>Z4 N b kr):Option J)
def Z0 N a kr:=(Z1 N a (λa=>Z2 N a kr):Option J)
def Spec:Prop:=∀ (v0:List (Int×Int)),Ty.bd (.sl 0 (.pair (.int .i64) (.int .i64))) v0->P v0=true->∃N0,∀N,N0<=N->Z0 N v0 (λv2=>some ((),(v2,())))=some ((),((g v0),()))
def pf{out:List (Int×Int)}{mid e:Nat}:∀(f i j:Nat) (nx:List (Int×Int)),i<=mid->j<=e->(mid-i)+(e-j)<=f->(gb f out i mid j e nx).length=nx.length+((mid-i)+(e-j))
 |0,i,j,nx,h1,h2,h3=>by rw[gb];omega
 |f+1,i,j,nx,h1,h2,h3=>by
  rw[gb];by_cases h:i<mid\/j<e
  ·rw[if_pos h];by_cases c:e<=j\/(i<mid/\(el out j).1<=(el out i).1);·rw[if_pos c,pf f (i+1) j _ (by omega) h2 (by omega),List.length_append,List.length_singleton];omega
   ·rw[if_neg c,pf f i (j+1) _ h1 (by omega) (by omega),List.length_append,List.length_singleton];omega
  ·rw[if_neg h];omega
def tv{out:List (Int×Int)}{sz:Nat}(hsz:1<=sz)(hn:out.length<=100):∀(f at_:Nat) (nx:List (Int×Int)),out.length-at_<=f->(iD f out sz at_ nx).length=nx.length+(out.length-at_)
 |0,at_,nx,h=>by rw[iD];omega
 |f+1,at_,nx,h=>by
  rw[iD];by_cases c:at_<out.length;·rw[if_pos c,tv hsz hn f _ _ (by omega),pf 300 _ _ _ (by omega) (by omega) (by omega)];omega
  ·rw[if_neg c];omega
def F9{J:Type}{N:Nat}(k4:List (Int×Int)->List (Int×Int)->Int->Int->Option J){out:List (Int×Int)}{sz at_:Int}{mid e:Nat}(hm:mid<=out.length)(he:e<=out.length)(hn:out.length<=100):∀(M f i j:Nat) (nx:List (Int×Int)),i<=mid->j<=e->nx.length+((mid-i)+(e-j))<=1000->(mid-i)+(e-j)<=f->(mid-i)+(e-j)<M ->
  Z33L N k4 M out nx sz at_ (i:Int) (mid:Int) (j:Int) (e:Int)=k4 out (gb f out i mid j e nx) sz at_:=by
 intro M;induction M with
 |zero=>intro f i j nx _ _ _ _ h;omega
 |succ M ih =>
  intro f i j nx h1 h2 h3 h4 h5;have w1:af ((i:Int)+1)=((i+1:Nat):Int):=cI (by rw[cR];omega);have w2:af ((j:Int)+1)=((j+1:Nat):Int):=cI (by rw[cR];omega);simp only[Z33L,Z34,aM];have bl:∀x:Int×Int,(i<mid\/j<e)->Nat.blt (nx.length+([x]:List (Int×Int)).length) 1099511627776=true:=λx _=>Nat.ble_eq_true_of_le (by rw[List.length_singleton];omega);cases f with
  |zero =>rw[df (show ¬ (i:Int)<(mid:Int) by omega),df (show ¬ (j:Int)<(e:Int) by omega)];rfl
  |succ f =>
   have eV:i<mid->Z33L N k4 M out (nx++[out.getD i (0,0)]) sz at_ ((i+1:Nat):Int) mid j e=k4 out (gb f out (i+1) mid j e (nx++[el out i])) sz at_:=λh=>ih f (i+1) j _ (by omega) h2 (by rw[List.length_append,List.length_singleton];omega) (by omega) (by omega);have goJ:j<e->Z33L N k4 M out (nx++[out.getD j (0,0)]) sz at_ i mid ((j+1:Nat):Int) e=k4 out (gb f out i mid (j+1) e (nx++[el out j])) sz at_:=λh=>ih f i (j+1) _ h1 (by omega) (by rw[List.length_append,List.length_singleton];omega) (by omega) (by omega);rw[gb];by_cases ci:i<mid
   ·have b1:aI (i:Int) out.length=true:=bh (by omega);have z1:decide ((i:Int)<(mid:Int))=true:=dt (by omega);rw[if_pos (.inl ci)];by_cases cj:e<=j;·have z2:decide ((e:Int)<=(j:Int))=true:=dt (by omega);rw[if_pos (.inl cj)];simp only[z1,z2,b1,bl _ (.inl ci),cond_true,Int.toNat_natCast,w1];exact eV ci
    ·have z2:decide ((e:Int)<=(j:Int))=false:=df (by omega);have b2:aI (j:Int) out.length=true:=bh (by omega);by_cases cc:(el out j).1<=(el out i).1;·have z3:decide ((out.getD j (0,0)).1<=(out.getD i (0,0)).1)=true:=dt cc;rw[if_pos (.inr ⟨ci,cc⟩)];simp only[z1,z2,b1,b2,bl _ (.inl ci),cond_true,cond_false,Int.toNat_natCast,z3,w1];exact eV ci
     ·have z3:decide ((out.getD j (0,0)).1<=(out.getD i (0,0)).1)=false:=df cc;rw[if_neg (by rintro (h|h);exact cj h;exact cc h.2)];simp only[z1,z2,b1,b2,bl _ (.inl ci),cond_true,cond_false,Int.toNat_natCast,z3,w2];exact goJ (by omega)
   ·have z1:decide ((i:Int)<(mid:Int))=false:=df (by omega);by_cases cj:j<e;·have z2:decide ((j:Int)<(e:Int))=true:=dt (by omega);have z3:decide ((e:Int)<=(j:Int))=false:=df (by omega);have b2:aI (j:Int) out.length=true:=bh (by omega);rw[if_pos (.inr cj),if_neg (by rintro (h|h);omega;exact ci h.1)];simp only[z1,z2,z3,b2,bl _ (.inr cj),cond_true,cond_false,Int.toNat_natCast,w2];exact goJ cj
    ·have z2:decide ((j:Int)<(e:Int))=false:=df (by omega);rw[if_neg (by omega),z1,z2];rfl
def Ga(a b:Nat):mn (a:Int) (b:Int)=((min a b:Nat):Int):=by unfold mn;split<;>omega
def Gb{J:Type}{N:Nat}(k2:List (Int×Int)->Int->Option J){out:List (Int×Int)}{sz:Nat}(h1:1<=sz)(h2:sz<=200)(hn:out.length<=100)(hN:300<=N):∀(M f at_:Nat) (nx:List (Int×Int)),at_<=1000->nx.length+(out.length-at_)<=200->out.length-at_<=f->out.length-at_<M ->
  Z19L N k2 M out nx (sz:Int) (at_:Int)=k2 (iD f out sz at_ nx) (sz:Int):=by
 intro M;induction M with
 |zero=>intro f at_ nx _ _ _ h;omega
 |succ M ih =>
  intro f at_ nx h3 h4 h5 h6;simp only[Z19L,Z20,Z21,aM];by_cases c:at_<out.length
  ·cases f with
   |zero=>omega
   |succ f =>
    have a1:af ((at_:Int)+(sz:Int))=((at_+sz:Nat):Int):=by rw[cO (by omega) (by omega)];omega
    have a2:af (2*(sz:Int))=((2*sz:Nat):Int):=by rw[cO (by omega) (by omega)];omega
    have a3:af ((at_:Int)+((2*sz:Nat):Int))=((at_+2*sz:Nat):Int):=by rw[cO (by omega) (by omega)];omega
    rw[dt (show(at_:Int)<(out.length:Int) by omega),cond_true,iD,if_pos c];simp only[Z22,Z23,yR,Z25,yQ,Z27,yP,Z29,yO,Z31,Z32,yN,a1,a2,a3,Ga];refine(F9 _ (by omega) (by omega) hn N 300 _ _ nx (by omega) (by omega) (by omega) (by omega) (by omega)).trans ?_;simp only[Z35,a2,a3];exact ih f (at_+2*sz) _ (by omega) (by rw[pf 300 _ _ _ (by omega) (by omega) (by omega)];omega) (by omega) (by omega)
  ·rw[df (show ¬ (at_:Int)<(out.length:Int) by omega),cond_false];cases f with
   |zero=>rfl
   |succ f=>rw[iD,if_neg c]
def tx:∀(f:Nat) (out:List (Int×Int)) (sz:Nat),1<=sz->out.length<=100->(iE f out sz).length=out.length
 |0,_,_,_,_=>rfl
 |f+1,out,sz,h,hn=>by
  rw[iE];have e:=tv (out:=out) h hn 200 0 [] (by omega);rw[List.length_nil]at e;split;·rw[tx f _ _ (by omega) (by omega)];omega
  ·rfl
def Gc{J:Type}{N:Nat}(k0:List (Int×Int)->Option J)(hN:300<=N):∀(M f sz:Nat) (out:List (Int×Int)),1<=sz->sz<=400->out.length<=100->out.length-sz<=f->out.length-sz<M ->
  Z8L N k0 M out (sz:Int)=k0 (iE f out sz):=by
 intro M;induction M with
 |zero=>intro f sz out _ _ _ _ h;omega
 |succ M ih =>
  intro f sz out h1 h2 hn h3 h4;simp only[Z8L,Z9,Z10,aM];by_cases c:sz<out.length
  ·cases f with
   |zero=>omega
   |succ f =>
    have e:=tv (out:=out) h1 hn 200 0 [] (by omega);rw[List.length_nil]at e;have c1:(be 0 (out.length:Int)&&decide ((out.length:Int)<1099511627776))=true:=by rw[dt (show(out.length:Int)<1099511627776 by omega)];simp[be]
    have a1:af ((sz:Int)*2)=((sz*2:Nat):Int):=by rw[cO (by omega) (by omega)];omega
    rw[dt (show(sz:Int)<(out.length:Int) by omega),cond_true,iE,if_pos c];simp only[Z11,Z12,Z13,Z14,aM,c1,cond_true,Z15,Z16,Z17,Z18,Z19];refine(Gb _ h1 (by omega) hn hN N 200 0 [] (by omega) (by simp;omega) (by omega) (by omega)).trans ?_;simp only[Z36,Z37,a1];exact ih f (sz*2) _ (by omega) (by omega) (by omega) (by omega) (by omega)
  ·rw[df (show ¬ (sz:Int)<(out.length:Int) by omega),cond_false];cases f with
   |zero=>rfl
   |succ f=>rw[iE,if_neg c]
def join_len(out left:List (Int×Int))(k:Nat):0<(gG out left k).length/\(gG out left k).length<=left.length+1:=by
 unfold gG;split;·rw[List.length_set];omega
 ·rw[List.length_append,List.length_singleton];omega
def yX(out left:List (Int×Int))(k:Nat):(mw out left k).length<=left.length:=by
 unfold mw;split;·rw[List.length_take];omega
 ·omega
def Gd{J:Type}{N:Nat}(kn:List (Int×Int)->List (Int×Int)->Int->Option J){out left:List (Int×Int)}{k:Nat}(hk:k<out.length)(hl:left.length<=1000):Z50 N out left (k:Int) kn=kn out (gG out left k) (k:Int):=by
 have b1:aI (k:Int) out.length=true:=bh hk;have c1:∀x:Int×Int,Nat.blt (left.length+([x]:List (Int×Int)).length) 1099511627776=true:=λx=>Nat.ble_eq_true_of_le (by rw[List.length_singleton];omega);simp only[Z50,aM,b1,c1,cond_true,Int.toNat_natCast];unfold gG;by_cases h0:0<left.length
 ·have e1:af ((left.length:Int)-1)=((left.length-1:Nat):Int):=by rw[cO (by omega) (by omega)];omega
  have b2:aI ((left.length-1:Nat):Int) left.length=true:=bh (by omega);rw[dt (show(0:Int)<(left.length:Int) by omega),e1,b2];simp only[cond_true,Int.toNat_natCast];by_cases hc:(el left (left.length-1)).1=(el out k).1;·rw[dt hc,if_pos ⟨h0,hc⟩];rfl
  ·rw[df hc,if_neg (λh=>hc h.2)];rfl
 ·rw[df (show ¬ (0:Int)<(left.length:Int) by omega),if_neg (λh=>h0 h.1)];rfl
def Ge{J:Type}{N:Nat}(kn:List (Int×Int)->List (Int×Int)->Int->Option J){out left:List (Int×Int)}{k:Nat}(hk:k<out.length)(hn:out.length<=100)(hl:left.length<=1000)(h0:0<left.length):Z51 N out left (k:Int) kn=kn out (mw out left k) (k:Int):=by
 have b1:aI (k:Int) out.length=true:=bh hk;have e1:af ((left.length:Int)-1)=((left.length-1:Nat):Int):=by rw[cO (by omega) (by omega)];omega
 have e2:af ((k:Int)+1)=((k+1:Nat):Int):=cI (by rw[cR];omega);have b2:aI ((left.length-1:Nat):Int) left.length=true:=bh (by omega);have b3:(be 0 ((left.length-1:Nat):Int)&&be ((left.length-1:Nat):Int) left.length)=true:=by simp[be]
 simp only[Z51,aM,e1,e2,b1,b2,b3,cond_true,Int.toNat_natCast];unfold mw;by_cases hz:(el left (left.length-1)).2=0
 ·rw[dt hz];by_cases hc:k+1=out.length;·rw[dt (show((k+1:Nat):Int)=(out.length:Int) by omega),if_pos ⟨.inl hc,hz⟩];rfl
  ·have b4:aI ((k+1:Nat):Int) out.length=true:=bh (by omega);rw[df (show ¬ ((k+1:Nat):Int)=(out.length:Int) by omega),b4];by_cases hd:(el out (k+1)).1=(el out k).1;·rw[dt hd,if_neg (by rintro ⟨h|h,_⟩;exact hc h;exact h hd)];rfl
   ·rw[df hd,if_pos ⟨.inr hd,hz⟩];rfl
 ·rw[df hz,if_neg (λh=>hz h.2)];by_cases hc:k+1=out.length;·rw[dt (show((k+1:Nat):Int)=(out.length:Int) by omega)];rfl
  ·have b4:aI ((k+1:Nat):Int) out.length=true:=bh (by omega);rw[df (show ¬ ((k+1:Nat):Int)=(out.length:Int) by omega),b4];cases decide ((out.getD (k+1) (0,0)).1=(out.getD k (0,0)).1)<;>rfl
def Gf{J:Type}{N:Nat}(k6:List (Int×Int)->Option J){out:List (Int×Int)}(hn:out.length<=100):∀(M f k:Nat) (left:List (Int×Int)),k<=out.length->left.length<=k->out.length-k<=f->out.length-k<M ->
  Z44L N k6 M out left (k:Int)=k6 (iF f out left k):=by
 intro M;induction M with
 |zero=>intro f k left _ _ _ h;omega
 |succ M ih =>
  intro f k left h1 h2 h3 h4;simp only[Z44L,Z45,Z46,aM];by_cases c:k<out.length
  ·cases f with
   |zero=>omega
   |succ f =>have j1:=join_len out left k;have j2:=yX out (gG out left k) k;have e2:af ((k:Int)+1)=((k+1:Nat):Int):=cI (by rw[cR];omega);rw[dt (show(k:Int)<(out.length:Int) by omega),cond_true,iF,if_pos c];simp only[yT,Z48,yS,Gd _ c (show left.length<=1000 by omega),Ge _ c hn (show(gG out left k).length<=1000 by omega) j1.1,Z52,e2];exact ih f (k+1) _ c (by omega) (by omega) (by omega)
  ·rw[df (show ¬ (k:Int)<(out.length:Int) by omega),cond_false];cases f with
   |zero=>rfl
   |succ f=>rw[iF,if_neg c]
def ok:Spec:=λl hb hp=>⟨400,λN hN=>by have hl:l.length<=100:=of_decide_eq_true hp;have c1:Nat.blt (([]:List (Int×Int)).length+l.length) 1099511627776=true:=Nat.ble_eq_true_of_le (by rw[List.length_nil];omega);have hs:=tx 200 l 1 (Nat.le_refl _) hl;simp only[Z0,Z1,Z2,Z3,aM,c1,cond_true,Z4,Z5,Z6,Z7,Z8,List.nil_append];refine(Gc _ (by omega) N 200 1 l (Nat.le_refl _) (by omega) hl (by omega) (by omega)).trans ?_;simp only[yW,Z39,yV,Z41,Z42,Z43,yU];refine(Gf _ (by omega) N 200 0 [] (Nat.zero_le _) (Nat.le_refl _) (by omega) (by omega)).trans ?_;rfl⟩
def yY{out:List (Int×Int)}:∀(f k:Nat) (left:List (Int×Int)),k<=out.length->left.length<=k->(iF f out left k).length<=out.length
 |0,k,left,h1,h2=>by rw[iF];omega
 |f+1,k,left,h1,h2=>by
  rw[iF];split;·have j1:=join_len out left k;have j2:=yX out (gG out left k) k;exact yY f (k+1) _ (by omega) (by omega)
  ·omega
def len{l:List (Int×Int)}(h:l.length<=100):(g l).length<=l.length:=by have hs:=tx 200 l 1 (Nat.le_refl _) h;have:=yY (out:=iE 200 l 1) 200 0 [] (Nat.zero_le _) (Nat.le_refl _);unfold g;omega
end aF
namespace cB
def P(_ vars:Int):Bool:=aN vars 0 100
def fill:Nat->Int->List Int->List Int
 |0,_,out=>out
 |i+1,key,out=>fill i (af (Int.tdiv key 128)) (out.set i (af (Int.tmod key 128-64)))
def g(key vars:Int):List Int:=fill vars.toNat key (List.replicate vars.toNat 0)
def Z1{J:Type}(N:Nat)(a b:Int)(kn:I2 (Option J)):Option J :=
 kn a b
def Z3{J:Type}(N:Nat)(b a:Int)(kn:LI->I2 (Option J)):Option J :=
 cond (lk N (be 0 a&&decide (a<1099511627776))) (
  kn (List.replicate a.toNat (0:Int)) b a) none
def Z6{J:Type}(N:Nat)(a:LI)(b c:Int)(kn:LI->I2 (Option J)):Option J :=
 kn a b (af (c-1))
def Z9{J:Type}(N:Nat)(b:LI)(c a:Int)(kn:LI->I2 (Option J))(k0:LI->Option J):Option J :=
 cond (lk N (decide (0<=a)))
 (
  cond (lk N (true)) (
   cond (lk N (aI a b.length)) (
    cond (lk N (true)) (
     kn (b.set a.toNat (af ((Int.tmod c 128)-64))) (af (Int.tdiv c 128)) (af (a-1))) none) none) none)
 (
  k0 b)
def Z8L{J:Type}(N:Nat)(k0:LI->Option J):Nat->LI->Int->Int->Option J
 |0,_,_,_=>none
 |M+1,a,b,c=>Z9 N a b c (λa b c=>Z8L N k0 M a b c) k0
def Z8 N a b c k0:=(Z8L N k0 N a b c:Option J)
def Z7 N a b c kn:=(Z8 N a b c kn:Option J)
def Z5 N a b c kn:=(Z6 N a b c (λa b d=>Z7 N a b d kn):Option J)
def Z10{J:Type}(N:Nat)(a:LI)(kr:LI->Option J):Option J :=
 kr a
def Z4 N a b c kr:=(Z5 N a b c (λa=>Z10 N a kr):Option J)
def Z2 N a b kr:=(Z3 N a b (λc a b=>Z4 N c a b kr):Option J)
def Z0 N a b kr:=(Z1 N a b (λa b=>Z2 N a b kr):Option J)
def Spec:Prop:=∀ (v0 v1:Int),P v0 v1=true->∃N0,∀N,N0<=N->Z0 N v0 v1 (λv4=>some ((),(v4,())))=some ((),((g v0 v1),()))
def yZ:∀(n:Nat) (key:Int) (out:List Int),(fill n key out).length=out.length
 |0,_,_=>rfl
 |i+1,key,out=>by rw[fill,yZ i,List.length_set]
def len{key vars:Int}:(g key vars).length=vars.toNat:=by unfold g;rw[yZ,List.length_replicate]
def loop{J:Type}{N:Nat}(k0:List Int->Option J):∀(M i:Nat) (key:Int) (out:List Int),i<=out.length->i<=100->i<M ->
  Z8L N k0 M out key ((i:Int)-1)=k0 (fill i key out):=by
 intro M;induction M with
 |zero=>intro i _ _ _ _ h;omega
 |succ M ih =>
  intro i key out ho hi hM;simp only[Z8L,Z9];cases i with
  |zero=>rw[cf (df (by omega))];rfl
  |succ i =>
   have e:((i+1:Nat):Int)-1=(i:Int):=by omega
   have b1:aI (i:Int) out.length=true:=bh (by omega);rw[e,ct (dt (by omega)),ct rfl,ct b1,ct rfl,Int.toNat_natCast,cO (n:=(i:Int)-1) (by omega) (by omega)];exact ih i _ _ (by rw[List.length_set];omega) (by omega) (by omega)
def ok:Spec:=λkey vars hp=>⟨200,λN hN=>by have hp:aN vars 0 100=true:=hp;rw[d8]at hp;obtain⟨n,rfl⟩:=Int.eq_ofNat_of_zero_le hp.1;simp only[Z0,Z1,Z2,Z3];rw[ct (by simp[be];omega)];simp only[Z4,Z5,Z6,Z7,Z8];rw[cO (n:=(n:Int)-1) (by omega) (by omega)];refine(loop (λo=>Z10 N o λt4=>some ((),(t4,()))) N n key _ (by simp) (by omega) (by omega)).trans ?_;simp only[Z10,g,Int.toNat_natCast]⟩
end cB
namespace eW
def g(n low high:Int):Bool:=aN n low high
def Z0{J:Type}(N:Nat)(a b c:Int)(kr:Bool->Option J):Option J :=
 cond (lk N (decide (b<=a)))
 (
  kr (lk N (decide (a<=c))))
 (
  kr false)
def Spec:Prop:=∀ (v0 v1 v2:Int),∃N0,∀N,N0<=N->Z0 N v0 v1 v2 (λv6=>some ((),(v6,())))=some ((),((g v0 v1 v2),()))
def ok:Spec:=λn low high=>⟨0,λN hN=>by simp only[Z0,aM,g,aN];cases decide (low<=n)<;>rfl⟩
end eW
namespace dB
def g(a b:List Int):Bool:=fF a b
def Z1{J:Type}(N:Nat)(a b:LI)(kn:LI->LI->Option J):Option J :=
 kn a b
def Z4{J:Type}(N:Nat)(a b:LI)(kn:LI->LI->Int->Option J):Option J :=
 kn a b 0
def Z7{J:Type}(N:Nat)(b c:LI)(a:Int)(kn:LI->LI->Int->Option J)(k0:LI->LI->Option J)(kr:Bool->Option J):Option J :=
 cond (lk N (decide (a<(b.length:Int))))
 (
  cond (lk N (decide (a<(c.length:Int))))
  (
   cond (lk N (aI a b.length)) (
    cond (lk N (aI a c.length)) (
     cond (lk N (!(decide ((b.getD a.toNat 0)=(c.getD a.toNat 0)))))
     (
      cond (lk N (aI a b.length)) (
       cond (lk N (aI a c.length)) (
        kr (lk N (decide ((b.getD a.toNat 0)<(c.getD a.toNat 0))))) none) none)
     (
      kn b c (af (a+1)))) none) none)
  (
   k0 b c))
 (
  k0 b c)
def Z6L{J:Type}(N:Nat)(k0:LI->LI->Option J)(kr:Bool->Option J):Nat->LI->LI->Int->Option J
 |0,_,_,_=>none
 |M+1,a,b,c=>Z7 N a b c (λa b c=>Z6L N k0 kr M a b c) k0 kr
def Z6 N a b c k0 kr:=(Z6L N k0 kr N a b c:Option J)
def Z5 N a b c kn kr:=(Z6 N a b c kn kr:Option J)
def Z3 N a b kn kr:=(Z4 N a b (λa b c=>Z5 N a b c kn kr):Option J)
def Z8{J:Type}(N:Nat)(a b:LI)(kr:Bool->Option J):Option J :=
 kr (lk N (decide ((a.length:Int)<(b.length:Int))))
def Z2 N a b kr:=(Z3 N a b (λa b=>Z8 N a b kr) kr:Option J)
def Z0 N a b kr:=(Z1 N a b (λa b=>Z2 N a b kr):Option J)
def Spec:Prop:=∀ (v0 v1:LI),Ty.bd (.sl 0 (.int .i64)) v0->Ty.bd (.sl 0 (.int .i64)) v1->∃N0,∀N,N0<=N->Z0 N v0 v1 (λv4=>some ((),(v4,())))=some ((),((g v0 v1),()))
def loop{J:Type}(N:Nat)(k0:List Int->List Int->Option J)(kr:Bool->Option J)(a b:List Int)(ha:a.length<=maxLen)(h0:k0 a b=kr (decide (a.length<b.length))):∀(M j:Nat),j<=a.length->j<=b.length->a.length-j<M ->
  Z6L N k0 kr M a b (j:Int)=kr (fF (a.drop j) (b.drop j)):=by
 intro M;induction M with
 |zero=>intro j _ _ h;omega
 |succ M ih =>
  intro j hj hb hM;simp only[Z6L,Z7];by_cases h:j<a.length
  ·rw[ct (dt (by omega)),dA 0 h];by_cases h2:j<b.length
   ·rw[ct (dt (by omega)),ct (bh h),ct (bh h2),Int.toNat_natCast,cI (by omega),dA (l:=b) 0 h2,fF,ih (j+1) h h2 (by omega)];by_cases e:a.getD j 0=b.getD j 0;·rw[cf (nf e),if_pos e]
    ·rw[ct (nt e),if_neg e,ct (bh h),ct (bh h2),aM]
   ·rw[cf (df (by omega)),List.drop_of_length_le (l:=b) (by omega),h0,df (by omega)];rfl
  ·rw[cf (df (by omega)),List.drop_of_length_le (by omega),h0];by_cases h2:j<b.length;·rw[dt (by omega),dA (l:=b) 0 h2];rfl
   ·rw[df (by omega),List.drop_of_length_le (l:=b) (by omega)];rfl
def ok:Spec:=λa b ha hb=>⟨a.length+1,λN hN=>by simp only[Z1,Z4,Z7,Z6,Z5,Z3,Z8,Z2,Z0];refine(loop N _ (λt=>some ((),(t,()))) a b ha.1 ?_ N 0 (by omega) (by omega) (by omega)).trans rfl;rw[aM,show decide ((a.length:Int)<(b.length:Int))=decide (a.length<b.length)from decide_eq_decide.2 (by omega)]⟩
end dB
namespace bz
def g(f:Int×List (List Int×Int)):Bool:=bO f
def Z1{J:Type}(N:Nat)(a:Int×List (LI×Int))(kn:Int->(List (LI×Int))->Option J):Option J :=
 kn a.1 a.2
def Z3{J:Type}(N:Nat)(a:Int)(b:List (LI×Int))(kn:Int->(List (LI×Int))->Option J)(kr:Bool->Option J):Option J :=
 cond (!(lk N ((eW.g a 1 8))))
 (
  kr false)
 (
  cond (lk N (decide (600<(b.length:Int))))
  (
   kr false)
  (
   kn a b))
def Z6{J:Type}(N:Nat)(a:Int)(b:List (LI×Int))(kn:I2 ((List (LI×Int))->Option J)):Option J :=
 kn 0 a b
def Z10{J:Type}(N:Nat)(a c:Int)(b:List (LI×Int))(kn:I2 ((List (LI×Int))->Option J))(k0:Option J):Option J :=
 cond (lk N (decide (a<(b.length:Int))))
 (
  kn a c b)
 (
  k0)
def Z14{J:Type}(N:Nat)(a c:Int)(b:List (LI×Int))(kn:I2 ((List (LI×Int))->LI->Int->Option J)):Option J :=
 cond (lk N (aI a b.length)) (
  kn a c b (b.getD a.toNat ([],0)).1 (b.getD a.toNat ([],0)).2) none
def Z16{J:Type}(N:Nat)(a e:Int)(b:List (LI×Int))(c:LI)(d:Int)(kn:I2 ((List (LI×Int))->LI->Int->Option J))(kr:Bool->Option J):Option J :=
 cond (lk N (!(decide ((c.length:Int)=e))))
 (
  kr false)
 (
  cond (lk N (decide (d=0)))
  (
   kr false)
  (
   cond (!(lk N ((eW.g d (-1000000) 1000000))))
   (
    kr false)
   (
    cond (lk N (decide (0<a)))
    (
     cond (lk N (aI (af (a-1)) b.length)) (
      cond (!(lk N ((dB.g c (b.getD (af (a-1)).toNat ([],0)).1))))
      (
       kr false)
      (
       kn a e b c d)) none)
    (
     kn a e b c d))))
def Z18{J:Type}(N:Nat)(a b:Int)(c:List (LI×Int))(d:LI)(e:Int)(kn:I3 ((List (LI×Int))->LI->Int->Option J)):Option J :=
 kn a 0 b c d e
def Z21{J:Type}(N:Nat)(d a b:Int)(e:List (LI×Int))(c:LI)(f:Int)(kn:I3 ((List (LI×Int))->LI->Int->Option J))(k2:I2 ((List (LI×Int))->Option J))(kr:Bool->Option J):Option J :=
 cond (lk N (decide (a<b)))
 (
  cond (lk N (aI a c.length)) (
   cond (!(lk N ((eW.g (c.getD a.toNat 0) (-20) 20))))
   (
    kr false)
   (
    kn d (af (a+1)) b e c f)) none)
 (
  k2 d b e)
def Z20L{J:Type}(N:Nat)(k2:I2 ((List (LI×Int))->Option J))(kr:Bool->Option J):Nat->Int->Int->Int->(List (LI×Int))->LI->Int->Option J
 |0,_,_,_,_,_,_=>none
 |M+1,a,b,c,d,e,f=>Z21 N a b c d e f (λa b c d e f=>Z20L N k2 kr M a b c d e f) k2 kr
def Z20 N a b c d e f k2 kr:=(Z20L N k2 kr N a b c d e f:Option J)
def Z19 N a b c d e f kn kr:=(Z20 N a b c d e f kn kr:Option J)
def Z17 N a b c d e kn kr:=(Z18 N a b c d e (λa f b c d e=>Z19 N a f b c d e kn kr):Option J)
def Z15 N a b c d e kn kr:=(Z16 N a b c d e (λa b c d e=>Z17 N a b c d e kn kr) kr:Option J)
def Z13 N a b c kn kr:=(Z14 N a b c (λa b c d e=>Z15 N a b c d e kn kr):Option J)
def Z12 N a b c kn kr:=(Z13 N a b c kn kr:Option J)
def Z22{J:Type}(N:Nat)(a b:Int)(c:List (LI×Int))(kn:I2 ((List (LI×Int))->Option J)):Option J :=
 kn (af (a+1)) b c
def Z11 N a b c kn kr:=(Z12 N a b c (λa b c=>Z22 N a b c kn) kr:Option J)
def Z9 N a b c kn k0 kr:=(Z10 N a b c (λa b c=>Z11 N a b c kn kr) k0:Option J)
def Z8L{J:Type}(N:Nat)(k0:Option J)(kr:Bool->Option J):Nat->Int->Int->(List (LI×Int))->Option J
 |0,_,_,_=>none
 |M+1,a,b,c=>Z9 N a b c (λa b c=>Z8L N k0 kr M a b c) k0 kr
def Z8 N a b c k0 kr:=(Z8L N k0 kr N a b c:Option J)
def Z7 N a b c kn kr:=(Z8 N a b c kn kr:Option J)
def Z5 N a b kn kr:=(Z6 N a b (λc a b=>Z7 N c a b kn kr):Option J)
def Z23{J:Type}(N:Nat) (kr:Bool->Option J):Option J :=
 kr true
def Z4 N a b kr:=(Z5 N a b (Z23 N kr) kr:Option J)
def Z2 N a b kr:=(Z3 N a b (λa b=>Z4 N a b kr) kr:Option J)
def Z0 N a kr:=(Z1 N a (λb c=>Z2 N b c kr):Option J)
def Spec:Prop:=∀ (v0:Int×List (LI×Int)),Ty.bd (.pair (.int .i64) (.sl 0 (.pair (.sl 0 (.int .i64)) (.int .i64)))) v0->∃N0,∀N,N0<=N->Z0 N v0 (λv2=>some ((),(v2,())))=some ((),((g v0),()))
def tz{J:Type}(N:Nat)(k2:Int->Int->List (List Int×Int)->Option J)(kr:Bool->Option J)(k v:Int)(l:List (List Int×Int))(e:List Int)(c:Int)(he:e.length<=maxLen)(hv:(e.length:Int)=v):∀(M j:Nat),j<=e.length->e.length-j<M ->
  Z20L N k2 kr M k (j:Int) v l e c=cond ((e.drop j).all λx=>aN x (-20) 20) (k2 k v l) (kr false):=by
 intro M;induction M with
 |zero=>intro j _ h;omega
 |succ M ih =>
  intro j hj hM;simp only[Z20L,Z21];by_cases h:j<e.length;·rw[ct (dt (by omega)),ct (bh h),Int.toNat_natCast,cI (by omega),dA 0 h,List.all_cons,ih (j+1) h (by omega)];simp only[aM,eW.g];cases aN (e.getD j 0) (-20) 20<;>rfl
  ·rw[cf (df (by omega)),List.drop_of_length_le (by omega)];rfl
def loop{J:Type}(N:Nat)(kr:Bool->Option J)(v:Int)(l:List (List Int×Int))(hl:l.length<=maxLen)(hv:aN v 1 8=true)(hN:10<=N):∀(M j:Nat),j<=l.length->l.length-j<M ->
  Z8L N (kr true) kr M (j:Int) v l=kr (fX v (l.drop j) (oP l j)):=by
 simp only[aN,Bool.and_eq_true,decide_eq_true_eq]at hv;intro M;induction M with
 |zero=>intro j _ h;omega
 |succ M ih =>
  intro j hj hM;simp only[Z8L,Z1,Z3,Z6,Z10,Z14,Z16,Z18,Z21,Z20,Z19,Z17,Z15,Z13,Z12,Z22,Z11,Z9,Z8,Z7,Z5,Z23,Z4,Z2,Z0];by_cases h:j<l.length
  ·rw[ct (dt (by omega)),ct (bh h),Int.toNat_natCast,dA ([],0) h,fX];by_cases hlen:((l.getD j ([],0)).1.length:Int)=v
   ·rw[cf (nf hlen)];have hin:=tz (J:=J) N (λk3 f1_0 f1_1=>Z8L N (kr true) kr M (af (k3+1)) f1_0 f1_1) kr j v l (l.getD j ([],0)).1 (l.getD j ([],0)).2 (by rw[cR];omega) hlen N 0 (by omega) (by omega);rw[List.drop_zero,cI (by omega),ih (j+1) h (by omega)]at hin;rw[show(((0:Nat):Int))=0 from rfl]at hin;simp only[aM,eW.g,gA,dt hlen,Bool.true_and,iv];rw[hin];generalize((l.getD j ([],0)).1.all λx=>aN x (-20) 20)=b1;cases hz:decide ((l.getD j ([],0)).2=0)with
    |true=>cases b1<;>rfl
    |false =>
     cases aN (l.getD j ([],0)).2 (-1000000) 1000000 with
     |false=>cases b1<;>rfl
     |true =>
      cases j with
      |zero=>cases b1<;>rfl
      |succ j =>rw[dt (show(0:Int)<((j+1:Nat):Int) by omega),show af (((j+1:Nat):Int)-1)=(j:Int) by rw[cO (by omega) (by rw[cR]at hl;omega)];omega,bh (by omega)];simp only[cond_true,Int.toNat_natCast,dB.g,oP,sN,Bool.not_true,cond_false,Bool.not_false,Bool.true_and];cases fF (l.getD (j+1) ([],0)).1 (l.getD j ([],0)).1<;>cases b1<;>rfl
   ·rw[ct (nt hlen),gA,df hlen];rfl
  ·rw[cf (df (by omega)),List.drop_of_length_le (by omega),fX]
def ok:Spec:=λf hb=>⟨f.2.length+10,λN hN=>by
 simp only[Z1,Z3,Z6,Z10,Z14,Z16,Z18,Z21,Z20,Z19,Z17,Z15,Z13,Z12,Z22,Z11,Z9,Z8,Z7,Z5,Z23,Z4,Z2,Z0,g,bO,eW.g];cases h1:aN f.1 1 8;·simp[aM]
 by_cases h2:(600:Int)<f.2.length;·rw[eT (by simp[aM]),ct (dt h2),df (by omega)];simp
 ·rw[eT (by simp[aM]),cf (df h2),dt (show f.2.length<=600 by omega)];exact(loop N (λt=>some ((),(t,()))) _ f.2 hb.2.1 h1 (by omega) N 0 (by omega) (by omega)).trans rfl⟩
end bz
namespace cg
def P(_:List (Int×Int))(vars:Int):Bool:=aN vars 0 100
def put(vars:Int)(q:Int×Int):List Int×Int:=(cB.g q.1 vars,q.2)
def g(l:List (Int×Int))(vars:Int):(Int×List (List Int×Int))×Bool :=
 if l.length<=600/\bz.g (vars,l.map (put vars))=true then((vars,l.map (put vars)),true)else((0,[]),false)
def Z1{J:Type}(N:Nat)(a:List (Int×Int))(b:Int)(kn:(List (Int×Int))->I2 (Option J)):Option J :=
 kn a b 0
def Z3{J:Type}(N:Nat)(a:List (Int×Int))(b c:Int)(kn:(List (Int×Int))->I2 (Option J))(kr:(List (LI×Int))->Bool->Int->Option J):Option J :=
 cond (lk N (decide (600<(a.length:Int))))
 (
  kr ([]:List (LI×Int)) false 0)
 (
  kn a b c)
def Z5{J:Type}(N:Nat)(b:List (Int×Int))(a c:Int)(kn:(List (LI×Int))->(List (Int×Int))->I3 (Option J)):Option J :=
 kn ([]:List (LI×Int)) b a c a
def Z8{J:Type}(N:Nat)(a:List (LI×Int))(b:List (Int×Int))(c d e:Int)(kn:(List (LI×Int))->(List (Int×Int))->I4 (Option J)):Option J :=
 kn a b c 0 d e
def Z11{J:Type}(N:Nat)(d:List (LI×Int))(a:List (Int×Int))(c b e f:Int)(kn:(List (LI×Int))->(List (Int×Int))->I4 (Option J))(k0:(List (LI×Int))->I2 (Option J)):Option J :=
 cond (lk N (decide (b<(a.length:Int))))
 (
  cond (lk N (aI b a.length)) (
   cond (lk N (aI b a.length)) (
    cond (lk N (cB.P (a.getD b.toNat (0,0)).1 c)) (
     cond (lk N (Nat.blt (d.length+([((cB.g (a.getD b.toNat (0,0)).1 c),(a.getD b.toNat (0,0)).2)]:List (LI×Int)).length) 1099511627776)) (
      kn (d++([((cB.g (a.getD b.toNat (0,0)).1 c),(a.getD b.toNat (0,0)).2)]:List (LI×Int))) a c (af (b+1)) e f) none) none) none) none)
 (
  k0 d e f)
def Z10L{J:Type}(N:Nat)(k0:(List (LI×Int))->I2 (Option J)):Nat->(List (LI×Int))->(List (Int×Int))->Int->Int->Int->Int->Option J
 |0,_,_,_,_,_,_=>none
 |M+1,a,b,c,d,e,f=>Z11 N a b c d e f (λa b c d e f=>Z10L N k0 M a b c d e f) k0
def Z10 N a b c d e f k0:=(Z10L N k0 N a b c d e f:Option J)
def Z9 N a b c d e f kn:=(Z10 N a b c d e f kn:Option J)
def Z7 N a b c d e kn:=(Z8 N a b c d e (λa b c f d e=>Z9 N a b c f d e kn):Option J)
def Z12{J:Type}(N:Nat)(a:List (LI×Int))(c b:Int)(kr:(List (LI×Int))->Bool->Int->Option J):Option J :=
 cond (!(lk N ((bz.g (b,a)))))
 (
  kr ([]:List (LI×Int)) false 0)
 (
  kr a true b)
def Z6 N a d e b c kr:=(Z7 N a d e b c (λa b c=>Z12 N a b c kr):Option J)
def Z4 N a b c kr:=(Z5 N a b c (λd a b c e=>Z6 N d a b c e kr):Option J)
def Z2 N a b c kr:=(Z3 N a b c (λa b c=>Z4 N a b c kr) kr:Option J)
def Z0 N a b kr:=(Z1 N a b (λa b c=>Z2 N a b c kr):Option J)
def Spec:Prop:=∀ (v0:List (Int×Int)) (v1:Int),Ty.bd (.sl 0 (.pair (.int .i64) (.int .i64))) v0->P v0 v1=true->∃N0,∀N,N0<=N->Z0 N v0 v1 (λv4_1 v5 v4_0=>some ((),((v4_0,v4_1),(v5,()))))=some ((),((g v0 v1).1,((g v0 v1).2,())))
def loop{J:Type}{N:Nat}(k0:List (List Int×Int)->Int->Int->Option J){l:List (Int×Int)}{vars a b:Int}(hv:aN vars 0 100=true)(hl:l.length<=600):∀(M i:Nat) (o:List (List Int×Int)),i<=l.length->l.length-i<M->o.length+(l.length-i)<=600 ->
  Z10L N k0 M o l vars (i:Int) a b=k0 (o++(l.drop i).map (put vars)) a b:=by
 intro M;induction M with
 |zero=>intro i _ _ h;omega
 |succ M ih =>
  intro i o hi hM ho;simp only[Z10L,Z11];by_cases h:i<l.length;·have c1:∀x:List Int×Int,Nat.blt (o.length+([x]:List (List Int×Int)).length) 1099511627776=true:=λx=>Nat.ble_eq_true_of_le (by rw[List.length_singleton];omega);have hP:∀k,cB.P k vars=true:=λk=>hv;have z1:decide ((i:Int)<(l.length:Int))=true:=dt (by omega);have hw:af ((i:Int)+1)=((i+1:Nat):Int):=cI (by rw[cR];omega);have nx:=ih (i+1) (o++[put vars (l.getD i (0,0))]) h (by omega) (by rw[List.length_append,List.length_singleton];omega);rw[dA (0,0) h,List.map_cons];simp only[aM,z1,bh h,Int.toNat_natCast,hP,c1,cond_true,hw];refine nx.trans ?_;rw[List.append_assoc];rfl
  ·rw[eT (by rw[aM];exact df (by omega)),List.drop_of_length_le (by omega)];simp
def ok:Spec:=λl vars hb hp=>⟨700,λN hN=>by
 have hv:aN vars 0 100=true:=hp;simp only[Z0,Z1,Z2,Z3,aM];unfold g;by_cases h:l.length<=600
 ·rw[df (show ¬ (600:Int)<(l.length:Int) by omega),cond_false];simp only[Z4,Z5,Z6,Z7,Z8,Z9,Z10];refine(loop _ hv h N 0 [] (Nat.zero_le _) (by omega) (by simp;omega)).trans ?_;rw[List.drop_zero,List.nil_append];simp only[Z12,aM];cases hr:bz.g (vars,l.map (put vars));·rw[if_neg (by simp)];rfl
  ·rw[if_pos ⟨h,rfl⟩];rfl
 ·rw[dt (show(600:Int)<(l.length:Int) by omega),cond_true,if_neg (λe=>h e.1)]⟩
end cg
namespace bR
def P(b:List Int)(r:Int×Int)(vars:Int):Bool:=bn b r&&aN vars 0 100
def stepK(b:List Int)(vars:Int)(s:(Int×Int)×List (Int×Int)):(Int×Int)×List (Int×Int) :=
 ((aB.g b (bH.g b s.1 vars).1 9).1,s.2++[(cY.g (bH.g b s.1 vars).2,af ((aB.g b (bH.g b s.1 vars).1 9).2-4))])
def stepsK(b:List Int)(vars:Int):Nat->(Int×Int)×List (Int×Int)->(Int×Int)×List (Int×Int)
 |0,s=>s
 |c+1,s=>stepsK b vars c (stepK b vars s)
def gH(b:List Int)(r:Int×Int)(vars:Int):(Int×Int)×List (Int×Int):=stepsK b vars (aB.g b r 5).2.toNat ((aB.g b r 5).1,[])
def g(b:List Int)(r:Int×Int)(vars:Int):(Int×Int)×(Int×List (List Int×Int)):=((gH b r vars).1,(cg.g (aF.g (gH b r vars).2) vars).1)
def Z1{J:Type}(N:Nat)(b0:List Int)(r0:Int×Int)(a:Int)(kn:Int->List Int->I3 (Option J)):Option J :=
 kn a b0 r0.1 r0.2 0
def Z3{J:Type}(N:Nat)(a:Int)(b:List Int)(c d e:Int)(kn:(List (Int×Int))->Int->List Int->I3 (Option J)):Option J :=
 kn ([]:List (Int×Int)) a b c d e
def Z5{J:Type}(N:Nat)(d:List (Int×Int))(e:Int)(a:List Int)(b c f:Int)(kn:(List (Int×Int))->I2 (List Int->I3 (Option J))):Option J :=
 cond (lk N (aB.P a (b,c) 5)) (
  kn d e (aB.g a (b,c) 5).2 a (aB.g a (b,c) 5).1.1 (aB.g a (b,c) 5).1.2 f) none
def Z8{J:Type}(N:Nat)(a:List (Int×Int))(b c:Int)(d:List Int)(e f g:Int)(kn:(List (Int×Int))->I3 (List Int->I3 (Option J))):Option J :=
 kn a b c 0 d e f g
def Z11{J:Type}(N:Nat)(e:List (Int×Int))(b f h:Int)(a:List Int)(c d i:Int)(kn:(List (Int×Int))->I3 (List Int->I3 (Option J)))(k0:(List (Int×Int))->I2 (List Int->I2 (Option J))):Option J :=
 cond (lk N (decide (h<f)))
 (
  cond (lk N (bH.P a (c,d) b)) (
   cond (lk N (aB.P a (bH.g a (c,d) b).1 9)) (
    cond (lk N (Nat.blt (e.length+([((cY.g (bH.g a (c,d) b).2),(af ((aB.g a (bH.g a (c,d) b).1 9).2-4)))]:List (Int×Int)).length) 1099511627776)) (
     kn (e++([((cY.g (bH.g a (c,d) b).2),(af ((aB.g a (bH.g a (c,d) b).1 9).2-4)))]:List (Int×Int))) b f (af (h+1)) a (aB.g a (bH.g a (c,d) b).1 9).1.1 (aB.g a (bH.g a (c,d) b).1 9).1.2 i) none) none) none)
 (
  k0 e b i a c d)
def Z10L{J:Type}(N:Nat)(k0:(List (Int×Int))->I2 (List Int->I2 (Option J))):Nat->(List (Int×Int))->Int->Int->Int->List Int->Int->Int->Int->Option J
 |0,_,_,_,_,_,_,_,_=>none
 |M+1,a,b,c,d,e,f,g,h=>Z11 N a b c d e f g h (λa b c d e f g h=>Z10L N k0 M a b c d e f g h) k0
def Z10 N a b c d e f g h k0:=(Z10L N k0 N a b c d e f g h:Option J)
def Z9 N a b c d e f g h kn:=(Z10 N a b c d e f g h kn:Option J)
def Z7 N a b c d e f g kn:=(Z8 N a b c d e f g (λa b c h d e f g=>Z9 N a b c h d e f g kn):Option J)
def Z12{J:Type}(N:Nat)(a:List (Int×Int))(b f:Int)(c:List Int)(d e:Int)(kr:(List (LI×Int))->Int->List Int->I2 (Option J)):Option J :=
 cond (lk N (aF.P a)) (
  cond (lk N (cg.P (aF.g a) b)) (
   kr (cg.g (aF.g a) b).1.2 (cg.g (aF.g a) b).1.1 c d e) none) none
def Z6 N a b g c d e f kr:=(Z7 N a b g c d e f (λa b f c d e=>Z12 N a b f c d e kr):Option J)
def Z4 N a b c d e f kr:=(Z5 N a b c d e f (λa b g c d e f=>Z6 N a b g c d e f kr):Option J)
def Z2 N a b c d e kr:=(Z3 N a b c d e (λf a b c d e=>Z4 N f a b c d e kr):Option J)
def Z0 N b0 r0 a kr:=(Z1 N b0 r0 a (λa b c d e=>Z2 N a b c d e kr):Option J)
def Spec:Prop:=∀{U:Type} (u:U) (b0:List Int) (r0:Int×Int) (v1:Int),Ty.bd (.sl 0 (.int .u8)) b0->P b0 r0 v1=true->∃N0,∀N,N0<=N->Z0 N b0 r0 v1 (λv4_1 v4_0 w0_0 w0_1 w0_2=>some (u,((w0_1,w0_2),((),((v4_0,v4_1),())))))=some (u,((g b0 r0 v1).1,((),((g b0 r0 v1).2,()))))
def keeps{b:List Int}{vars:Int}:∀(c:Nat) {s:(Int×Int)×List (Int×Int)},bn b s.1=true->bn b (stepsK b vars c s).1=true
 |0,_,h=>h
 |c+1,s,h=>keeps c (s:=stepK b vars s) (aB.keep (bH.keep h))
def keep{b:List Int}{r:Int×Int}{vars:Int}(h:bn b r=true):bn b (g b r vars).1=true:=keeps _ (aB.keep h)
def za{b:List Int}{vars:Int}:∀(c:Nat) {s:(Int×Int)×List (Int×Int)},(stepsK b vars c s).2.length=s.2.length+c
 |0,_=>rfl
 |c+1,s=>by rw[stepsK,za c];simp only[stepK,List.length_append,List.length_singleton];omega
def zb{b:List Int}{r:Int×Int}{vars:Int}:(gH b r vars).2.length<=4:=by have hr:=aB.range (b:=b) (r:=r) (n:=5) (by omega) (by omega);unfold gH;rw[za,List.length_nil];omega
def shape{b:List Int}{r:Int×Int}{vars:Int}:(g b r vars).2.2.length<=4/\∀t∈(g b r vars).2.2,t.1.length=vars.toNat:=by
 have h1:=zb (b:=b) (r:=r) (vars:=vars);have h2:=aF.len (l:=(gH b r vars).2) (by omega);unfold g;simp only[cg.g];split;·simp only[List.length_map];refine⟨by omega,λt ht=>?_⟩;obtain⟨q,_,rfl⟩:=List.mem_map.1 ht;exact cB.len
 ·exact⟨Nat.zero_le _,λt ht=>by cases ht⟩
def loop{J:Type}{N:Nat}{b:List Int}{vars:Int}(hv:aN vars 0 100=true)(k0:List (Int×Int)->Int->Int->List Int->Int->Int->Option J){c:Nat}{z:Int}(hc:c<=100):∀(M i:Nat) (s:(Int×Int)×List (Int×Int)),i<=c->bn b s.1=true->s.2.length+(c-i)<=1000->c-i<M ->
  Z10L N k0 M s.2 vars (c:Int) (i:Int) b s.1.1 s.1.2 z=k0 (stepsK b vars (c-i) s).2 vars z b (stepsK b vars (c-i) s).1.1 (stepsK b vars (c-i) s).1.2:=by
 intro M;induction M with
 |zero=>intro i s _ _ _ h;omega
 |succ M ih =>
  intro i s hi hs hl hM;simp only[Z10L,Z11,aM];by_cases h:i<c
  ·have es:((s.1.1,s.1.2):Int×Int)=s.1:=rfl;have hP:bH.P b s.1 vars=true:=by show(bn b s.1&&aN vars 0 100)=true;rw[hs,hv];rfl
   have hQ:aB.P b (bH.g b s.1 vars).1 9=true:=bH.keep hs;have w1:af ((i:Int)+1)=((i+1:Nat):Int):=cI (by rw[cR];omega);have c1:∀x:Int×Int,Nat.blt (s.2.length+([x]:List (Int×Int)).length) 1099511627776=true:=λx=>Nat.ble_eq_true_of_le (by rw[List.length_singleton];omega);rw[dt (show(i:Int)<(c:Int) by omega),es,hP,hQ,c1,w1,show c-i=(c-(i+1))+1 by omega];exact ih (i+1) (stepK b vars s) h (aB.keep (bH.keep hs)) (by simp[stepK];omega) (by omega)
  ·rw[df (show ¬ (i:Int)<(c:Int) by omega),show c-i=0 by omega];rfl
def ok:Spec:=λu b r vars hb hp=>⟨200,λN hN=>by
 simp only[P,Bool.and_eq_true]at hp;obtain⟨h,hm⟩:=hp;have hr:=aB.range (b:=b) (r:=r) (n:=5) (by omega) (by omega);have hP:aB.P b r 5=true:=h;have hG:aF.P (gH b r vars).2=true:=by have:=zb (b:=b) (r:=r) (vars:=vars);exact dt (by omega)
 have hS:cg.P (aF.g (gH b r vars).2) vars=true:=hm;have er:((r.1,r.2):Int×Int)=r:=rfl;simp only[Z0,Z1,Z2,Z3,Z4,Z5,aM,er,hP,cond_true,Z6,Z7,Z8,Z9,Z10];obtain⟨c,hc⟩:=Int.eq_ofNat_of_zero_le hr.1;have hc5:c<5:=by omega
 rw[hc];refine(loop hm _ (by omega) N 0 ((aB.g b r 5).1,[]) (Nat.zero_le _) (aB.keep h) (by simp;omega) (by omega)).trans ?_;have em:stepsK b vars (c-0) ((aB.g b r 5).1,[])=gH b r vars:=by unfold gH;rw[hc];rfl
 rw[em];simp only[Z12,aM,hG,hS,cond_true];rfl⟩
end bR
namespace dX
def P(b:List Int)(r:Int×Int)(n:Int):Bool:=bn b r
def g(b:List Int)(r:Int×Int)(n:Int):(Int×Int)×Bool:=((aB.g b r n).1,decide ((aB.g b r n).2=0))
def Z0{J:Type}(N:Nat)(b0:List Int)(r0:Int×Int)(a:Int)(kr:Bool->List Int->I2 (Option J)):Option J :=
 cond (lk N (aB.P b0 r0 a)) (
  kr (lk N (decide ((aB.g b0 r0 a).2=0))) b0 (aB.g b0 r0 a).1.1 (aB.g b0 r0 a).1.2) none
def Spec:Prop:=∀{U:Type} (u:U) (b0:List Int) (r0:Int×Int) (v1:Int),Ty.bd (.sl 0 (.int .u8)) b0->P b0 r0 v1=true->∃N0,∀N,N0<=N->Z0 N b0 r0 v1 (λv4 w0_0 w0_1 w0_2=>some (u,((w0_1,w0_2),((),(v4,())))))=some (u,((g b0 r0 v1).1,((),((g b0 r0 v1).2,()))))
def keep{b:List Int}{r:Int×Int}{n:Int}(h:bn b r=true):bn b (g b r n).1=true:=aB.keep h
def ok:Spec:=λu b r n hb hp=>⟨0,λN hN=>by simp only[Z0,aM,show aB.P b r n=true from hp,cond_true];rfl⟩
end dX
namespace gh
def P(b:List Int)(r:Int×Int)(l:List Int):Bool:=bn b r&&(decide (1<=l.length)&&decide (l.length<=256))
def g(b:List Int)(r:Int×Int)(l:List Int):(Int×Int)×Int:=((aB.g b r (l.length:Int)).1,l.getD (aB.g b r (l.length:Int)).2.toNat 0)
def Z0{J:Type}(N:Nat)(b0:List Int)(r0:Int×Int)(a:LI)(kr:Int->List Int->I2 (Option J)):Option J :=
 cond (lk N (aB.P b0 r0 (a.length:Int))) (
  cond (lk N (aI (aB.g b0 r0 (a.length:Int)).2 a.length)) (
   kr (a.getD (aB.g b0 r0 (a.length:Int)).2.toNat 0) b0 (aB.g b0 r0 (a.length:Int)).1.1 (aB.g b0 r0 (a.length:Int)).1.2) none) none
def Spec:Prop:=∀{U:Type} (u:U) (b0:List Int) (r0:Int×Int) (v1:LI),Ty.bd (.sl 0 (.int .u8)) b0->Ty.bd (.sl 0 (.int .i64)) v1->P b0 r0 v1=true->∃N0,∀N,N0<=N->Z0 N b0 r0 v1 (λv4 w0_0 w0_1 w0_2=>some (u,((w0_1,w0_2),((),(v4,())))))=some (u,((g b0 r0 v1).1,((),((g b0 r0 v1).2,()))))
def keep{b:List Int}{r:Int×Int}{l:List Int}(h:bn b r=true):bn b (g b r l).1=true:=aB.keep h
def ok:Spec:=λu b r l hb hbl hp=>⟨0,λN hN=>by simp only[P,Bool.and_eq_true,decide_eq_true_eq]at hp;obtain⟨h,h1,h2⟩:=hp;have hr:=aB.range (b:=b) (r:=r) (n:=(l.length:Int)) (by omega) (by omega);have hP:aB.P b r (l.length:Int)=true:=h;simp only[Z0];rw[ct hP,ct (xc hr.1 hr.2)];rfl⟩
end gh
namespace Ci
def ok:True:=trivial
end Ci
namespace aZ
def g(n:Int):ByteArray:=aU n
def P(n:Int):Bool:=cz n
def Z1{J:Type}(N:Nat)(a:Int)(kn:Int->Option J):Option J :=
 kn a
def Z3{J:Type}(N:Nat)(a:Int)(kn:List Int->Int->Option J):Option J :=
 kn ([]:List Int) a
def Z5{J:Type}(N:Nat)(b:List Int)(a:Int)(kn:List Int->I2 (Option J)):Option J :=
 kn b a a
def Z9{J:Type}(N:Nat)(b:List Int)(c a:Int)(kn:List Int->I2 (Option J))(k0:List Int->Int->Option J):Option J :=
 cond (lk N (!(decide (a=0))))
 (
  cond (lk N (true)) (
   cond (lk N (decide ((Int.tmod a 10)<0)))
   (
    cond (lk N (Nat.blt (b.length+([(w8 ((af (48+(af (0-(Int.tmod a 10)))))))]:List Int).length) 1099511627776)) (
     cond (lk N (true)) (
      kn (b++([(w8 ((af (48+(af (0-(Int.tmod a 10)))))))]:List Int)) c (af (Int.tdiv a 10))) none) none)
   (
    cond (lk N (Nat.blt (b.length+([(w8 ((af (48+(Int.tmod a 10)))))]:List Int).length) 1099511627776)) (
     cond (lk N (true)) (
      kn (b++([(w8 ((af (48+(Int.tmod a 10)))))]:List Int)) c (af (Int.tdiv a 10))) none) none)) none)
 (
  cond (lk N (decide ((b.length:Int)=0)))
  (
   cond (lk N (true)) (
    cond (lk N (decide ((Int.tmod a 10)<0)))
    (
     cond (lk N (Nat.blt (b.length+([(w8 ((af (48+(af (0-(Int.tmod a 10)))))))]:List Int).length) 1099511627776)) (
      cond (lk N (true)) (
       kn (b++([(w8 ((af (48+(af (0-(Int.tmod a 10)))))))]:List Int)) c (af (Int.tdiv a 10))) none) none)
    (
     cond (lk N (Nat.blt (b.length+([(w8 ((af (48+(Int.tmod a 10)))))]:List Int).length) 1099511627776)) (
      cond (lk N (true)) (
       kn (b++([(w8 ((af (48+(Int.tmod a 10)))))]:List Int)) c (af (Int.tdiv a 10))) none) none)) none)
  (
   k0 b c))
def Z8L{J:Type}(N:Nat)(k0:List Int->Int->Option J):Nat->List Int->Int->Int->Option J
 |0,_,_,_=>none
 |M+1,a,b,c=>Z9 N a b c (λa b c=>Z8L N k0 M a b c) k0
def Z8 N a b c k0:=(Z8L N k0 N a b c:Option J)
def Z7 N a b c kn:=(Z8 N a b c kn:Option J)
def Z11{J:Type}(N:Nat)(a:List Int)(b:Int)(kn:List Int->List Int->Int->Option J):Option J :=
 kn a ([]:List Int) b
def Z13{J:Type}(N:Nat)(b a:List Int)(c:Int)(kn:List Int->List Int->Option J):Option J :=
 cond (lk N (decide (c<0)))
 (
  cond (lk N (Nat.blt (a.length+([45]:List Int).length) 1099511627776)) (
   kn b (a++([45]:List Int))) none)
 (
  kn b a)
def Z16{J:Type}(N:Nat)(a b:List Int)(kn:List Int->List Int->Int->Option J):Option J :=
 kn a b (af ((a.length:Int)-1))
def Z19{J:Type}(N:Nat)(b c:List Int)(a:Int)(kn:List Int->List Int->Int->Option J)(k2:List Int->Option J):Option J :=
 cond (lk N (decide (0<=a)))
 (
  cond (lk N (aI a b.length)) (
   cond (lk N (Nat.blt (c.length+([(b.getD a.toNat 0)]:List Int).length) 1099511627776)) (
    kn b (c++([(b.getD a.toNat 0)]:List Int)) (af (a-1))) none) none)
 (
  k2 c)
def Z18L{J:Type}(N:Nat)(k2:List Int->Option J):Nat->List Int->List Int->Int->Option J
 |0,_,_,_=>none
 |M+1,a,b,c=>Z19 N a b c (λa b c=>Z18L N k2 M a b c) k2
def Z18 N a b c k2:=(Z18L N k2 N a b c:Option J)
def Z17 N a b c kn:=(Z18 N a b c kn:Option J)
def Z15 N a b kn:=(Z16 N a b (λa b c=>Z17 N a b c kn):Option J)
def Z20{J:Type}(N:Nat)(a:List Int)(kr:ByteArray->Option J):Option J :=
 kr (strOfNums a)
def Z14 N b a kr:=(Z15 N b a (λa=>Z20 N a kr):Option J)
def Z12 N a b c kr:=(Z13 N a b c (λa b=>Z14 N a b kr):Option J)
def Z10 N a b kr:=(Z11 N a b (λa c b=>Z12 N a c b kr):Option J)
def Z6 N a b c kr:=(Z7 N a b c (λa b=>Z10 N a b kr):Option J)
def Z4 N a b kr:=(Z5 N a b (λa b c=>Z6 N a b c kr):Option J)
def Z2 N a kr:=(Z3 N a (λb a=>Z4 N b a kr):Option J)
def Z0 N a kr:=(Z1 N a (λa=>Z2 N a kr):Option J)
def Spec:Prop:=∀ (v0:Int),P v0=true->∃N0,∀N,N0<=N->Z0 N v0 (λv2=>some ((),(v2,())))=some ((),((g v0),()))
def done{J:Type}{N M:Nat}(k0:List Int->Int->Option J){ds:List Int}(hd:ds≠[])(n:Int):Z8L N k0 (M+1) ds n 0=k0 ds n:=by have hl:ds.length≠0:=λh=>hd (List.length_eq_zero_iff.1 h);simp only[Z8L,Z9];rw[cf (show(!decide True)=false from rfl),cf (df (by omega))]
def loop{J:Type}{N:Nat}(k0:List Int->Int->Option J)(n:Int):∀(c M:Nat) (ds:List Int) (k:Int),k.natAbs<10 ^ c->k.natAbs<9223372036854775809->1<=c->c<M->ds.length+c<=100->(k≠0\/ds=[]) ->
  Z8L N k0 M ds n k=k0 (ds++dM k.natAbs) n:=by
 intro c;induction c with
 |zero=>intro M ds k _ _ h;omega
 |succ c ih =>
  intro M ds k hk hk2 _ hM hd hor;obtain⟨M,rfl⟩:∃m,M=m+1:=⟨M-1,by omega⟩;have hq:af (Int.tdiv k 10)=Int.tdiv k 10:=by have:=sP k;exact cO (by omega) (by omega)
  have o9:Z8L N k0 (M+1) ds n k=Z8L N k0 M (ds++[48+((k.natAbs%10:Nat):Int)]) n (Int.tdiv k 10):=by
   have hb:∀x:Int,Nat.blt (ds.length+([x]:List Int).length) 1099511627776=true:=λx=>Nat.ble_eq_true_of_le (by simp;omega);simp only[Z8L,Z9,hq,hb,aM,cond_true];by_cases hk0:k=0;·subst hk0;have hds:ds=[]:=hor.resolve_left (by simp);subst hds;rfl
   ·rw[nt hk0,cond_true];by_cases hneg:Int.tmod k 10<0;·rw[dt hneg,cond_true,EZ hneg]
    ·rw[df hneg,cond_false,EY hneg]
  rw[o9];by_cases hsm:k.natAbs<10
  ·have e0:Int.tdiv k 10=0:=by have:=sP k;omega
   obtain⟨M,rfl⟩:∃m,M=m+1:=⟨M-1,by omega⟩;rw[e0,done k0 (by simp) n,xv hsm,Nat.mod_eq_of_lt hsm]
  ·have hc:1<=c:=by
    rcases Nat.eq_zero_or_pos c with h|h;·subst h;omega
    ·exact h
   have hd2:=sP k;rw[ih M _ (Int.tdiv k 10) (by rw[hd2,Nat.div_lt_iff_lt_mul (by omega),<-Nat.pow_succ];exact hk) (by omega) hc (by omega) (by simp;omega) (.inl (by omega)),hd2,xw hsm,List.append_assoc];rfl
def back{J:Type}{N:Nat}(k2:List Int->Option J){ds:List Int}(hd:ds.length<=100):∀(j M:Nat) (out:List Int),j<=ds.length->j<M->out.length+j<=1000->Z18L N k2 M ds out ((j:Int)-1)=k2 (out++(ds.take j).reverse):=by
 intro j;induction j with
 |zero =>intro M out _ hM _;obtain⟨M,rfl⟩:∃m,M=m+1:=⟨M-1,by omega⟩;simp only[Z18L,Z19];rw[cf (df (by omega)),List.take_zero,List.reverse_nil,List.append_nil]
 |succ j ih =>
  intro M out hj hM ho;obtain⟨M,rfl⟩:∃m,M=m+1:=⟨M-1,by omega⟩;have e:((j+1:Nat):Int)-1=(j:Int):=by omega
  have hb:∀x:Int,Nat.blt (out.length+([x]:List Int).length) 1099511627776=true:=λx=>Nat.ble_eq_true_of_le (by simp;omega);simp only[Z18L,Z19,e];rw[ct (dt (by omega)),ct (bh hj),ct (hb _),Int.toNat_natCast,cO (by omega) (by omega),ih M _ (by omega) (by omega) (by simp;omega),<-ir 0 hj,List.reverse_append,List.append_assoc];rfl
def Gg{u:Nat}:∀(c:Nat),u<10 ^ c->1<=c->(dM u).length<=c:=by
 intro c;induction c generalizing u with
 |zero=>intro _ h;omega
 |succ c ih =>
  intro h _;by_cases hs:u<10;·rw[xv hs];simp
  ·rw[xw hs,List.length_cons];have hc:1<=c:=by
    rcases Nat.eq_zero_or_pos c with h'|h';·subst h';omega
    ·exact h'
   have:=ih (u:=u / 10) (by rw[Nat.div_lt_iff_lt_mul (by omega),<-Nat.pow_succ];exact h) hc;omega
def ok:Spec:=λn hp=>⟨200,λN hN=>by
 simp only[P,cz,Bool.and_eq_true,decide_eq_true_eq]at hp;have h19:n.natAbs<10 ^ 19:=by
  have:(10:Nat) ^ 19=10000000000000000000:=by decide
  omega
 have hlen:=Gg 19 h19 (by omega);simp only[Z0,Z1,Z2,Z3,Z4,Z5,Z6,Z7,Z8];refine(loop _ n 19 N [] n h19 (by omega) (by omega) (by omega) (by simp) (.inr rfl)).trans ?_;rw[List.nil_append];have hl0:dM n.natAbs=(dM n.natAbs).take (dM n.natAbs).length:=by rw[List.take_length]
 have fin:∀out:List Int,out.length<=10->Z18L N (λout6=>some ((),(strOfNums out6,()))) N (dM n.natAbs) out (((dM n.natAbs).length:Int)-1)=some ((),(strOfNums (out++(dM n.natAbs).reverse),())):=λout ho=>by rw[back _ (by omega) _ N out (Nat.le_refl _) (by omega) (by omega),List.take_length]
 simp only[Z10,Z11,Z12,Z13];by_cases hneg:n<0;·rw[ct (dt hneg),ct (show Nat.blt (([]:List Int).length+([45]:List Int).length) 1099511627776=true from rfl)];simp only[Z14,Z15,Z16,Z17,Z18,Z20];rw[cO (by omega) (by omega),fin _ (by simp),g,aU,Lib.itoa,if_pos hneg];have:=EW n.natAbs;simp only[List.nil_append,List.singleton_append];rw[this]
 ·rw[cf (df hneg)];simp only[Z14,Z15,Z16,Z17,Z18,Z20];rw[cO (by omega) (by omega),fin _ (by simp),g,aU,Lib.itoa,if_neg hneg,List.nil_append,EV,show n.natAbs=n.toNat by omega]⟩
end aZ
namespace cL
def g(l:List Int):ByteArray:=bc l
def P(l:List Int):Bool:=dT l
def Z1{J:Type}(N:Nat)(a:LI)(kn:LI->Option J):Option J :=
 kn a
def Z3{J:Type}(N:Nat)(a:LI)(kn:LI->ByteArray->Option J):Option J :=
 kn a ByteArray.empty
def Z6{J:Type}(N:Nat)(a:LI)(b:ByteArray)(kn:LI->ByteArray->Int->Option J):Option J :=
 kn a b 0
def Z9{J:Type}(N:Nat)(b:LI)(c:ByteArray)(a:Int)(kn:LI->ByteArray->Int->Option J)(k0:ByteArray->Option J):Option J :=
 cond (lk N (decide (a<(b.length:Int))))
 (
  cond (lk N (decide (0<a)))
  (
   cond (Nat.blt (c.size+(⟨#[32]⟩:ByteArray).size) 4611686018427387904) (
    cond (lk N (aI a b.length)) (
     cond (lk N (aZ.P (b.getD a.toNat 0))) (
      cond (Nat.blt ((c++(⟨#[32]⟩:ByteArray)).size+(aZ.g (b.getD a.toNat 0)).size) 4611686018427387904) (
       kn b ((c++(⟨#[32]⟩:ByteArray))++(aZ.g (b.getD a.toNat 0))) (af (a+1))) none) none) none) none)
  (
   cond (lk N (aI a b.length)) (
    cond (lk N (aZ.P (b.getD a.toNat 0))) (
     cond (Nat.blt (c.size+(aZ.g (b.getD a.toNat 0)).size) 4611686018427387904) (
      kn b (c++(aZ.g (b.getD a.toNat 0))) (af (a+1))) none) none) none))
 (
  k0 c)
def Z8L{J:Type}(N:Nat)(k0:ByteArray->Option J):Nat->LI->ByteArray->Int->Option J
 |0,_,_,_=>none
 |M+1,a,b,c=>Z9 N a b c (λa b c=>Z8L N k0 M a b c) k0
def Z8 N a b c k0:=(Z8L N k0 N a b c:Option J)
def Z7 N a b c kn:=(Z8 N a b c kn:Option J)
def Z5 N a b kn:=(Z6 N a b (λa b c=>Z7 N a b c kn):Option J)
def Z10{J:Type}(N:Nat)(a:ByteArray)(kr:ByteArray->Option J):Option J :=
 kr a
def Z4 N b a kr:=(Z5 N b a (λa=>Z10 N a kr):Option J)
def Z2 N a kr:=(Z3 N a (λa b=>Z4 N a b kr):Option J)
def Z0 N a kr:=(Z1 N a (λa=>Z2 N a kr):Option J)
def Spec:Prop:=∀ (v0:LI),Ty.bd (.sl 0 (.int .i64)) v0->P v0=true->∃N0,∀N,N0<=N->Z0 N v0 (λv2=>some ((),(v2,())))=some ((),((g v0),()))
def loop{J:Type}{N:Nat}(k0:ByteArray->Option J){l:List Int}(hp:dT l=true):∀(M j:Nat),j<=l.length->l.length-j<M->Z8L N k0 M l (bc (l.take j)) (j:Int)=k0 (bc l):=by
 simp only[dT,Bool.and_eq_true,decide_eq_true_eq]at hp;intro M;induction M with
 |zero=>intro j _ h;omega
 |succ M ih =>
  intro j hj hM;simp only[Z8L,Z9];by_cases h:j<l.length
  ·have hi:cz (l.getD j 0)=true:=List.all_eq_true.1 hp.2 _ (dK 0 h);have h1:aZ.P (l.getD j 0)=true:=hi;have h2:aZ.g (l.getD j 0)=aU (l.getD j 0):=rfl;have hsz:=E3 hi;have hall:(l.take j).all cz=true:=List.all_eq_true.2 λx hx=>List.all_eq_true.1 hp.2 x (List.mem_of_mem_take hx);have hlen:=oU hall;have hs:(bc (l.take j)).size<=22*j:=by
    have e:(bc (l.take j)).size=(aY (l.take j)).length:=by simp[bc,ByteArray.size]
    rw[List.length_take]at hlen;omega
   have e1:(⟨#[32]⟩:ByteArray).size=1:=rfl;have e3:bc (l.take j)++(⟨#[32]⟩:ByteArray)=⟨(aY (l.take j)++[32]).toArray⟩:=oT _ [32];rw[ct (dt (by omega)),cI (by rw[cR];omega),Int.toNat_natCast];by_cases h0:j=0
   ·subst h0;rw[cf (df (by omega)),ct (bh h),ct h1,h2,dc (show Nat.blt ((bc (l.take 0)).size+(aU (l.getD 0 0)).size) 4611686018427387904=true from Nat.ble_eq_true_of_le (by omega))];have e:bc (l.take 0)++aU (l.getD 0 0)=bc (l.take (0+1)):=by rw[<-ir 0 h,List.take_zero,List.nil_append];show(⟨([]:List UInt8).toArray⟩:ByteArray)++⟨(Lib.itoa (l.getD 0 0)).toArray⟩=⟨(aY [l.getD 0 0]).toArray⟩;rw[oT,xC,List.nil_append]
    rw[e];exact ih 1 h (by omega)
   ·have hne:l.take j≠[]:=λe=>by have:=congrArg List.length e;rw[List.length_take,List.length_nil]at this;omega
    have hs2:(bc (l.take j)++(⟨#[32]⟩:ByteArray)).size<=22*j+1:=by rw[ByteArray.size_append,e1];omega
    rw[ct (dt (by omega)),dc (show Nat.blt ((bc (l.take j)).size+(⟨#[32]⟩:ByteArray).size) 4611686018427387904=true from Nat.ble_eq_true_of_le (by omega)),ct (bh h),ct h1,h2,
     dc (show Nat.blt ((bc (l.take j)++(⟨#[32]⟩:ByteArray)).size+(aU (l.getD j 0)).size) 4611686018427387904=true from Nat.ble_eq_true_of_le (by omega))]
    have e:bc (l.take j)++(⟨#[32]⟩:ByteArray)++aU (l.getD j 0)=bc (l.take (j+1)):=by rw[e3,<-ir 0 h];show _++(⟨(Lib.itoa (l.getD j 0)).toArray⟩:ByteArray)=⟨(aY (l.take j++[l.getD j 0])).toArray⟩;rw[oT,xA hne]
    rw[e];exact ih (j+1) h (by omega)
  ·rw[cf (df (by omega)),List.take_of_length_le (by omega)]
def ok:Spec:=λl hb hp=>⟨l.length+1,λN hN=>by simp only[Z1,Z3,Z6,Z9,Z8,Z7,Z5,Z10,Z4,Z2,Z0];exact loop (λs3=>some ((),(s3,()))) hp N 0 (Nat.zero_le _) (by omega)⟩
end cL
namespace bW
def g(f:Int×List (List Int×Int)):ByteArray:=if bO f=true then cd f else ByteArray.empty
def Z1{J:Type}(N:Nat)(a:Int×List (LI×Int))(kn:Int->(List (LI×Int))->Option J):Option J :=
 kn a.1 a.2
def Z3{J:Type}(N:Nat)(a:Int)(b:List (LI×Int))(kn:Int->(List (LI×Int))->Option J)(kr:ByteArray->Option J):Option J :=
 cond (!(lk N ((bz.g (a,b)))))
 (
  kr ByteArray.empty)
 (
  kn a b)
def Z5{J:Type}(N:Nat)(a:Int)(b:List (LI×Int))(kn:ByteArray->Int->(List (LI×Int))->Option J):Option J :=
 cond (lk N (aZ.P a)) (
  cond (Nat.blt ((aZ.g a).size+(⟨#[124]⟩:ByteArray).size) 4611686018427387904) (
   kn ((aZ.g a)++(⟨#[124]⟩:ByteArray)) a b) none) none
def Z7{J:Type}(N:Nat)(a:ByteArray)(c:Int)(b:List (LI×Int))(kn:ByteArray->Int->(List (LI×Int))->Option J)(kr:ByteArray->Option J):Option J :=
 cond (lk N (decide ((b.length:Int)=0)))
 (
  cond (Nat.blt (a.size+(⟨#[48]⟩:ByteArray).size) 4611686018427387904) (
   kr (a++(⟨#[48]⟩:ByteArray))) none)
 (
  kn a c b)
def Z10{J:Type}(N:Nat)(a:ByteArray)(b:Int)(c:List (LI×Int))(kn:ByteArray->I2 ((List (LI×Int))->Option J)):Option J :=
 kn a 0 b c
def Z13{J:Type}(N:Nat)(a:ByteArray)(b d:Int)(c:List (LI×Int))(kn:ByteArray->I2 ((List (LI×Int))->Option J))(k0:ByteArray->Option J):Option J :=
 let x0_:=(c.getD b.toNat ([],0));let x1_:=(aZ.g x0_.2);let x2_:=(a++(⟨#[44,32]⟩:ByteArray));let x3_:=(lk N (aI b c.length));let x4_:=(cL.g x0_.1);cond (lk N (decide (b<(c.length:Int))))
 (
 cond (lk N (decide (0<b)))
 (
 cond (Nat.blt (a.size+(⟨#[44,32]⟩:ByteArray).size) 4611686018427387904) (
 cond x3_ (
 cond x3_ (
 cond (lk N (aZ.P x0_.2)) (
 cond (Nat.blt (x2_.size+x1_.size) 4611686018427387904) (
 cond (Nat.blt ((x2_++x1_).size+(⟨#[58]⟩:ByteArray).size) 4611686018427387904) (
 cond (lk N (cL.P x0_.1)) (
 cond (Nat.blt (((x2_++x1_)++(⟨#[58]⟩:ByteArray)).size+x4_.size) 4611686018427387904) (
 kn (((x2_++x1_)++(⟨#[58]⟩:ByteArray))++x4_) (af (b+1)) d c) none) none) none) none) none) none) none) none)
 (
 cond x3_ (
 cond x3_ (
 cond (lk N (aZ.P x0_.2)) (
 cond (Nat.blt (a.size+x1_.size) 4611686018427387904) (
 cond (Nat.blt ((a++x1_).size+(⟨#[58]⟩:ByteArray).size) 4611686018427387904) (
 cond (lk N (cL.P x0_.1)) (
 cond (Nat.blt (((a++x1_)++(⟨#[58]⟩:ByteArray)).size+x4_.size) 4611686018427387904) (
 kn (((a++x1_)++(⟨#[58]⟩:ByteArray))++x4_) (af (b+1)) d c) none) none) none) none) none) none) none))
 (
 k0 a)
def Z12L{J:Type}(N:Nat)(k0:ByteArray->Option J):Nat->ByteArray->Int->Int->(List (LI×Int))->Option J
 |0,_,_,_,_=>none
 |M+1,a,b,c,d=>Z13 N a b c d (λa b c d=>Z12L N k0 M a b c d) k0
def Z12 N a b c d k0:=(Z12L N k0 N a b c d:Option J)
def Z11 N a b c d kn:=(Z12 N a b c d kn:Option J)
def Z9 N a b c kn:=(Z10 N a b c (λa d b c=>Z11 N a d b c kn):Option J)
def Z14{J:Type}(N:Nat)(a:ByteArray)(kr:ByteArray->Option J):Option J :=
 kr a
def Z8 N a b c kr:=(Z9 N a b c (λa=>Z14 N a kr):Option J)
def Z6 N a b c kr:=(Z7 N a b c (λa b c=>Z8 N a b c kr) kr:Option J)
def Z4 N a b kr:=(Z5 N a b (λc a b=>Z6 N c a b kr):Option J)
def Z2 N a b kr:=(Z3 N a b (λa b=>Z4 N a b kr) kr:Option J)
def Z0 N a kr:=(Z1 N a (λb c=>Z2 N b c kr):Option J)
def Spec:Prop:=∀ (v0:Int×List (LI×Int)),Ty.bd (.pair (.int .i64) (.sl 0 (.pair (.sl 0 (.int .i64)) (.int .i64)))) v0->∃N0,∀N,N0<=N->Z0 N v0 (λv2=>some ((),(v2,())))=some ((),((g v0),()))
def blt_txt{a b:ByteArray}(h:a.size+b.size<4611686018427387904):Nat.blt (a.size+b.size) 4611686018427387904=true:=Nat.ble_eq_true_of_le h
def loop{J:Type}{N:Nat}{f:Int×List (List Int×Int)}(hf:me f)(k0:ByteArray->Option J):∀(M j:Nat),j<=f.2.length->f.2.length-j<M ->
  Z12L N k0 M (aK (fi f++Lib.join ((bU f).take j) [44,32])) (j:Int) f.1 f.2=k0 (aK (fi f++Lib.join (bU f) [44,32])):=by
 have hn:=hf.n;have hh:=oV hf;intro M;induction M with
 |zero=>intro j _ h;omega
 |succ M ih =>
  intro j hj hM;simp only[Z12L,Z13];by_cases h:j<f.2.length
  ·have hm:=dK (l:=f.2) (j:=j) ([],0) h;have h1:aZ.P (f.2.getD j ([],0)).2=true:=hf.c _ hm;have h1g:aZ.g (f.2.getD j ([],0)).2=aK (Lib.itoa (f.2.getD j ([],0)).2):=rfl;have h2:cL.P (f.2.getD j ([],0)).1=true:=hf.e _ hm;have h2g:cL.g (f.2.getD j ([],0)).1=aK (aY (f.2.getD j ([],0)).1):=rfl;have hl:=hf.l _ hm;have hp:=sU hf j;have ht:ck (f.2.getD j ([],0))=Lib.itoa (f.2.getD j ([],0)).2++[58]++aY (f.2.getD j ([],0)).1:=rfl;have hl':=hl;rw[ht]at hl';simp only[List.length_append,List.length_cons,List.length_nil]at hl';have e1:(⟨#[44,32]⟩:ByteArray)=aK [44,32]:=rfl;have e2:(⟨#[58]⟩:ByteArray)=aK [58]:=rfl;rw[ct (dt (by omega)),Int.toNat_natCast,h1g,h2g,e1,e2];simp only[kC];by_cases h0:j=0
   ·subst h0;rw[cf (df (by omega)),ct (bh h),ct (bh h),ct h1,
     dc (blt_txt (by rw[bZ,bZ];simp only[List.length_append];omega)),dc (blt_txt (by rw[bZ,bZ];simp only[List.length_append,List.length_cons,List.length_nil];omega)),ct h2,
     dc (blt_txt (by rw[bZ,bZ];simp only[List.length_append,List.length_cons,List.length_nil];omega)),cI (by rw[cR];omega)]
    have e4:fi f++Lib.join ((bU f).take 0) [44,32]++Lib.itoa (f.2.getD 0 ([],0)).2++[58]++aY (f.2.getD 0 ([],0)).1=fi f++Lib.join ((bU f).take (0+1)) [44,32]:=by rw[<-ir [] (by rw[fZ];exact h),sT h,List.take_zero,List.nil_append,Lib.join_one,Lib.join_nil,List.append_nil,ht];simp only[List.append_assoc]
    rw[e4];exact ih 1 h (by omega)
   ·have hne:(bU f).take j≠[]:=λe=>by have:=congrArg List.length e;rw[List.length_take,fZ,List.length_nil]at this;omega
    rw[ct (dt (by omega)),dc (blt_txt (by rw[bZ,bZ];simp only[List.length_append,List.length_cons,List.length_nil];omega)),ct (bh h),ct (bh h),ct h1,
     dc (blt_txt (by rw[bZ,bZ];simp only[List.length_append,List.length_cons,List.length_nil];omega)),dc (blt_txt (by rw[bZ,bZ];simp only[List.length_append,List.length_cons,List.length_nil];omega)),ct h2,
     dc (blt_txt (by rw[bZ,bZ];simp only[List.length_append,List.length_cons,List.length_nil];omega)),cI (by rw[cR];omega)]
    have e4:fi f++Lib.join ((bU f).take j) [44,32]++[44,32]++Lib.itoa (f.2.getD j ([],0)).2++[58]++aY (f.2.getD j ([],0)).1=fi f++Lib.join ((bU f).take (j+1)) [44,32]:=by rw[<-ir [] (by rw[fZ];exact h),sT h,E5 hne,ht];simp only[List.append_assoc]
    rw[e4];exact ih (j+1) h (by omega)
  ·rw[cf (df (by omega)),List.take_of_length_le (by rw[fZ];omega)]
def ok:Spec:=λf hb=>⟨f.2.length+100,λN hN=>by
 have e0:bz.g (f.1,f.2)=bO f:=rfl;simp only[Z0,Z1,Z2,Z3,e0,aM,g];cases h1:bO f;·rfl
 have hf:=sS h1;have hh:=oV hf;have hP:aZ.P f.1=true:=mf (by have:=hf.v;omega) (by have:=hf.v;omega);have hg:aZ.g f.1=aK (Lib.itoa f.1):=rfl;have e1:(⟨#[124]⟩:ByteArray)=aK [124]:=rfl;have e2:(⟨#[48]⟩:ByteArray)=aK [48]:=rfl;have hh':=hh;unfold fi at hh';simp only[List.length_append,List.length_cons,List.length_nil]at hh';simp only[Bool.not_true,cond_false,Z4,Z5];rw[ct hP,hg,e1,dc (blt_txt (by rw[bZ,bZ];simp only[List.length_append,List.length_cons,List.length_nil];omega)),kC,if_pos trivial];simp only[Z6,Z7];by_cases h0:f.2.length=0;·rw[ct (dt (by omega)),e2,dc (blt_txt (by rw[bZ,bZ];simp only[List.length_append,List.length_cons,List.length_nil];omega)),kC,cd,if_pos h0];rfl
 ·rw[cf (df (by omega))];simp only[Z8,Z9,Z10,Z11,Z12];have hlp:=loop (J:=Unit×ByteArray×Unit) (N:=N) hf (λs3=>Z14 N s3 (λt2=>some ((),(t2,())))) N 0 (Nat.zero_le _) (by omega);rw[List.take_zero,Lib.join_nil,List.append_nil]at hlp;refine hlp.trans ?_;rw[cd,if_neg h0];rfl⟩
end bW
namespace dC
def P(b:List Int)(r:Int×Int)(l:List ByteArray):Bool:=bn b r&&(decide (1<=l.length)&&decide (l.length<=256))
def g(b:List Int)(r:Int×Int)(l:List ByteArray):(Int×Int)×ByteArray:=((aB.g b r (l.length:Int)).1,l.getD (aB.g b r (l.length:Int)).2.toNat ByteArray.empty)
def Z0{J:Type}(N:Nat)(b0:List Int)(r0:Int×Int)(a:List ByteArray)(kr:ByteArray->List Int->I2 (Option J)):Option J :=
 cond (lk N (aB.P b0 r0 (a.length:Int))) (
  cond (lk N (aI (aB.g b0 r0 (a.length:Int)).2 a.length)) (
   kr (a.getD (aB.g b0 r0 (a.length:Int)).2.toNat ByteArray.empty) b0 (aB.g b0 r0 (a.length:Int)).1.1 (aB.g b0 r0 (a.length:Int)).1.2) none) none
def Spec:Prop:=∀{U:Type} (u:U) (b0:List Int) (r0:Int×Int) (v1:List ByteArray),Ty.bd (.sl 0 (.int .u8)) b0->Ty.bd (.sl 0 (.str)) v1->P b0 r0 v1=true->∃N0,∀N,N0<=N->Z0 N b0 r0 v1 (λv4 w0_0 w0_1 w0_2=>some (u,((w0_1,w0_2),((),(v4,())))))=some (u,((g b0 r0 v1).1,((),((g b0 r0 v1).2,()))))
def ok:Spec:=λu b r l hb hbl hp=>⟨0,λN hN=>by simp only[P,Bool.and_eq_true,decide_eq_true_eq]at hp;obtain⟨h,h1,h2⟩:=hp;have hr:=aB.range (b:=b) (r:=r) (n:=(l.length:Int)) (by omega) (by omega);have hP:aB.P b r (l.length:Int)=true:=h;simp only[Z0];rw[ct hP,ct (xc hr.1 hr.2)];rfl⟩
end dC
namespace cZ
abbrev tA(b:List Int):(Int×Int)×Int:=aB.g b (bL.g b) 3
def gc(b:List Int):(Int×Int)×(Int×List (List Int×Int)):=bR.g b (tA b).1 (af (1+(tA b).2))
def jC:List ByteArray:=[(⟨#[44]⟩:ByteArray),(⟨#[44,32,49,58,48]⟩:ByteArray),(⟨#[32]⟩:ByteArray),(⟨#[124]⟩:ByteArray),(⟨#[58]⟩:ByteArray),(⟨#[44,32,49,58,48,32,48]⟩:ByteArray),(⟨#[48]⟩:ByteArray)]
def gI(b:List Int):(Int×Int)×Bool:=dX.g b (gc b).1 4
def g(b:List Int):ByteArray:=if(gI b).2=true then bW.g (gc b).2++(dC.g b (gI b).1 jC).2 else bW.g (gc b).2
def Z0{J:Type}(N:Nat)(a:List Int)(kr:ByteArray->Option J):Option J :=
 let x1_:=([(⟨#[44]⟩:ByteArray),(⟨#[44,32,49,58,48]⟩:ByteArray),(⟨#[32]⟩:ByteArray),(⟨#[124]⟩:ByteArray),(⟨#[58]⟩:ByteArray),(⟨#[44,32,49,58,48,32,48]⟩:ByteArray),(⟨#[48]⟩:ByteArray)]:List ByteArray);let x2_:=(aB.g a (bL.g a) 3);let x0_:=(bR.g a x2_.1 (af (1+x2_.2)));let x3_:=(dX.g a x0_.1 4);cond (lk N (aB.P a (bL.g a) 3)) (
 cond (lk N (bR.P a x2_.1 (af (1+x2_.2)))) (
 cond (lk N (dX.P a x0_.1 4)) (
 cond (lk N (x3_.2))
 (
 cond (lk N (dC.P a x3_.1 x1_)) (
 cond (Nat.blt ((bW.g x0_.2).size+(dC.g a x3_.1 x1_).2.size) 4611686018427387904) (
 kr ((bW.g x0_.2)++(dC.g a x3_.1 x1_).2)) none) none)
 (
 kr (bW.g x0_.2))) none) none) none
def Spec:Prop:=∀ (v0:List Int),Ty.bd (.sl 0 (.int .u8)) v0->∃N0,∀N,N0<=N->Z0 N v0 (λv2=>some ((),(v2,())))=some ((),((g v0),()))
def zd{b:List Int}(h:b.length<=maxLen):bn b (bL.g b)=true:=by rw[oQ];exact⟨Int.le_refl 0,by show(0:Int)<=_;omega,h⟩
def fmt_sz(f:Int×List (List Int×Int)):(bW.g f).size<=151222:=by
 unfold bW.g;split;·rename_i h;exact xE h
 ·exact Nat.zero_le _
def ze(b:List Int)(r:Int×Int):(dC.g b r jC).2.size<=7:=by
 unfold dC.g;generalize(aB.g b r (jC.length:Int)).2.toNat=i;show(jC.getD i ByteArray.empty).size<=7;match i with
 |0=>decide
 |1=>decide
 |2=>decide
 |3=>decide
 |4=>decide
 |5=>decide
 |6=>decide
 |i+7=>exact Nat.zero_le _
def g_sz(b:List Int):(g b).size<=151229:=by
 unfold g;have h1:=fmt_sz (gc b).2;have h2:=ze b (gI b).1;split;·rw[ByteArray.size_append];omega
 ·omega
def Gh(b:List Int):1<=af (1+(aB.g b (bL.g b) 3).2)/\af (1+(aB.g b (bL.g b) 3).2)<=3:=by have hr:=aB.range (b:=b) (r:=bL.g b) (n:=3) (by omega) (by omega);rw[cO (by omega) (by omega)];omega
def ok:Spec:=λb hb=>⟨0,λN hN=>by
 have h0:=zd hb.1;have hv:=Gh b;have p0:aB.P b (bL.g b) 3=true:=h0;have h1:bn b (tA b).1=true:=aB.keep h0;have p1:bR.P b (aB.g b (bL.g b) 3).1 (af (1+(aB.g b (bL.g b) 3).2))=true:=by simp only[bR.P,Bool.and_eq_true,d8];exact⟨h1,by omega,by omega⟩
 have e1:bR.g b (aB.g b (bL.g b) 3).1 (af (1+(aB.g b (bL.g b) 3).2))=gc b:=rfl;have c2:bn b (gc b).1=true:=bR.keep h1;have e2:dX.g b (gc b).1 4=gI b:=rfl;have p3:dX.P b (gc b).1 4=true:=c2;have c3:bn b (gI b).1=true:=dX.keep c2;have p4:dC.P b (gI b).1 jC=true:=by simp only[dC.P,c3,Bool.true_and];rfl
 have e3:([(⟨#[44]⟩:ByteArray),(⟨#[44,32,49,58,48]⟩:ByteArray),(⟨#[32]⟩:ByteArray),(⟨#[124]⟩:ByteArray),(⟨#[58]⟩:ByteArray),(⟨#[44,32,49,58,48,32,48]⟩:ByteArray),(⟨#[48]⟩:ByteArray)]:List ByteArray)=jC:=rfl;have s1:=fmt_sz (gc b).2;have s2:=ze b (gI b).1;have c4:Nat.blt ((bW.g (gc b).2).size+(dC.g b (gI b).1 jC).2.size) 4611686018427387904=true:=Nat.ble_eq_true_of_le (by omega);simp only[Z0,aM,p0,p1,e1,p3,e2,e3,p4,c4,cond_true];unfold g;cases(gI b).2;·rw[if_neg (by simp)];rfl
 ·rw[if_pos rfl];rfl⟩
end cZ
namespace ed
def g(n low high:Int):Bool:=aN n low high
def Z0{J:Type}(N:Nat)(a b c:Int)(kr:Bool->Option J):Option J :=
 cond (lk N (decide (b<=a)))
 (
  kr (lk N (decide (a<=c))))
 (
  kr false)
def Spec:Prop:=∀ (v0 v1 v2:Int),∃N0,∀N,N0<=N->Z0 N v0 v1 v2 (λv6=>some ((),(v6,())))=some ((),((g v0 v1 v2),()))
def ok:Spec:=λn low high=>⟨0,λN hN=>by simp only[Z0,aM,g,aN];cases decide (low<=n)<;>rfl⟩
end ed
namespace dY
def g(e:Int):Bool:=!(aN e (-20) 20)
def Z0{J:Type}(N:Nat)(a:Int)(kr:Bool->Option J):Option J :=
 kr (!(lk N ((ed.g a (-20) 20))))
def Spec:Prop:=∀ (v0:Int),∃N0,∀N,N0<=N->Z0 N v0 (λv2=>some ((),(v2,())))=some ((),((g v0),()))
def ok:Spec:=λe=>⟨0,λN hN=>by simp only[Z0,aM,g,ed.g]⟩
end dY
namespace dn
def go(p:Int->Bool):List Int->Nat->Int
 |[],_=>-1
 |x::xs,j=>if p x=true then(j:Int)else go p xs (j+1)
def g(s:List Int)(_:Unit):Int:=go dY.g s 0
def Z1{J:Type}(N:Nat)(a:LI)(b:Unit)(kn:LI->Option J):Option J :=
 kn a
def Z4{J:Type}(N:Nat)(a:LI)(kn:LI->I2 (Option J)):Option J :=
 kn a (a.length:Int) 0
def Z7{J:Type}(N:Nat)(b:LI)(c a:Int)(kn:LI->I2 (Option J))(k0:Option J)(kr:Int->Option J):Option J :=
 cond (lk N (decide (a<c)))
 (
  cond (lk N (aI a b.length)) (
   cond (lk N ((dY.g (b.getD a.toNat 0))))
   (
    kr a)
   (
    kn b c (af (a+1)))) none)
 (
  k0)
def Z6L{J:Type}(N:Nat)(k0:Option J)(kr:Int->Option J):Nat->LI->Int->Int->Option J
 |0,_,_,_=>none
 |M+1,a,b,c=>Z7 N a b c (λa b c=>Z6L N k0 kr M a b c) k0 kr
def Z6 N a b c k0 kr:=(Z6L N k0 kr N a b c:Option J)
def Z5 N a b c kn kr:=(Z6 N a b c kn kr:Option J)
def Z3 N a kn kr:=(Z4 N a (λa b c=>Z5 N a b c kn kr):Option J)
def Z8{J:Type}(N:Nat) (kr:Int->Option J):Option J :=
 kr (-1)
def Z2 N a kr:=(Z3 N a (Z8 N kr) kr:Option J)
def Z0 N a b kr:=(Z1 N a b (λa=>Z2 N a kr):Option J)
def Spec:Prop:=∀ (v0:LI) (v1:Unit),Ty.bd (.sl 0 (.int .i64)) v0->∃N0,∀N,N0<=N->Z0 N v0 v1 (λv4=>some ((),(v4,())))=some ((),((g v0 v1),()))
def loop{J:Type}(N:Nat)(kr:Int->Option J)(a:List Int)(ha:a.length<=maxLen):∀(M j:Nat),j<=a.length->a.length-j<M ->
  Z6L N (kr (-1)) kr M a (a.length:Int) (j:Int)=kr (go dY.g (a.drop j) j):=by
 intro M;induction M with
 |zero=>intro j _ h;omega
 |succ M ih =>
  intro j hj hM;simp only[Z6L,Z7];by_cases h:j<a.length
  ·rw[ct (dt (by omega)),ct (bh h),Int.toNat_natCast,cI (by omega),ih (j+1) h (by omega),dA 0 h,go];cases e:dY.g (a.getD j 0);·rw[cf rfl,if_neg (by simp)]
   ·rw[ct rfl,if_pos rfl]
  ·rw[cf (df (by omega)),List.drop_of_length_le (by omega),go]
def ok:Spec:=λa _ ha=>⟨a.length+1,λN hN=>by simp only[Z1,Z4,Z7,Z6,Z5,Z3,Z8,Z2,Z0];exact(loop N (λt=>some ((),(t,()))) a ha.1 N 0 (by omega) (by omega)).trans rfl⟩
def go_pos(p:Int->Bool):∀(l:List Int) (j:Nat),0<=go p l j↔∃x∈l,p x=true
 |[],j=>by simp[go]
 |x::xs,j=>by
  rw[go];by_cases h:p x=true;·rw[if_pos h];simp[h]
  ·rw[if_neg h,go_pos p xs];simp[h]
end dn
namespace gO
def g(s:List Int)(_:Unit):Bool:=s.any dY.g
def Z0{J:Type}(N:Nat)(a:LI)(b:Unit)(kr:Bool->Option J):Option J :=
 kr (lk N (decide (0<=(dn.g a ()))))
def Spec:Prop:=∀ (v0:LI) (v1:Unit),Ty.bd (.sl 0 (.int .i64)) v0->∃N0,∀N,N0<=N->Z0 N v0 v1 (λv4=>some ((),(v4,())))=some ((),((g v0 v1),()))
def ok:Spec:=λa _ ha=>⟨0,λN hN=>by
 simp only[Z0,aM,g];have:=(show 0<=dn.g a ()↔∃x∈a,dY.g x=true from dn.go_pos dY.g a 0);cases e:a.any dY.g;·rw[df (λh=>by have:=this.1 h;rw[<-List.any_eq_true,e]at this;cases this)]
 ·rw[dt (this.2 (List.any_eq_true.1 e))]⟩
end gO
namespace gP
def g(exp:List Int)(vars:Int):Bool:=gA vars exp
def Z0{J:Type}(N:Nat)(a:LI)(b:Int)(kr:Bool->Option J):Option J :=
 cond (lk N (decide ((a.length:Int)=b)))
 (
  kr (!(lk N ((gO.g a ())))))
 (
  kr false)
def Spec:Prop:=∀ (v0:LI) (v1:Int),Ty.bd (.sl 0 (.int .i64)) v0->∃N0,∀N,N0<=N->Z0 N v0 v1 (λv4=>some ((),(v4,())))=some ((),((g v0 v1),()))
def ok:Spec:=λexp vars hb=>⟨0,λN hN=>by
 simp only[Z0,aM,g,gO.g,gA];by_cases h:(exp.length:Int)=vars;·simp only[dt h,cond_true,Bool.true_and,List.not_any_eq_all_not];simp[dY.g]
 ·simp only[df h,cond_false,Bool.false_and]⟩
end gP
namespace gQ
def g(c:Int):Bool:=iv c
def Z0{J:Type}(N:Nat)(a:Int)(kr:Bool->Option J):Option J :=
 cond (lk N (!(decide (a=0))))
 (
  kr (lk N ((ed.g a (-1000000) 1000000))))
 (
  kr false)
def Spec:Prop:=∀ (v0:Int),∃N0,∀N,N0<=N->Z0 N v0 (λv2=>some ((),(v2,())))=some ((),((g v0),()))
def ok:Spec:=λc=>⟨0,λN hN=>by simp only[Z0,aM,g,ed.g,iv];cases decide (c=0)<;>rfl⟩
end gQ
namespace fL
def g(_:Int):Bool:=false
def Z0{J:Type}(N:Nat)(a:Int)(kr:Bool->Option J):Option J :=
 kr (lk N (!(decide (a=a))))
def Spec:Prop:=∀ (v0:Int),∃N0,∀N,N0<=N->Z0 N v0 (λv2=>some ((),(v2,())))=some ((),((g v0),()))
def ok:Spec:=λx=>⟨0,λN hN=>by simp[Z0,aM,g]⟩
end fL
namespace ft
def g(x y:Int):Int:=if x=y then 0 else if x<y then -1 else 1
def Z0{J:Type}(N:Nat)(b a:Int)(kr:Int->Option J):Option J :=
 cond (lk N ((fL.g b)))
 (
  cond (lk N ((fL.g a)))
  (
   kr 0)
  (
   kr (-1)))
 (
  cond (lk N ((fL.g a)))
  (
   kr 1)
  (
   cond (lk N (decide (b<a)))
   (
    kr (-1))
   (
    cond (lk N (decide (a<b)))
    (
     kr 1)
    (
     kr 0))))
def Spec:Prop:=∀ (v0 v1:Int),∃N0,∀N,N0<=N->Z0 N v0 v1 (λv4=>some ((),(v4,())))=some ((),((g v0 v1),()))
def ok:Spec:=λx y=>⟨0,λN hN=>by
 simp only[Z0,aM,g,fL.g,cond_false];by_cases h:x<y;·rw[dt h,if_neg (by omega),if_pos h];rfl
 ·rw[df h];by_cases h2:y<x;·rw[dt h2,if_neg (by omega),if_neg h];rfl
  ·rw[df h2,if_pos (by omega)];rfl⟩
end ft
namespace dD
abbrev g(a b:List Int):Int:=iu a b
def Z1{J:Type}(N:Nat)(a b:LI)(kn:LI->LI->Option J):Option J :=
 kn a b
def Z4{J:Type}(N:Nat)(a b:LI)(kn:LI->LI->LI->I2 (Option J)):Option J :=
 kn a b a (a.length:Int) 0
def Z7{J:Type}(N:Nat)(d b c:LI)(e a:Int)(kn:LI->LI->LI->I2 (Option J))(k0:LI->LI->Option J)(kr:Int->Option J):Option J :=
 cond (lk N (decide (a<e)))
 (
  cond (lk N (aI a c.length)) (
   cond (lk N (decide ((b.length:Int)<=a)))
   (
    kr 1)
   (
    cond (lk N (aI a b.length)) (
     cond (lk N (!(decide ((ft.g (c.getD a.toNat 0) (b.getD a.toNat 0))=0))))
     (
      kr (ft.g (c.getD a.toNat 0) (b.getD a.toNat 0)))
     (
      kn d b c e (af (a+1)))) none)) none)
 (
  k0 d b)
def Z6L{J:Type}(N:Nat)(k0:LI->LI->Option J)(kr:Int->Option J):Nat->LI->LI->LI->Int->Int->Option J
 |0,_,_,_,_,_=>none
 |M+1,a,b,c,d,e=>Z7 N a b c d e (λa b c d e=>Z6L N k0 kr M a b c d e) k0 kr
def Z6 N a b c d e k0 kr:=(Z6L N k0 kr N a b c d e:Option J)
def Z5 N a b c d e kn kr:=(Z6 N a b c d e kn kr:Option J)
def Z3 N a b kn kr:=(Z4 N a b (λa b c d e=>Z5 N a b c d e kn kr):Option J)
def Z8{J:Type}(N:Nat)(a b:LI)(kr:Int->Option J):Option J :=
 cond (lk N (decide ((a.length:Int)<(b.length:Int))))
 (
  kr (-1))
 (
  kr 0)
def Z2 N a b kr:=(Z3 N a b (λa b=>Z8 N a b kr) kr:Option J)
def Z0 N a b kr:=(Z1 N a b (λa b=>Z2 N a b kr):Option J)
def Spec:Prop:=∀ (v0 v1:LI),Ty.bd (.sl 0 (.int .i64)) v0->Ty.bd (.sl 0 (.int .i64)) v1->∃N0,∀N,N0<=N->Z0 N v0 v1 (λv4=>some ((),(v4,())))=some ((),((g v0 v1),()))
def loop{J:Type}(N:Nat)(k0:List Int->List Int->Option J)(kr:Int->Option J)(a b:List Int)(ha:a.length<=maxLen)(h0:k0 a b=if a.length<b.length then kr (-1)else kr 0):∀(M j:Nat),j<=a.length->j<=b.length->a.length-j<M ->
  Z6L N k0 kr M a b a (a.length:Int) (j:Int)=kr (iu (a.drop j) (b.drop j)):=by
 intro M;induction M with
 |zero=>intro j _ _ h;omega
 |succ M ih =>
  intro j hj hb hM;simp only[Z6L,Z7];by_cases h:j<a.length
  ·rw[ct (dt (by omega)),ct (bh h),dA 0 h];by_cases h2:j<b.length
   ·rw[cf (df (by omega)),ct (bh h2),Int.toNat_natCast,cI (by omega),dA (l:=b) 0 h2,iu,ih (j+1) h h2 (by omega)];by_cases e:a.getD j 0=b.getD j 0;·rw[cf (nf (by rw[ft.g,if_pos e])),if_pos e]
    ·rw[ct (nt (by simp only[ft.g,if_neg e];split<;>omega)),if_neg e];simp only[ft.g,if_neg e]
   ·rw[ct (dt (by omega)),List.drop_of_length_le (l:=b) (by omega)];rfl
  ·rw[cf (df (by omega)),List.drop_of_length_le (by omega),h0];by_cases h2:j<b.length;·rw[if_pos (by omega),dA (l:=b) 0 h2];rfl
   ·rw[if_neg (by omega),List.drop_of_length_le (l:=b) (by omega)];rfl
def ok:Spec:=λa b ha hb=>⟨a.length+1,λN hN=>by
 simp only[Z1,Z4,Z7,Z6,Z5,Z3,Z8,Z2,Z0];refine(loop N _ (λt=>some ((),(t,()))) a b ha.1 ?_ N 0 (by omega) (by omega) (by omega)).trans rfl;by_cases h:a.length<b.length;·rw[ct (dt (by omega)),if_pos h]
 ·rw[cf (df (by omega)),if_neg h]⟩
end dD
end
end Go.Fw
