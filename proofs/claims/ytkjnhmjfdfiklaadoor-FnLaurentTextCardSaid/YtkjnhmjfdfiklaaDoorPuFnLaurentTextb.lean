/- The plain part: what the functions compute, in lists and numbers. Nothing is assumed. -/
import Derived.Test.YtkjnhmjfdfiklaaDoorFwd
import Derived.Test.YtkjnhmjfdfiklaaDoorPuFnLaurentTexta
noncomputable section
set_option linter.defProp false
set_option linter.defProp false
set_option linter.unusedSectionVars false
set_option linter.unusedVariables false
set_option linter.unusedSimpArgs false
set_option maxRecDepth 100000
namespace Go.Fw
section
variable {J : Type}
namespace cw
def g(f:Int×List (List Int×Int)):Bool:=bO f
def Z1{J:Type}(N:Nat)(a:Int×List (LI×Int))(kn:Int->(List (LI×Int))->Option J):Option J :=
 kn a.1 a.2
def Z3{J:Type}(N:Nat)(a:Int)(b:List (LI×Int))(kn:Int->(List (LI×Int))->Option J)(kr:Bool->Option J):Option J :=
 cond (!(lk N ((ed.g a 1 8))))
 (
  kr false)
 (
  cond (lk N (decide (600<(b.length:Int))))
  (
   kr false)
  (
   kn a b))
def Z6{J:Type}(N:Nat)(b:Int)(a:List (LI×Int))(kn:(List (LI×Int))->I3 ((List (LI×Int))->Option J)):Option J :=
 kn a (a.length:Int) 0 b a
def Z9{J:Type}(N:Nat)(b:List (LI×Int))(d a e:Int)(c:List (LI×Int))(kn:(List (LI×Int))->I3 ((List (LI×Int))->Option J))(k0:Option J)(kr:Bool->Option J):Option J :=
 cond (lk N (decide (a<d)))
 (
  cond (lk N (aI a b.length)) (
   cond (!(lk N ((gP.g (b.getD a.toNat ([],0)).1 e))))
   (
    kr false)
   (
    cond (!(lk N ((gQ.g (b.getD a.toNat ([],0)).2))))
    (
     kr false)
    (
     cond (lk N (decide (0<a)))
     (
      cond (lk N (aI (af (a-1)) c.length)) (
       cond (lk N (decide ((dD.g (c.getD (af (a-1)).toNat ([],0)).1 (b.getD a.toNat ([],0)).1)<=0)))
       (
        kr false)
       (
        kn b d (af (a+1)) e c)) none)
     (
      kn b d (af (a+1)) e c)))) none)
 (
  k0)
def Z8L{J:Type}(N:Nat)(k0:Option J)(kr:Bool->Option J):Nat->(List (LI×Int))->Int->Int->Int->(List (LI×Int))->Option J
 |0,_,_,_,_,_=>none
 |M+1,a,b,c,d,e=>Z9 N a b c d e (λa b c d e=>Z8L N k0 kr M a b c d e) k0 kr
def Z8 N a b c d e k0 kr:=(Z8L N k0 kr N a b c d e:Option J)
def Z7 N a b c d e kn kr:=(Z8 N a b c d e kn kr:Option J)
def Z5 N a b kn kr:=(Z6 N a b (λc d e a b=>Z7 N c d e a b kn kr):Option J)
def Z10{J:Type}(N:Nat) (kr:Bool->Option J):Option J :=
 kr true
def Z4 N a b kr:=(Z5 N a b (Z10 N kr) kr:Option J)
def Z2 N a b kr:=(Z3 N a b (λa b=>Z4 N a b kr) kr:Option J)
def Z0 N a kr:=(Z1 N a (λb c=>Z2 N b c kr):Option J)
def Spec:Prop:=∀ (v0:Int×List (LI×Int)),Ty.bd (.pair (.int .i64) (.sl 0 (.pair (.sl 0 (.int .i64)) (.int .i64)))) v0->∃N0,∀N,N0<=N->Z0 N v0 (λv2=>some ((),(v2,())))=some ((),((g v0),()))
def loop{J:Type}(N:Nat)(kr:Bool->Option J)(v:Int)(l:List (List Int×Int))(hl:l.length<=maxLen):∀(M j:Nat),j<=l.length->l.length-j<M ->
  Z8L N (kr true) kr M l (l.length:Int) (j:Int) v l=kr (fX v (l.drop j) (oP l j)):=by
 intro M;induction M with
 |zero=>intro j _ h;omega
 |succ M ih =>
  intro j hj hM;simp only[Z8L,Z9];by_cases h:j<l.length
  ·rw[ct (dt (by omega)),ct (bh h),Int.toNat_natCast,cI (by omega),dA ([],0) h,fX,ih (j+1) h (by omega)];simp only[aM,gP.g,gQ.g];cases gA v (l.getD j ([],0)).1;·rfl
   cases iv (l.getD j ([],0)).2;·rfl
   simp only[Bool.not_true,cond_false,Bool.true_and];cases j with
   |zero=>rfl
   |succ j =>rw[dt (show(0:Int)<((j+1:Nat):Int) by omega),show af (((j+1:Nat):Int)-1)=(j:Int) by rw[cO (by omega) (by rw[cR]at hl;omega)];omega,bh (by omega)];simp only[cond_true,Int.toNat_natCast,dD.g,xp,oP,sN];cases fF (l.getD (j+1) ([],0)).1 (l.getD j ([],0)).1<;>rfl
  ·rw[cf (df (by omega)),List.drop_of_length_le (by omega),fX]
def ok:Spec:=λf hb=>⟨f.2.length+1,λN hN=>by
 simp only[Z1,Z3,Z6,Z9,Z8,Z7,Z5,Z10,Z4,Z2,Z0,g,bO,ed.g];cases h1:aN f.1 1 8;·simp[aM]
 by_cases h2:(600:Int)<f.2.length;·rw[eT (by simp[aM]),ct (dt h2),df (by omega)];simp
 ·rw[eT (by simp[aM]),cf (df h2),dt (show f.2.length<=600 by omega)];exact(loop N (λt=>some ((),(t,()))) _ f.2 hb.2.1 N 0 (by omega) (by omega)).trans rfl⟩
end cw
namespace strconv_Itoa
def g(n:Int):ByteArray:=aU n
def P(n:Int):Bool:=cz n
def ok:True:=trivial
end strconv_Itoa
namespace bS
def g(n:Int):ByteArray:=aU n
def P(n:Int):Bool:=cz n
def Z0{J:Type}(N:Nat)(a:Int)(kr:ByteArray->Option J):Option J :=
 cond (lk N (strconv_Itoa.P a)) (
  kr (strconv_Itoa.g a)) none
def Spec:Prop:=∀ (v0:Int),P v0=true->∃N0,∀N,N0<=N->Z0 N v0 (λv2=>some ((),(v2,())))=some ((),((g v0),()))
def ok:Spec:=λn hp=>⟨0,λN hN=>by simp only[Z0];rw[ct (show strconv_Itoa.P n=true from hp)];rfl⟩
end bS
namespace strings_Join
def g(xs:List ByteArray)(sep:ByteArray):ByteArray:=⟨(Lib.join (xs.map (·.data.toList)) sep.data.toList).toArray⟩
def P(xs:List ByteArray)(sep:ByteArray):Bool:=Nat.ble xs.length 140737488355328&&Nat.ble (Lib.join (xs.map (·.data.toList)) sep.data.toList).length 140737488355328
def ok:True:=trivial
end strings_Join
namespace b8
def g(l:List Int):ByteArray:=bc l
def P(l:List Int):Bool:=dT l
def Z1{J:Type}(N:Nat)(a:LI)(kn:LI->Option J):Option J :=
 kn a
def Z3{J:Type}(N:Nat)(a:LI)(kn:LI->Option J):Option J :=
 kn a
def Z6{J:Type}(N:Nat)(a:LI)(kn:LI->I2 (Option J)):Option J :=
 kn a (a.length:Int) 0
def Z9{J:Type}(N:Nat)(c:List ByteArray)(b:LI)(d a:Int)(kn:List ByteArray->LI->I2 (Option J))(k0:List ByteArray->Option J):Option J :=
 cond (lk N (decide (a<d)))
 (
  cond (lk N (aI a b.length)) (
   cond (lk N (bS.P (b.getD a.toNat 0))) (
    cond (lk N (Nat.blt (c.length+([(bS.g (b.getD a.toNat 0))]:List ByteArray).length) 1099511627776)) (
     kn (c++([(bS.g (b.getD a.toNat 0))]:List ByteArray)) b d (af (a+1))) none) none) none)
 (
  k0 c)
def Z8L{J:Type}(N:Nat)(k0:List ByteArray->Option J):Nat->List ByteArray->LI->Int->Int->Option J
 |0,_,_,_,_=>none
 |M+1,a,b,c,d=>Z9 N a b c d (λa b c d=>Z8L N k0 M a b c d) k0
def Z8 N a b c k0:=(Z8L N k0 N ([]:List ByteArray) a b c:Option J)
def Z7 N a b c kn:=(Z8 N a b c kn:Option J)
def Z5 N a kn:=(Z6 N a (λb c d=>Z7 N b c d kn):Option J)
def Z10{J:Type}(N:Nat)(a:List ByteArray)(kr:ByteArray->Option J):Option J :=
 cond (lk N (strings_Join.P a (⟨#[32]⟩:ByteArray))) (
  kr (strings_Join.g a (⟨#[32]⟩:ByteArray))) none
def Z4 N a kr:=(Z5 N a (λb=>Z10 N b kr):Option J)
def Z2 N a kr:=(Z3 N a (λa=>Z4 N a kr):Option J)
def Z0 N a kr:=(Z1 N a (λa=>Z2 N a kr):Option J)
def Spec:Prop:=∀ (v0:LI),Ty.bd (.sl 0 (.int .i64)) v0->P v0=true->∃N0,∀N,N0<=N->Z0 N v0 (λv2=>some ((),(v2,())))=some ((),((g v0),()))
def loop{J:Type}{N:Nat}(k0:List ByteArray->Option J){l:List Int}(hp:dT l=true):∀(M j:Nat),j<=l.length->l.length-j<M->Z8L N k0 M ((l.take j).map aU) l (l.length:Int) (j:Int)=k0 (l.map aU):=by
 simp only[dT,Bool.and_eq_true,decide_eq_true_eq]at hp;intro M;induction M with
 |zero=>intro j _ h;omega
 |succ M ih =>
  intro j hj hM;simp only[Z8L,Z9];by_cases h:j<l.length
  ·have h1:bS.P (l.getD j 0)=true:=List.all_eq_true.1 hp.2 _ (dK 0 h);have h2:bS.g (l.getD j 0)=aU (l.getD j 0):=rfl;have h3:∀x:ByteArray,Nat.blt (((l.take j).map aU).length+([x]:List ByteArray).length) 1099511627776=true:=λx=>Nat.ble_eq_true_of_le (by simp;omega);rw[ct (dt (by omega)),ct (bh h),Int.toNat_natCast,ct h1,h2,ct (h3 _),cI (by rw[cR];omega)];have e:(l.take j).map aU++[aU (l.getD j 0)]=(l.take (j+1)).map aU:=by rw[<-ir 0 h,List.map_append];rfl
   rw[e];exact ih (j+1) h (by omega)
  ·rw[cf (df (by omega)),List.take_of_length_le (by omega)]
def ok:Spec:=λl hb hp=>⟨l.length+1,λN hN=>by
 have hp':=hp;simp only[P,dT,Bool.and_eq_true,decide_eq_true_eq]at hp';simp only[Z1,Z3,Z6,Z9,Z8,Z7,Z5,Z10,Z4,Z2,Z0];refine(loop _ hp N 0 (Nat.zero_le _) (by omega)).trans ?_;have e:((l.map aU).map (·.data.toList))=l.map Lib.itoa:=by rw[List.map_map];exact List.map_congr_left λn _=>sQ n
 have hlen:=oU hp'.2;have e2:(⟨#[32]⟩:ByteArray).data.toList=[32]:=rfl;have hP:strings_Join.P (l.map aU) ⟨#[32]⟩=true:=by simp only[strings_Join.P,e,e2,Bool.and_eq_true,List.length_map];exact⟨Nat.ble_eq_true_of_le (by omega),Nat.ble_eq_true_of_le (show(aY l).length<=_ by omega)⟩
 have hg:strings_Join.g (l.map aU) ⟨#[32]⟩=bc l:=by simp only[strings_Join.g,e,e2];rfl
 rw[ct hP,hg];rfl⟩
end b8
namespace bF
def g(f:Int×List (List Int×Int)):ByteArray:=if bO f=true then cd f else ByteArray.empty
def Z1{J:Type}(N:Nat)(a:Int×List (LI×Int))(kn:Int->(List (LI×Int))->Option J):Option J :=
 kn a.1 a.2
def Z3{J:Type}(N:Nat)(a:Int)(b:List (LI×Int))(kn:Int->(List (LI×Int))->Option J)(kr:ByteArray->Option J):Option J :=
 cond (!(lk N ((cw.g (a,b)))))
 (
  kr ByteArray.empty)
 (
  kn a b)
def Z5{J:Type}(N:Nat)(a:Int)(b:List (LI×Int))(kn:Int->(List (LI×Int))->Option J):Option J :=
 kn a b
def Z8{J:Type}(N:Nat)(b:Int)(a:List (LI×Int))(kn:(List (LI×Int))->I3 ((List (LI×Int))->Option J)):Option J :=
 kn a (a.length:Int) 0 b a
def Z11{J:Type}(N:Nat)(c:List ByteArray)(b:List (LI×Int))(d a e:Int)(f:List (LI×Int))(kn:List ByteArray->(List (LI×Int))->I3 ((List (LI×Int))->Option J))(k0:List ByteArray->Int->(List (LI×Int))->Option J):Option J :=
 cond (lk N (decide (a<d)))
 (
  cond (lk N (aI a b.length)) (
   cond (lk N (bS.P (b.getD a.toNat ([],0)).2)) (
    cond (Nat.blt ((bS.g (b.getD a.toNat ([],0)).2).size+(⟨#[58]⟩:ByteArray).size) 4611686018427387904) (
     cond (lk N (b8.P (b.getD a.toNat ([],0)).1)) (
      cond (Nat.blt (((bS.g (b.getD a.toNat ([],0)).2)++(⟨#[58]⟩:ByteArray)).size+(b8.g (b.getD a.toNat ([],0)).1).size) 4611686018427387904) (
       cond (lk N (Nat.blt (c.length+([(((bS.g (b.getD a.toNat ([],0)).2)++(⟨#[58]⟩:ByteArray))++(b8.g (b.getD a.toNat ([],0)).1))]:List ByteArray).length) 1099511627776)) (
        kn (c++([(((bS.g (b.getD a.toNat ([],0)).2)++(⟨#[58]⟩:ByteArray))++(b8.g (b.getD a.toNat ([],0)).1))]:List ByteArray)) b d (af (a+1)) e f) none) none) none) none) none) none)
 (
  k0 c e f)
def Z10L{J:Type}(N:Nat)(k0:List ByteArray->Int->(List (LI×Int))->Option J):Nat->List ByteArray->(List (LI×Int))->Int->Int->Int->(List (LI×Int))->Option J
 |0,_,_,_,_,_,_=>none
 |M+1,a,b,c,d,e,f=>Z11 N a b c d e f (λa b c d e f=>Z10L N k0 M a b c d e f) k0
def Z10 N a b c d e k0:=(Z10L N k0 N ([]:List ByteArray) a b c d e:Option J)
def Z9 N a b c d e kn:=(Z10 N a b c d e kn:Option J)
def Z7 N a b kn:=(Z8 N a b (λc d e a b=>Z9 N c d e a b kn):Option J)
def Z12{J:Type}(N:Nat)(b:List ByteArray)(a:Int)(c:List (LI×Int))(kr:ByteArray->Option J):Option J :=
 cond (lk N (decide ((b.length:Int)=0)))
 (
  cond (lk N (bS.P a)) (
   cond (Nat.blt ((bS.g a).size+(⟨#[124]⟩:ByteArray).size) 4611686018427387904) (
    cond (lk N (strings_Join.P ([(⟨#[48]⟩:ByteArray)]:List ByteArray) (⟨#[44,32]⟩:ByteArray))) (
     cond (Nat.blt (((bS.g a)++(⟨#[124]⟩:ByteArray)).size+(strings_Join.g ([(⟨#[48]⟩:ByteArray)]:List ByteArray) (⟨#[44,32]⟩:ByteArray)).size) 4611686018427387904) (
      kr (((bS.g a)++(⟨#[124]⟩:ByteArray))++(strings_Join.g ([(⟨#[48]⟩:ByteArray)]:List ByteArray) (⟨#[44,32]⟩:ByteArray)))) none) none) none) none)
 (
  cond (lk N (bS.P a)) (
   cond (Nat.blt ((bS.g a).size+(⟨#[124]⟩:ByteArray).size) 4611686018427387904) (
    cond (lk N (strings_Join.P b (⟨#[44,32]⟩:ByteArray))) (
     cond (Nat.blt (((bS.g a)++(⟨#[124]⟩:ByteArray)).size+(strings_Join.g b (⟨#[44,32]⟩:ByteArray)).size) 4611686018427387904) (
      kr (((bS.g a)++(⟨#[124]⟩:ByteArray))++(strings_Join.g b (⟨#[44,32]⟩:ByteArray)))) none) none) none) none)
def Z6 N a b kr:=(Z7 N a b (λc a b=>Z12 N c a b kr):Option J)
def Z4 N a b kr:=(Z5 N a b (λa b=>Z6 N a b kr):Option J)
def Z2 N a b kr:=(Z3 N a b (λa b=>Z4 N a b kr) kr:Option J)
def Z0 N a kr:=(Z1 N a (λb c=>Z2 N b c kr):Option J)
def Spec:Prop:=∀ (v0:Int×List (LI×Int)),Ty.bd (.pair (.int .i64) (.sl 0 (.pair (.sl 0 (.int .i64)) (.int .i64)))) v0->∃N0,∀N,N0<=N->Z0 N v0 (λv2=>some ((),(v2,())))=some ((),((g v0),()))
def blt_txt{a b:ByteArray}(h:a.size+b.size<4611686018427387904):Nat.blt (a.size+b.size) 4611686018427387904=true:=Nat.ble_eq_true_of_le h
def loop{J:Type}{N:Nat}{f:Int×List (List Int×Int)}(hf:me f)(k0:List ByteArray->Int->List (List Int×Int)->Option J):∀(M j:Nat),j<=f.2.length->f.2.length-j<M ->
  Z10L N k0 M ((f.2.take j).map λt=>aK (ck t)) f.2 (f.2.length:Int) (j:Int) f.1 f.2=k0 (f.2.map λt=>aK (ck t)) f.1 f.2:=by
 have hn:=hf.n;intro M;induction M with
 |zero=>intro j _ h;omega
 |succ M ih =>
  intro j hj hM;simp only[Z10L,Z11];by_cases h:j<f.2.length
  ·have hm:=dK (l:=f.2) (j:=j) ([],0) h;have h1:bS.P (f.2.getD j ([],0)).2=true:=hf.c _ hm;have h1g:bS.g (f.2.getD j ([],0)).2=aK (Lib.itoa (f.2.getD j ([],0)).2):=rfl;have h2:b8.P (f.2.getD j ([],0)).1=true:=hf.e _ hm;have h2g:b8.g (f.2.getD j ([],0)).1=aK (aY (f.2.getD j ([],0)).1):=rfl;have hl:=hf.l _ hm;have ht:ck (f.2.getD j ([],0))=Lib.itoa (f.2.getD j ([],0)).2++[58]++aY (f.2.getD j ([],0)).1:=rfl;have hl':=hl;rw[ht]at hl';simp only[List.length_append,List.length_cons,List.length_nil]at hl';have e2:(⟨#[58]⟩:ByteArray)=aK [58]:=rfl;have hb:∀x:ByteArray,Nat.blt (((f.2.take j).map λt=>aK (ck t)).length+([x]:List ByteArray).length) 1099511627776=true:=λx=>Nat.ble_eq_true_of_le (by simp;omega);rw[ct (dt (by omega)),Int.toNat_natCast,h1g,h2g,e2];simp only[kC];rw[ct (bh h),ct h1,dc (blt_txt (by rw[bZ,bZ];simp only[List.length_append,List.length_cons,List.length_nil];omega)),ct h2,
    dc (blt_txt (by rw[bZ,bZ];simp only[List.length_append,List.length_cons,List.length_nil];omega)),ct (hb _),cI (by rw[cR];omega),<-ht]
   have e4:((f.2.take j).map λt=>aK (ck t))++[aK (ck (f.2.getD j ([],0)))]=(f.2.take (j+1)).map λt=>aK (ck t):=by rw[<-ir ([],0) h,List.map_append];rfl
   rw[e4];exact ih (j+1) h (by omega)
  ·rw[cf (df (by omega)),List.take_of_length_le (by omega)]
def ok:Spec:=λf hb=>⟨f.2.length+100,λN hN=>by
 have e0:cw.g (f.1,f.2)=bO f:=rfl;simp only[Z0,Z1,Z2,Z3,e0,aM,g];cases h1:bO f;·rfl
 have hf:=sS h1;have hh:=oV hf;have hP:bS.P f.1=true:=mf (by have:=hf.v;omega) (by have:=hf.v;omega);have hg:bS.g f.1=aK (Lib.itoa f.1):=rfl;have e1:(⟨#[124]⟩:ByteArray)=aK [124]:=rfl;have hh':=hh;unfold fi at hh';simp only[List.length_append,List.length_cons,List.length_nil]at hh';simp only[Bool.not_true,cond_false,Z4,Z5,Z6,Z7,Z8,Z9,Z10];have hlp:=loop (J:=Unit×ByteArray×Unit) (N:=N) hf (λout3 f1_0 f1_1=>Z12 N out3 f1_0 f1_1 (λt2=>some ((),(t2,())))) N 0 (Nat.zero_le _) (by omega);rw[List.take_zero,List.map_nil]at hlp;refine hlp.trans ?_;simp only[Z12,List.length_map];have hmap:((f.2.map λt=>aK (ck t)).map (·.data.toList))=bU f:=by
  have h:=E6 (bU f);have h2:(bU f).map aK=f.2.map λt=>aK (ck t):=by unfold bU;rw[List.map_map];rfl
  rw[h2]at h;exact h
 have e2:(⟨#[44,32]⟩:ByteArray).data.toList=[44,32]:=rfl;have hbl:Nat.blt ((bS.g f.1).size+(⟨#[124]⟩:ByteArray).size) 4611686018427387904=true:=blt_txt (by rw[hg,e1,bZ,bZ];simp only[List.length_cons,List.length_nil];omega);by_cases h0:f.2.length=0
 ·have hJ:strings_Join.g [(⟨#[48]⟩:ByteArray)] ⟨#[44,32]⟩=aK [48]:=by simp only[strings_Join.g,List.map_cons,List.map_nil,Lib.join_one];rfl
  have hJP:strings_Join.P [(⟨#[48]⟩:ByteArray)] ⟨#[44,32]⟩=true:=by simp only[strings_Join.P,List.map_cons,List.map_nil,Lib.join_one];rfl
  rw[ct (dt (by omega)),ct hP,dc hbl,ct hJP,hJ,hg,e1];simp only[kC];rw[dc (blt_txt (by rw[bZ,bZ];simp only[List.length_append,List.length_cons,List.length_nil];omega)),if_pos trivial,cd,if_pos h0];rfl
 ·have hp:=sU hf f.2.length;rw[List.take_of_length_le (by rw[fZ];omega)]at hp;have hJ:strings_Join.g (f.2.map λt=>aK (ck t)) ⟨#[44,32]⟩=aK (Lib.join (bU f) [44,32]):=by simp only[strings_Join.g,hmap,e2];rfl
  have hJP:strings_Join.P (f.2.map λt=>aK (ck t)) ⟨#[44,32]⟩=true:=by simp only[strings_Join.P,hmap,e2,List.length_map,Bool.and_eq_true];have:=hf.n;exact⟨Nat.ble_eq_true_of_le (by omega),Nat.ble_eq_true_of_le (by omega)⟩
  rw[cf (df (by omega)),ct hP,dc hbl,ct hJP,hJ,hg,e1];simp only[kC];rw[dc (blt_txt (by rw[bZ,bZ];simp only[List.length_append,List.length_cons,List.length_nil];omega)),if_pos trivial,cd,if_neg h0];rfl⟩
end bF
namespace strings_Cut
def g(s sep:ByteArray):ByteArray×ByteArray×Bool:=b7 s sep
def P(s sep:ByteArray):Bool:=Nat.blt s.size 4294967281
def ok:True:=trivial
end strings_Cut
namespace strings_Split
def g(s sep:ByteArray):List ByteArray:=Lib.splitB sep 0 (Lib.countB s sep) s
def P(s sep:ByteArray):Bool:=Nat.blt s.size 4294967281&&Nat.ble 1 sep.size
def ok:True:=trivial
end strings_Split
namespace eE
def g(s:ByteArray):Int×Bool:=fj s
def P(s:ByteArray):Bool:=decide (s.size<=1048576)
def ok:True:=trivial
end eE
namespace bp
def P(s:ByteArray):Bool:=decide (s.size<=1048576)
def g(s:ByteArray):List Int×Bool:=bI s
def Z1{J:Type}(N:Nat)(a:ByteArray)(kn:ByteArray->Option J):Option J :=
 kn a
def Z3{J:Type}(N:Nat)(a:ByteArray)(kn:ByteArray->Option J)(kr:LI->Bool->Option J):Option J :=
 cond (lk N (bD a ByteArray.empty))
 (
  kr ([]:List Int) true)
 (
  kn a)
def Z5{J:Type}(N:Nat)(a:ByteArray)(kn:ByteArray->Option J):Option J :=
 kn a
def Z8{J:Type}(N:Nat)(a:ByteArray)(kn:List ByteArray->ByteArray->I2 (Option J)):Option J :=
 cond (lk N (strings_Split.P a (⟨#[32]⟩:ByteArray))) (
  kn (strings_Split.g a (⟨#[32]⟩:ByteArray)) a ((strings_Split.g a (⟨#[32]⟩:ByteArray)).length:Int) 0) none
def Z11{J:Type}(N:Nat)(c:LI)(b:List ByteArray)(d:ByteArray)(e a:Int)(kn:LI->List ByteArray->ByteArray->I2 (Option J))(k0:LI->ByteArray->Option J)(kr:LI->Bool->Option J):Option J :=
 cond (lk N (decide (a<e)))
 (
  cond (lk N (aI a b.length)) (
   cond (lk N (eE.P (b.getD a.toNat ByteArray.empty))) (
    cond (lk N ((eE.g (b.getD a.toNat ByteArray.empty)).2))
    (
     kr ([]:List Int) false)
    (
     cond (lk N (decide (10<((b.getD a.toNat ByteArray.empty).size:Int))))
     (
      kr ([]:List Int) false)
     (
      cond (!(lk N ((ed.g (eE.g (b.getD a.toNat ByteArray.empty)).1 (-999999999) 999999999))))
      (
       kr ([]:List Int) false)
      (
       cond (lk N (Nat.blt (c.length+([(eE.g (b.getD a.toNat ByteArray.empty)).1]:List Int).length) 1099511627776)) (
        kn (c++([(eE.g (b.getD a.toNat ByteArray.empty)).1]:List Int)) b d e (af (a+1))) none)))) none) none)
 (
  k0 c d)
def Z10L{J:Type}(N:Nat)(k0:LI->ByteArray->Option J)(kr:LI->Bool->Option J):Nat->LI->List ByteArray->ByteArray->Int->Int->Option J
 |0,_,_,_,_,_=>none
 |M+1,a,b,c,d,e=>Z11 N a b c d e (λa b c d e=>Z10L N k0 kr M a b c d e) k0 kr
def Z10 N a b c d k0 kr:=(Z10L N k0 kr N ([]:List Int) a b c d:Option J)
def Z9 N a b c d kn kr:=(Z10 N a b c d kn kr:Option J)
def Z7 N a kn kr:=(Z8 N a (λb a c d=>Z9 N b a c d kn kr):Option J)
def Z12{J:Type}(N:Nat)(a:LI)(b:ByteArray)(kr:LI->Bool->Option J):Option J :=
 cond (lk N (b8.P a)) (
  cond (lk N (!(bD (b8.g a) b)))
  (
   kr ([]:List Int) false)
  (
   kr a true)) none
def Z6 N a kr:=(Z7 N a (λb a=>Z12 N b a kr) kr:Option J)
def Z4 N a kr:=(Z5 N a (λa=>Z6 N a kr):Option J)
def Z2 N a kr:=(Z3 N a (λa=>Z4 N a kr) kr:Option J)
def Z0 N a kr:=(Z1 N a (λa=>Z2 N a kr):Option J)
def Spec:Prop:=∀ (v0:ByteArray),P v0=true->∃N0,∀N,N0<=N->Z0 N v0 (λv2 v3=>some ((),(v2,(v3,()))))=some ((),((g v0).1,((g v0).2,())))
def loop{J:Type}{N:Nat}(k0:List Int->ByteArray->Option J)(kr:List Int->Bool->Option J)(s:ByteArray){ps:List ByteArray}(hps:ps.length<=2000000)(hsz:∀w∈ps,w.size<=1048576):∀(M i:Nat) (out:List Int),i<=ps.length->out.length+(ps.length-i)<=2000000->ps.length-i<M ->
  Z10L N k0 kr M out ps s (ps.length:Int) (i:Int)=match cn dU (ps.drop i)with|some l=>k0 (out++l) s|none=>kr [] false:=by
 intro M;induction M with
 |zero=>intro i out _ _ h;omega
 |succ M ih =>
  intro i out hi ho hM;simp only[Z10L,Z11];by_cases h:i<ps.length
  ·have hb:∀x:Int,Nat.blt (out.length+([x]:List Int).length) 1099511627776=true:=λx=>Nat.ble_eq_true_of_le (by simp;omega);have hP:eE.P (ps.getD i ByteArray.empty)=true:=dt (hsz _ (dK (l:=ps) _ h));have hg:eE.g (ps.getD i ByteArray.empty)=fj (ps.getD i ByteArray.empty):=rfl;have hw:∀n:Int,ed.g n (-999999999) 999999999=aN n (-999999999) 999999999:=λn=>rfl;rw[ct (dt (by omega)),ct (bh h),Int.toNat_natCast,ct hP,dA (l:=ps) ByteArray.empty h,cn,hg,aM];rw[show dU (ps.getD i ByteArray.empty)=(if(fj (ps.getD i ByteArray.empty)).2=true then none else if 10<(ps.getD i ByteArray.empty).size then none else if aN (fj (ps.getD i ByteArray.empty)).1 (-999999999) 999999999=true then some (fj (ps.getD i ByteArray.empty)).1 else none)from rfl];cases herr:(fj (ps.getD i ByteArray.empty)).2
   ·rw[cond_false,if_neg (by simp)];by_cases h10:10<(ps.getD i ByteArray.empty).size;·rw[ct (dt (by omega)),if_pos h10]
    ·rw[cf (df (by omega)),if_neg h10,hw,aM];cases hin:aN (fj (ps.getD i ByteArray.empty)).1 (-999999999) 999999999;·rw[if_neg (by simp)];rfl
     ·rw[if_pos rfl,eT (show(!true)=false from rfl),ct (hb _),cI (by rw[cR];omega),ih (i+1) _ h (by simp;omega) (by omega)];cases cn dU (ps.drop (i+1))with
      |none=>rfl
      |some l=>simp
   ·rw[cond_true,if_pos rfl]
  ·rw[cf (df (by omega)),List.drop_of_length_le (by omega)];simp[cn]
def zf{f:ByteArray->Option Int}:∀{ws:List ByteArray}{l:List Int},cn f ws=some l->l.length=ws.length/\∀n∈l,∃w∈ws,f w=some n
 |[],l,h=>by injection h with h;subst h;exact⟨rfl,λn hn=>by cases hn⟩
 |w::ws,l,h=>by
  rw[cn]at h;cases hw:f w with
  |none=>rw[hw]at h;cases h
  |some n =>
   rw[hw]at h;cases hr:cn f ws with
   |none=>rw[hr]at h;cases h
   |some m =>
    rw[hr]at h;injection h with h;subst h;obtain⟨a,b⟩:=zf hr;refine⟨by simp[a],λx hx=>?_⟩;rcases List.mem_cons.1 hx with rfl|hx;·exact⟨w,List.mem_cons_self ..,hw⟩
    ·obtain⟨v,hv,e⟩:=b x hx;exact⟨v,List.mem_cons_of_mem _ hv,e⟩
def ok:Spec:=λs hp=>⟨s.size+100,λN hN=>by
 have hs:s.size<=1048576:=of_decide_eq_true hp;have h1:strings_Split.P s ⟨#[32]⟩=true:=by simp only[strings_Split.P,Bool.and_eq_true];exact⟨Nat.ble_eq_true_of_le (by omega),rfl⟩
 have h2:strings_Split.g s ⟨#[32]⟩=cP s:=E8 s 32;have hl:=xJ s;simp only[Z0,Z1,Z2,Z3,aM,g,bI];cases he:bD s ByteArray.empty
 ·rw[cond_false,if_neg (by simp)];simp only[Z4,Z5,Z6,Z7,Z8];rw[ct h1,h2];simp only[Z9,Z10];refine(loop _ _ s (ps:=cP s) (by omega) (λw hw=>Nat.le_trans (Fn s w hw) hs) N 0 [] (Nat.zero_le _) (by simp;omega) (by omega)).trans ?_;rw[List.drop_zero];cases hq:cn dU (cP s)with
  |none=>rfl
  |some l =>
   obtain⟨ha,hb⟩:=zf hq;have hR:b8.P l=true:=by show dT l=true;simp only[dT,Bool.and_eq_true,decide_eq_true_eq,List.all_eq_true];refine⟨by omega,λn hn=>?_⟩;obtain⟨w,_,e⟩:=hb n hn;exact Fo e
   simp only[Z12,List.nil_append];rw[ct hR];have hgf:b8.g l=bc l:=rfl;rw[hgf,aM];cases bD (bc l) s<;>rfl
 ·rfl⟩
end bp
namespace aX
def P(s:ByteArray):Bool:=decide (s.size<=1048576)
def g(s:ByteArray):(Int×List (List Int×Int))×Bool:=ga s
def Z1{J:Type}(N:Nat)(a:ByteArray)(kn:ByteArray->Int->Option J):Option J :=
 kn a 0
def Z3{J:Type}(N:Nat)(a:ByteArray)(b:Int)(kn:ByteArray->ByteArray->ByteArray->Bool->Int->Option J):Option J :=
 cond (lk N (strings_Cut.P a (⟨#[124]⟩:ByteArray))) (
  kn a (strings_Cut.g a (⟨#[124]⟩:ByteArray)).1 (strings_Cut.g a (⟨#[124]⟩:ByteArray)).2.1 (lk N ((strings_Cut.g a (⟨#[124]⟩:ByteArray)).2.2)) b) none
def Z5{J:Type}(N:Nat)(b a c:ByteArray)(d:Bool)(e:Int)(kn:LI->ByteArray->ByteArray->Bool->Bool->Int->Option J):Option J :=
 cond (lk N (bp.P a)) (
  kn (bp.g a).1 b c d (lk N ((bp.g a).2)) e) none
def Z7{J:Type}(N:Nat)(a:LI)(b c:ByteArray)(d e:Bool)(f:Int)(kn:LI->ByteArray->ByteArray->Int->Option J)(kr:(List (LI×Int))->Bool->Int->Option J):Option J :=
 cond (!(d))
 (
  kr ([]:List (LI×Int)) false 0)
 (
  cond (!(e))
  (
   kr ([]:List (LI×Int)) false 0)
  (
   cond (lk N (!(decide ((a.length:Int)=1))))
   (
    kr ([]:List (LI×Int)) false 0)
   (
    kn a b c f)))
def Z9{J:Type}(N:Nat)(a:LI)(b c:ByteArray)(d:Int)(kn:ByteArray->ByteArray->I2 (Option J)):Option J :=
 cond (lk N (aI 0 a.length)) (
  kn b c d (a.getD 0 0)) none
def Z12{J:Type}(N:Nat)(b a:ByteArray)(c d:Int)(kn:ByteArray->ByteArray->Bool->I2 (Option J)):Option J :=
 kn b a (lk N (!(bD a (⟨#[48]⟩:ByteArray)))) c d
def Z15{J:Type}(N:Nat)(b a:ByteArray)(e:Bool)(c d:Int)(kn:List ByteArray->ByteArray->I4 (Option J)):Option J :=
 cond (lk N (strings_Split.P a (⟨#[44,32]⟩:ByteArray))) (
  kn (strings_Split.g a (⟨#[44,32]⟩:ByteArray)) b ((strings_Split.g a (⟨#[44,32]⟩:ByteArray)).length:Int) 0 c d) none
def Z18{J:Type}(N:Nat)(b:List ByteArray)(c:List (LI×Int))(d:ByteArray)(e a f h:Int)(kn:List ByteArray->(List (LI×Int))->ByteArray->I4 (Option J))(k0:(List (LI×Int))->ByteArray->I2 (Option J))(kr:(List (LI×Int))->Bool->Int->Option J):Option J :=
 cond (lk N (decide (a<e)))
 (
  cond (lk N (aI a b.length)) (
   cond (lk N (strings_Cut.P (b.getD a.toNat ByteArray.empty) (⟨#[58]⟩:ByteArray))) (
    cond (lk N (bp.P (strings_Cut.g (b.getD a.toNat ByteArray.empty) (⟨#[58]⟩:ByteArray)).1)) (
     cond (lk N (bp.P (strings_Cut.g (b.getD a.toNat ByteArray.empty) (⟨#[58]⟩:ByteArray)).2.1)) (
      cond (!(lk N ((strings_Cut.g (b.getD a.toNat ByteArray.empty) (⟨#[58]⟩:ByteArray)).2.2)))
      (
       kr ([]:List (LI×Int)) false 0)
      (
       cond (!(lk N ((bp.g (strings_Cut.g (b.getD a.toNat ByteArray.empty) (⟨#[58]⟩:ByteArray)).1).2)))
       (
        kr ([]:List (LI×Int)) false 0)
       (
        cond (!(lk N ((bp.g (strings_Cut.g (b.getD a.toNat ByteArray.empty) (⟨#[58]⟩:ByteArray)).2.1).2)))
        (
         kr ([]:List (LI×Int)) false 0)
        (
         cond (lk N (!(decide (((bp.g (strings_Cut.g (b.getD a.toNat ByteArray.empty) (⟨#[58]⟩:ByteArray)).1).1.length:Int)=1))))
         (
          kr ([]:List (LI×Int)) false 0)
         (
          cond (lk N (aI 0 (bp.g (strings_Cut.g (b.getD a.toNat ByteArray.empty) (⟨#[58]⟩:ByteArray)).1).1.length)) (
           cond (lk N (Nat.blt (c.length+([((bp.g (strings_Cut.g (b.getD a.toNat ByteArray.empty) (⟨#[58]⟩:ByteArray)).2.1).1,((bp.g (strings_Cut.g (b.getD a.toNat ByteArray.empty) (⟨#[58]⟩:ByteArray)).1).1.getD 0 0))]:List (LI×Int)).length) 1099511627776)) (
            kn b (c++([((bp.g (strings_Cut.g (b.getD a.toNat ByteArray.empty) (⟨#[58]⟩:ByteArray)).2.1).1,((bp.g (strings_Cut.g (b.getD a.toNat ByteArray.empty) (⟨#[58]⟩:ByteArray)).1).1.getD 0 0))]:List (LI×Int))) d e (af (a+1)) f h) none) none))))) none) none) none) none)
 (
  k0 c d f h)
def Z17L{J:Type}(N:Nat)(k0:(List (LI×Int))->ByteArray->I2 (Option J))(kr:(List (LI×Int))->Bool->Int->Option J):Nat->List ByteArray->(List (LI×Int))->ByteArray->Int->Int->Int->Int->Option J
 |0,_,_,_,_,_,_,_=>none
 |M+1,a,b,c,d,e,f,g=>Z18 N a b c d e f g (λa b c d e f g=>Z17L N k0 kr M a b c d e f g) k0 kr
def Z17 N a b c d e f k0 kr:=(Z17L N k0 kr N a ([]:List (LI×Int)) b c d e f:Option J)
def Z16 N a b c d e f kn kr:=(Z17 N a b c d e f kn kr:Option J)
def Z14 N a d e b c kn kr:=(Z15 N a d e b c (λf a g h b c=>Z16 N f a g h b c kn kr):Option J)
def Z19{J:Type}(N:Nat)(a d:ByteArray)(e:Bool)(b c:Int)(kn:(List (LI×Int))->ByteArray->I2 (Option J)):Option J :=
 kn ([]:List (LI×Int)) a b c
def Z13 N b c a d e kn kr:=(cond (a) (Z14 N b c a d e kn kr) (Z19 N b c a d e kn):Option J)
def Z11 N a b c d kn kr:=(Z12 N a b c d (λa b e c d=>Z13 N a b e c d kn kr):Option J)
def Z20{J:Type}(N:Nat)(a:List (LI×Int))(c:ByteArray)(d b:Int)(kr:(List (LI×Int))->Bool->Int->Option J):Option J :=
 cond (!(lk N ((cw.g (b,a)))))
 (
  kr ([]:List (LI×Int)) false 0)
 (
  cond (lk N (!(bD (bF.g (b,a)) c)))
  (
   kr ([]:List (LI×Int)) false 0)
  (
   kr a true b))
def Z10 N a d b c kr:=(Z11 N a d b c (λe a b c=>Z20 N e a b c kr) kr:Option J)
def Z8 N d a b c kr:=(Z9 N d a b c (λa b c e=>Z10 N a b c e kr):Option J)
def Z6 N a b c e f d kr:=(Z7 N a b c e f d (λa b c d=>Z8 N a b c d kr) kr:Option J)
def Z4 N a e b c d kr:=(Z5 N a e b c d (λf a b c g d=>Z6 N f a b c g d kr):Option J)
def Z2 N a b kr:=(Z3 N a b (λa c d e b=>Z4 N a c d e b kr):Option J)
def Z0 N a kr:=(Z1 N a (λa b=>Z2 N a b kr):Option J)
def Spec:Prop:=∀ (v0:ByteArray),P v0=true->∃N0,∀N,N0<=N->Z0 N v0 (λv2_1 v3 v2_0=>some ((),((v2_0,v2_1),(v3,()))))=some ((),((g v0).1,((g v0).2,())))
def loop{J:Type}{N:Nat}(k0:List (List Int×Int)->ByteArray->Int->Int->Option J)(kr:List (List Int×Int)->Bool->Int->Option J)(s:ByteArray)(t0 v:Int){ps:List ByteArray}(hps:ps.length<=2000000)(hsz:∀w∈ps,w.size<=1048576):∀(M i:Nat) (out:List (List Int×Int)),i<=ps.length->out.length<=i->ps.length-i<M ->
  Z17L N k0 kr M ps out s (ps.length:Int) (i:Int) t0 v=match f9 (ps.drop i) out with|some q=>k0 q s t0 v|none=>kr [] false 0:=by
 intro M;induction M with
 |zero=>intro i out _ _ h;omega
 |succ M ih =>
  intro i out hi ho hM;simp only[Z17L,Z18];by_cases h:i<ps.length
  ·have hmem:=hsz _ (dK (l:=ps) ByteArray.empty h);rw[ct (dt (by omega)),ct (bh h),Int.toNat_natCast,dA (l:=ps) ByteArray.empty h];generalize ps.getD i ByteArray.empty=p at hmem;obtain⟨s1,s2⟩:=yK p ⟨#[58]⟩;have hc:strings_Cut.g p ⟨#[58]⟩=b7 p ⟨#[58]⟩:=rfl;have hcP:strings_Cut.P p ⟨#[58]⟩=true:=Nat.ble_eq_true_of_le (by omega);rw[ct hcP,hc,f9];generalize b7 p ⟨#[58]⟩=x at s1 s2;have h1:bp.P x.1=true:=dt (by omega);have h2:bp.P x.2.1=true:=dt (by omega);have g1:bp.g x.1=bI x.1:=rfl;have g2:bp.g x.2.1=bI x.2.1:=rfl;rw[ct h1,ct h2,g1,g2,aM];cases hx:x.2.2;·rfl
   ·rw[if_pos rfl,eT (show(!true)=false from rfl),aM];cases hy:(bI x.1).2;·rfl
    ·rw[if_pos rfl,eT (show(!true)=false from rfl),aM];cases hw:(bI x.2.1).2;·rfl
     ·rw[if_pos rfl,eT (show(!true)=false from rfl)];by_cases hl:(bI x.1).1.length=1
      ·have hl':(!(decide (((bI x.1).1.length:Int)=1)))=false:=by rw[dt (by omega)];rfl
       rw[cf hl',if_pos hl,ct (yI (by omega)),ct (F7 _ _ (by omega)),cI (by rw[cR];omega)];exact ih (i+1) _ h (by simp;omega) (by omega)
      ·have hl':(!(decide (((bI x.1).1.length:Int)=1)))=true:=by rw[df (by omega)];rfl
       rw[ct hl',if_neg hl]
  ·rw[List.drop_of_length_le (by omega),f9,cf (df (by omega))]
def ok:Spec:=λs hp=>⟨s.size+1000,λN hN=>by
 have hs:s.size<=1048576:=of_decide_eq_true hp;obtain⟨s1,s2⟩:=yK s ⟨#[124]⟩;have hc:strings_Cut.g s ⟨#[124]⟩=b7 s ⟨#[124]⟩:=rfl;have hcP:strings_Cut.P s ⟨#[124]⟩=true:=Nat.ble_eq_true_of_le (by omega);simp only[Z0,Z1,Z2,Z3,g,ga];rw[ct hcP,hc];generalize b7 s ⟨#[124]⟩=x at s1 s2;have h1:bp.P x.1=true:=dt (by omega);have g1:bp.g x.1=bI x.1:=rfl;simp only[Z4,Z5];rw[ct h1,g1];simp only[Z6,Z7,aM];cases hx:x.2.2;·rfl
 rw[if_pos rfl,eT (show(!true)=false from rfl)];cases hy:(bI x.1).2;·rfl
 rw[if_pos rfl,eT (show(!true)=false from rfl)];by_cases hl:(bI x.1).1.length=1
 ·have hl':(!(decide (((bI x.1).1.length:Int)=1)))=false:=by rw[dt (by omega)];rfl
  rw[eT hl',if_pos hl];have key:∀f:Int×List (List Int×Int),Z20 (J:=_) N f.2 s 0 f.1 (λt2_1 t3 t2_0=>some ((),((t2_0,t2_1),(t3,()))))=some ((),((gF s f).1,((gF s f).2,()))):=λf=>by
   have e:bF.g (f.1,f.2)=if bO f=true then cd f else ByteArray.empty:=rfl
   have e2:cw.g (f.1,f.2)=bO f:=rfl;simp only[Z20,aM,gF,e,e2];cases bO f;·rfl
   ·rw[if_pos rfl,if_pos rfl];cases bD (cd f) s<;>rfl
  simp only[Z8,Z9];rw[ct (yI (by omega))];simp only[Z10,Z11,Z12,Z13,aM,mv];cases hz:bD x.2.1 jB
  ·have hz':bD x.2.1 ⟨#[48]⟩=false:=hz;rw[hz',dc (show(!false)=true from rfl),if_neg (by simp)];have hP:strings_Split.P x.2.1 ⟨#[44,32]⟩=true:=by simp only[strings_Split.P,Bool.and_eq_true];exact⟨Nat.ble_eq_true_of_le (by omega),rfl⟩
   have hg2:strings_Split.g x.2.1 ⟨#[44,32]⟩=Lib.splitB ⟨#[44,32]⟩ 0 (Lib.countB x.2.1 ⟨#[44,32]⟩) x.2.1:=rfl;obtain⟨l1,l2⟩:=F8 44 x.2.1;simp only[Z14,Z15];rw[ct hP,hg2];simp only[Z16,Z17];refine(loop _ _ s 0 _ (by omega) (λw hw=>Nat.le_trans (l2 w hw) (by omega)) N 0 [] (Nat.zero_le _) (by simp) (by omega)).trans ?_;rw[List.drop_zero];cases hq:f9 (Lib.splitB ⟨#[44,32]⟩ 0 (Lib.countB x.2.1 ⟨#[44,32]⟩) x.2.1) []with
   |none=>rfl
   |some q=>exact key (_,q)
  ·have hz':bD x.2.1 ⟨#[48]⟩=true:=hz;rw[hz',eT (show(!true)=false from rfl),if_pos rfl];simp only[Z19];exact key (_,[])
 ·have hl':(!(decide (((bI x.1).1.length:Int)=1)))=true:=by rw[df (by omega)];rfl
  rw[dc hl',if_neg hl];rfl⟩
end aX
namespace gi
def g(f:Int×List (List Int×Int)):Bool:=bO f
def Z0{J:Type}(N:Nat)(a:Int×List (LI×Int))(kr:Bool->Option J):Option J :=
 kr (lk N ((bz.g a)))
def Spec:Prop:=∀ (v0:Int×List (LI×Int)),Ty.bd (.pair (.int .i64) (.sl 0 (.pair (.sl 0 (.int .i64)) (.int .i64)))) v0->∃N0,∀N,N0<=N->Z0 N v0 (λv2=>some ((),(v2,())))=some ((),((g v0),()))
def ok:Spec:=λf hb=>⟨0,λN hN=>by simp only[Z0,aM,g,bz.g]⟩
end gi
namespace cT
def g(a b:List Int):Bool:=decide (a=b)
def Z1{J:Type}(N:Nat)(a b:LI)(kn:LI->LI->Option J):Option J :=
 kn a b
def Z3{J:Type}(N:Nat)(a b:LI)(kn:LI->LI->Option J)(kr:Bool->Option J):Option J :=
 cond (lk N (!(decide ((a.length:Int)=(b.length:Int)))))
 (
  kr false)
 (
  kn a b)
def Z6{J:Type}(N:Nat)(a b:LI)(kn:LI->LI->Int->Option J):Option J :=
 kn a b 0
def Z9{J:Type}(N:Nat)(b c:LI)(a:Int)(kn:LI->LI->Int->Option J)(k0:Option J)(kr:Bool->Option J):Option J :=
 cond (lk N (decide (a<(b.length:Int))))
 (
  cond (lk N (aI a b.length)) (
   cond (lk N (aI a c.length)) (
    cond (lk N (!(decide ((b.getD a.toNat 0)=(c.getD a.toNat 0)))))
    (
     kr false)
    (
     kn b c (af (a+1)))) none) none)
 (
  k0)
def Z8L{J:Type}(N:Nat)(k0:Option J)(kr:Bool->Option J):Nat->LI->LI->Int->Option J
 |0,_,_,_=>none
 |M+1,a,b,c=>Z9 N a b c (λa b c=>Z8L N k0 kr M a b c) k0 kr
def Z8 N a b c k0 kr:=(Z8L N k0 kr N a b c:Option J)
def Z7 N a b c kn kr:=(Z8 N a b c kn kr:Option J)
def Z5 N a b kn kr:=(Z6 N a b (λa b c=>Z7 N a b c kn kr):Option J)
def Z10{J:Type}(N:Nat) (kr:Bool->Option J):Option J :=
 kr true
def Z4 N a b kr:=(Z5 N a b (Z10 N kr) kr:Option J)
def Z2 N a b kr:=(Z3 N a b (λa b=>Z4 N a b kr) kr:Option J)
def Z0 N a b kr:=(Z1 N a b (λa b=>Z2 N a b kr):Option J)
def Spec:Prop:=∀ (v0 v1:LI),Ty.bd (.sl 0 (.int .i64)) v0->Ty.bd (.sl 0 (.int .i64)) v1->∃N0,∀N,N0<=N->Z0 N v0 v1 (λv4=>some ((),(v4,())))=some ((),((g v0 v1),()))
def loop{J:Type}(N:Nat)(k0:Option J)(kr:Bool->Option J)(a b:List Int)(hl:a.length=b.length)(ha:a.length<=maxLen):∀(M j:Nat),j<=a.length->a.length-j<M ->
  Z8L N k0 kr M a b (j:Int)=if a.drop j=b.drop j then k0 else kr false:=by
 intro M;induction M with
 |zero=>intro j _ h;omega
 |succ M ih =>
  intro j hj hM;simp only[Z8L,Z9];by_cases h:j<a.length
  ·rw[ct (dt (by omega)),ct (bh h),ct (bh (by omega)),Int.toNat_natCast,cI (by omega),ih (j+1) h (by omega),dA 0 h,dA (l:=b) (j:=j) 0 (by omega)];by_cases e:a.getD j 0=b.getD j 0;·rw[cf (nf e),e];simp only[List.cons.injEq,true_and]
   ·rw[ct (nt e),if_neg (by simp only[List.cons.injEq];exact λh=>e h.1)]
  ·rw[cf (df (by omega)),if_pos (by rw[List.drop_of_length_le (by omega),List.drop_of_length_le (by omega)])]
def ok:Spec:=λa b ha hb=>⟨a.length+1,λN hN=>by
 simp only[Z1,Z3,Z6,Z9,Z8,Z7,Z5,Z10,Z4,Z2,Z0];by_cases hl:a.length=b.length;·rw[cf (nf (by omega))];rw[show(0:Int)=((0:Nat):Int)from rfl,loop _ _ _ a b hl ha.1 N 0 (by omega) (by omega)];by_cases e:a=b<;>simp[e,g]
 ·rw[ct (nt (by omega))];have:a≠b:=λe=>hl (by rw[e]);simp[g,this]⟩
end cT
namespace dg
def g(f h:Int×List (List Int×Int)):Bool:=decide (f.1=h.1)&&(decide (f.2.length=h.2.length)&&(List.range f.2.length).all λi=>decide (f.2.getD i ([],0)=h.2.getD i ([],0)))
def Z1{J:Type}(N:Nat)(a b:Int×List (LI×Int))(kn:Int->(List (LI×Int))->Int->(List (LI×Int))->Option J):Option J :=
 kn a.1 a.2 b.1 b.2
def Z3{J:Type}(N:Nat)(a:Int)(b:List (LI×Int))(c:Int)(d:List (LI×Int))(kn:Int->(List (LI×Int))->Int->(List (LI×Int))->Option J)(kr:Bool->Option J):Option J :=
 cond (lk N (!(decide (a=c))))
 (
  kr false)
 (
  cond (lk N (!(decide ((b.length:Int)=(d.length:Int)))))
  (
   kr false)
  (
   kn a b c d))
def Z6{J:Type}(N:Nat)(a:Int)(b:List (LI×Int))(c:Int)(d:List (LI×Int))(kn:I2 ((List (LI×Int))->Int->(List (LI×Int))->Option J)):Option J :=
 kn 0 a b c d
def Z9{J:Type}(N:Nat)(a d:Int)(b:List (LI×Int))(e:Int)(c:List (LI×Int))(kn:I2 ((List (LI×Int))->Int->(List (LI×Int))->Option J))(k0:Option J)(kr:Bool->Option J):Option J :=
 cond (lk N (decide (a<(b.length:Int))))
 (
  cond (lk N (aI a b.length)) (
   cond (lk N (aI a c.length)) (
    cond (lk N (!(decide ((b.getD a.toNat ([],0)).2=(c.getD a.toNat ([],0)).2))))
    (
     kr false)
    (
     cond (lk N (aI a b.length)) (
      cond (lk N (aI a c.length)) (
       cond (!(lk N ((cT.g (b.getD a.toNat ([],0)).1 (c.getD a.toNat ([],0)).1))))
       (
        kr false)
       (
        kn (af (a+1)) d b e c)) none) none)) none) none)
 (
  k0)
def Z8L{J:Type}(N:Nat)(k0:Option J)(kr:Bool->Option J):Nat->Int->Int->(List (LI×Int))->Int->(List (LI×Int))->Option J
 |0,_,_,_,_,_=>none
 |M+1,a,b,c,d,e=>Z9 N a b c d e (λa b c d e=>Z8L N k0 kr M a b c d e) k0 kr
def Z8 N a b c d e k0 kr:=(Z8L N k0 kr N a b c d e:Option J)
def Z7 N a b c d e kn kr:=(Z8 N a b c d e kn kr:Option J)
def Z5 N a b c d kn kr:=(Z6 N a b c d (λe a b c d=>Z7 N e a b c d kn kr):Option J)
def Z10{J:Type}(N:Nat) (kr:Bool->Option J):Option J :=
 kr true
def Z4 N a b c d kr:=(Z5 N a b c d (Z10 N kr) kr:Option J)
def Z2 N a b c d kr:=(Z3 N a b c d (λa b c d=>Z4 N a b c d kr) kr:Option J)
def Z0 N a b kr:=(Z1 N a b (λc d e f=>Z2 N c d e f kr):Option J)
def Spec:Prop:=∀ (v0 v1:Int×List (LI×Int)),Ty.bd (.pair (.int .i64) (.sl 0 (.pair (.sl 0 (.int .i64)) (.int .i64)))) v0->Ty.bd (.pair (.int .i64) (.sl 0 (.pair (.sl 0 (.int .i64)) (.int .i64)))) v1->∃N0,∀N,N0<=N->Z0 N v0 v1 (λv4=>some ((),(v4,())))=some ((),((g v0 v1),()))
def self(f:Int×List (List Int×Int)):g f f=true:=by unfold g;rw[dt rfl,dt rfl,Bool.true_and,Bool.true_and,List.all_eq_true];exact λi _=>dt rfl
def loop{J:Type}{N:Nat}(k0:Option J)(kr:Bool->Option J){l q:List (List Int×Int)}{a b:Int}(hl:l.length<=maxLen)(hq:l.length=q.length)(h0:k0=kr true):∀(M i:Nat),i<=l.length->l.length-i<M ->
  Z8L N k0 kr M (i:Int) a l b q=kr (((List.range l.length).drop i).all λi=>decide (l.getD i ([],0)=q.getD i ([],0))):=by
 intro M;induction M with
 |zero=>intro i _ h;omega
 |succ M ih =>
  intro i hi hM;simp only[Z8L,Z9,aM];by_cases h:i<l.length
  ·have z1:decide ((i:Int)<(l.length:Int))=true:=dt (by omega);have b1:aI (i:Int) l.length=true:=bh h;have b2:aI (i:Int) q.length=true:=bh (by omega);have hw:af ((i:Int)+1)=((i+1:Nat):Int):=cI (by omega);have nx:=ih (i+1) h (by omega);rw[EU h,List.all_cons];simp only[z1,b1,b2,Int.toNat_natCast,cond_true,hw,nx];have e:decide (l.getD i ([],0)=q.getD i ([],0))=(decide ((l.getD i ([],0)).2=(q.getD i ([],0)).2)&&cT.g (l.getD i ([],0)).1 (q.getD i ([],0)).1):=by unfold cT.g;rw[Bool.eq_iff_iff];simp only[Bool.and_eq_true,decide_eq_true_eq,Prod.ext_iff];exact And.comm
   rw[e];generalize((List.range l.length).drop (i+1)).all (λi=>decide (l.getD i ([],0)=q.getD i ([],0)))=r;generalize decide ((l.getD i ([],0)).2=(q.getD i ([],0)).2)=b1;generalize cT.g (l.getD i ([],0)).1 (q.getD i ([],0)).1=b2;cases b1<;>cases b2<;>rfl
  ·rw[df (show ¬ (i:Int)<(l.length:Int) by omega),cond_false,List.drop_of_length_le (by simp;omega),h0];rfl
def ok:Spec:=λf h hf hh=>⟨f.2.length+1,λN hN=>by
 simp only[Z0,Z1,Z2,Z3,aM];unfold g;by_cases e1:f.1=h.1
 ·rw[nf e1,dt e1];by_cases e2:f.2.length=h.2.length;·have e3:decide ((f.2.length:Int)=(h.2.length:Int))=true:=dt (by omega);rw[e3,dt e2];simp only[Bool.not_true,cond_false,Z4,Z5,Z6,Z7,Z8];refine(loop _ (λt=>some ((),(t,()))) hf.2.1 e2 rfl N 0 (Nat.zero_le _) (by omega)).trans ?_;rw[List.drop_zero];rfl
  ·have e3:decide ((f.2.length:Int)=(h.2.length:Int))=false:=df (by omega);rw[e3,df e2];rfl
 ·rw[nt e1,df e1];rfl⟩
end dg
namespace jM
def g(_:List Int):Bool:=true
def Z0{J:Type}(N:Nat)(a:List Int)(kr:Bool->Option J):Option J :=
 cond (lk N ((gN.g a)))
 (
  kr true)
 (
  ki λy12:Int×List (LI×Int)=>(
   cond (lk N (aX.P (bF.g y12))) (
    cond (lk N (!(((lk N ((aX.g (bF.g y12)).2)) == (lk N ((gi.g y12)))))))
    (
     kr false)
    (
     cond (lk N ((aX.g (bF.g y12)).2))
     (
      cond (!(lk N ((dg.g (aX.g (bF.g y12)).1 y12))))
      (
       kr false)
      (
       cond (lk N (!(((lk N ((cw.g y12))) == (lk N ((aX.g (bF.g y12)).2))))))
       (
        kr false)
       (
        cond (lk N (aX.P (cZ.g a))) (
         cond (!(lk N ((aX.g (cZ.g a)).2)))
         (
          kr true)
         (
          kr (lk N (bD (bF.g (aX.g (cZ.g a)).1) (cZ.g a))))) none)))
     (
      cond (lk N (!(((lk N ((cw.g y12))) == (lk N ((aX.g (bF.g y12)).2))))))
      (
       kr false)
      (
       cond (lk N (aX.P (cZ.g a))) (
        cond (!(lk N ((aX.g (cZ.g a)).2)))
        (
         kr true)
        (
         kr (lk N (bD (bF.g (aX.g (cZ.g a)).1) (cZ.g a))))) none)))) none))
def Spec:Prop:=∀ (v0:List Int),Ty.bd (.sl 0 (.int .u8)) v0->∃N0,∀N,N0<=N->Z0 N v0 (λv2=>some ((),(v2,())))=some ((),((g v0),()))
def fmt_sz(f:Int×List (List Int×Int)):(bF.g f).size<=151222:=by
 unfold bF.g;split;·rename_i h;exact xE h
 ·exact Nat.zero_le _
def Gi:(aX.g ByteArray.empty).2=false:=by
 rcases tp ByteArray.empty with h|⟨f,h,hf,e⟩;·show(ga ByteArray.empty).2=false;rw[h];rfl
 ·exfalso;have e2:=congrArg (λs=>s.data.toList.length) e;simp only[tq]at e2;simp at e2
def ok:Spec:=λcode hb=>⟨0,λN hN=>by
 simp only[Z0,aM,g];cases gN.g code
 ·rw[cond_false];refine DA (0,[]) λf=>?_;have p1:aX.P (bF.g f)=true:=dt (by have:=fmt_sz f;omega);have p2:aX.P (cZ.g code)=true:=dt (by have:=cZ.g_sz code;omega);have tail:(cond (!(aX.g (cZ.g code)).2) (some ((),(true,()))) (some ((),(bD (bF.g (aX.g (cZ.g code)).1) (cZ.g code),()))):Option (Unit×Bool×Unit))=some ((),(true,())):=by
   generalize cZ.g code=s;rcases tp s with h|⟨f',h,hf,e⟩
   ·have h2:(aX.g s).2=false:=by show(ga s).2=false;rw[h];rfl
    rw[h2];rfl
   ·have h2:aX.g s=(f',true):=h;have h3:bF.g f'=s:=(if_pos hf).trans e;rw[h2,h3,de.2 rfl];rfl
  simp only[p1,p2,cond_true];cases hl:bO f;·have e1:bF.g f=ByteArray.empty:=if_neg (by rw[hl];simp);have e2:gi.g f=false:=hl;have e3:cw.g f=false:=hl;rw[e1,Gi,e2,e3];exact tail
  ·have e1:bF.g f=cd f:=if_pos hl;have e2:gi.g f=true:=hl;have e3:cw.g f=true:=hl;have e4:aX.g (cd f)=(f,true):=yH hl;rw[e1,e4,e2,e3,dg.self];exact tail
 ·rfl⟩
end jM
end
end Go.Fw
