/- The plain part: what the functions compute, in lists and numbers. Nothing is assumed. -/
import Derived.Test.YtillpdbmnjkjiaaFwd
import Derived.Test.YtillpdbmnjkjiaaPuFnExactSeedOka
noncomputable section
set_option linter.defProp false
set_option linter.defProp false
set_option linter.unusedSectionVars false
set_option linter.unusedVariables false
set_option linter.unusedSimpArgs false
set_option maxRecDepth 100000
namespace Go.Fw
section
variable {J : Type}
namespace cP
def g(a b:List (List Int×Int)):Bool:=decide (a=b)
def Z1{J:Type}(N:Nat)(a b:List (LI×Int))(kn:(List (LI×Int))->(List (LI×Int))->Option J):Option J :=
 kn a b
def Z3{J:Type}(N:Nat)(a b:List (LI×Int))(kn:(List (LI×Int))->(List (LI×Int))->Option J)(kr:Bool->Option J):Option J :=
 cond (lk N (!(decide ((a.length:Int)=(b.length:Int)))))
 (
  kr false)
 (
  kn a b)
def Z6{J:Type}(N:Nat)(a b:List (LI×Int))(kn:(List (LI×Int))->(List (LI×Int))->Int->Option J):Option J :=
 kn a b 0
def Z9{J:Type}(N:Nat)(b c:List (LI×Int))(a:Int)(kn:(List (LI×Int))->(List (LI×Int))->Int->Option J)(k0:Option J)(kr:Bool->Option J):Option J :=
 cond (lk N (decide (a<(b.length:Int))))
 (
  cond (lk N (az a b.length)) (
   cond (lk N (az a c.length)) (
    cond (!(lk N ((fF.g (b.getD a.toNat ([],0)) (c.getD a.toNat ([],0))))))
    (
     kr false)
    (
     kn b c (av (a+1)))) none) none)
 (
  k0)
def Z8L{J:Type}(N:Nat)(k0:Option J)(kr:Bool->Option J):Nat->(List (LI×Int))->(List (LI×Int))->Int->Option J
 |0,_,_,_=>none
 |M+1,a,b,c=>Z9 N a b c (λa b c=>Z8L N k0 kr M a b c) k0 kr
def Z8 N a b c k0 kr:=(Z8L N k0 kr N a b c:Option J)
def Z7 N a b c kn kr:=(Z8 N a b c kn kr:Option J)
def Z5 N a b kn kr:=(Z6 N a b (λa b c=>Z7 N a b c kn kr):Option J)
def Z10{J:Type}(N:Nat) (kr:Bool->Option J):Option J :=
 kr true
def Z4 N a b kr:=(Z5 N a b (Z10 N kr) kr:Option J)
def Z2 N a b kr:=(Z3 N a b (λa b=>Z4 N a b kr) kr:Option J)
def Z0 N a b kr:=(Z1 N a b (λa b=>Z2 N a b kr):Option J)
def Spec:Prop:=∀ (v0 v1:List (LI×Int)),Ty.bd (.sl 0 (.pair (.sl 0 (.int .i64)) (.int .i64))) v0->Ty.bd (.sl 0 (.pair (.sl 0 (.int .i64)) (.int .i64))) v1->∃N0,∀N,N0<=N->Z0 N v0 v1 (λv4=>some ((),(v4,())))=some ((),((g v0 v1),()))
def loop{J:Type}(N:Nat)(k0:Option J)(kr:Bool->Option J)(a b:List (List Int×Int))(hl:a.length=b.length)(ha:a.length<=maxLen):∀(M j:Nat),j<=a.length->a.length-j<M ->
  Z8L N k0 kr M a b (j:Int)=if a.drop j=b.drop j then k0 else kr false:=by
 intro M;induction M with
 |zero=>intro j _ h;omega
 |succ M ih =>
  intro j hj hM;simp only[Z8L,Z9];by_cases h:j<a.length
  ·rw[ct (dt (by omega)),ct (aL h),ct (aL (by omega)),Int.toNat_natCast,bz (by omega),ih (j+1) h (by omega),cw ([],0) h,cw (l:=b) (j:=j) ([],0) (by omega)];by_cases e:a.getD j ([],0)=b.getD j ([],0);·rw[eD (by rw[aP,fF.g,dt e];rfl),e];simp only[List.cons.injEq,true_and]
   ·rw[jC (by rw[aP,fF.g,df e];rfl),if_neg (by simp only[List.cons.injEq];exact λh=>e h.1)]
  ·rw[cf (df (by omega)),if_pos (by rw[List.drop_of_length_le (by omega),List.drop_of_length_le (by omega)])]
def ok:Spec:=λa b ha hb=>⟨a.length+1,λN hN=>by
 simp only[Z1,Z3,Z6,Z9,Z8,Z7,Z5,Z10,Z4,Z2,Z0];by_cases hl:a.length=b.length;·rw[cf (nf (by omega))];rw[show(0:Int)=((0:Nat):Int)from rfl,loop _ _ _ a b hl ha.1 N 0 (by omega) (by omega)];by_cases e:a=b<;>simp[e,g]
 ·rw[ct (nt (by omega))];have:a≠b:=λe=>hl (by rw[e]);simp[g,this]⟩
end cP
namespace fG
def g(a b:Int×List (List Int×Int)):Bool:=decide (a=b)
def Z0{J:Type}(N:Nat)(a b:Int×List (LI×Int))(kr:Bool->Option J):Option J :=
 cond (lk N (!(decide (a.1=b.1))))
 (
  kr false)
 (
  cond (!(lk N ((cP.g a.2 b.2))))
  (
   kr false)
  (
   kr true))
def Spec:Prop:=∀ (v0 v1:Int×List (LI×Int)),Ty.bd (.pair (.int .i64) (.sl 0 (.pair (.sl 0 (.int .i64)) (.int .i64)))) v0->Ty.bd (.pair (.int .i64) (.sl 0 (.pair (.sl 0 (.int .i64)) (.int .i64)))) v1->∃N0,∀N,N0<=N->Z0 N v0 v1 (λv4=>some ((),(v4,())))=some ((),((g v0 v1),()))
def ok:Spec:=λa b ha hb=>⟨0,λN hN=>by obtain⟨a1,a2⟩:=a;obtain⟨b1,b2⟩:=b;simp only[Z0,aP,g,cP.g,Prod.mk.injEq];by_cases h1:a1=b1<;>by_cases h2:a2=b2<;>simp[h1,h2]⟩
end fG
namespace cR
def g(a b:List (Int×List (List Int×Int))):Bool:=decide (a=b)
def Z1{J:Type}(N:Nat)(a b:List (Int×List (LI×Int)))(kn:(List (Int×List (LI×Int)))->(List (Int×List (LI×Int)))->Option J):Option J :=
 kn a b
def Z3{J:Type}(N:Nat)(a b:List (Int×List (LI×Int)))(kn:(List (Int×List (LI×Int)))->(List (Int×List (LI×Int)))->Option J)(kr:Bool->Option J):Option J :=
 cond (lk N (!(decide ((a.length:Int)=(b.length:Int)))))
 (
  kr false)
 (
  kn a b)
def Z6{J:Type}(N:Nat)(a b:List (Int×List (LI×Int)))(kn:(List (Int×List (LI×Int)))->(List (Int×List (LI×Int)))->Int->Option J):Option J :=
 kn a b 0
def Z9{J:Type}(N:Nat)(b c:List (Int×List (LI×Int)))(a:Int)(kn:(List (Int×List (LI×Int)))->(List (Int×List (LI×Int)))->Int->Option J)(k0:Option J)(kr:Bool->Option J):Option J :=
 cond (lk N (decide (a<(b.length:Int))))
 (
  cond (lk N (az a b.length)) (
   cond (lk N (az a c.length)) (
    cond (!(lk N ((fG.g (b.getD a.toNat (0,[])) (c.getD a.toNat (0,[]))))))
    (
     kr false)
    (
     kn b c (av (a+1)))) none) none)
 (
  k0)
def Z8L{J:Type}(N:Nat)(k0:Option J)(kr:Bool->Option J):Nat->(List (Int×List (LI×Int)))->(List (Int×List (LI×Int)))->Int->Option J
 |0,_,_,_=>none
 |M+1,a,b,c=>Z9 N a b c (λa b c=>Z8L N k0 kr M a b c) k0 kr
def Z8 N a b c k0 kr:=(Z8L N k0 kr N a b c:Option J)
def Z7 N a b c kn kr:=(Z8 N a b c kn kr:Option J)
def Z5 N a b kn kr:=(Z6 N a b (λa b c=>Z7 N a b c kn kr):Option J)
def Z10{J:Type}(N:Nat) (kr:Bool->Option J):Option J :=
 kr true
def Z4 N a b kr:=(Z5 N a b (Z10 N kr) kr:Option J)
def Z2 N a b kr:=(Z3 N a b (λa b=>Z4 N a b kr) kr:Option J)
def Z0 N a b kr:=(Z1 N a b (λa b=>Z2 N a b kr):Option J)
def Spec:Prop:=∀ (v0 v1:List (Int×List (LI×Int))),Ty.bd (.sl 0 (.pair (.int .i64) (.sl 0 (.pair (.sl 0 (.int .i64)) (.int .i64))))) v0->Ty.bd (.sl 0 (.pair (.int .i64) (.sl 0 (.pair (.sl 0 (.int .i64)) (.int .i64))))) v1->∃N0,∀N,N0<=N->Z0 N v0 v1 (λv4=>some ((),(v4,())))=some ((),((g v0 v1),()))
def loop{J:Type}(N:Nat)(k0:Option J)(kr:Bool->Option J)(a b:List (Int×List (List Int×Int)))(hl:a.length=b.length)(ha:a.length<=maxLen):∀(M j:Nat),j<=a.length->a.length-j<M ->
  Z8L N k0 kr M a b (j:Int)=if a.drop j=b.drop j then k0 else kr false:=by
 intro M;induction M with
 |zero=>intro j _ h;omega
 |succ M ih =>
  intro j hj hM;simp only[Z8L,Z9];by_cases h:j<a.length
  ·rw[ct (dt (by omega)),ct (aL h),ct (aL (by omega)),Int.toNat_natCast,bz (by omega),ih (j+1) h (by omega),cw (0,[]) h,cw (l:=b) (j:=j) (0,[]) (by omega)];by_cases e:a.getD j (0,[])=b.getD j (0,[]);·rw[eD (by rw[aP,fG.g,dt e];rfl),e];simp only[List.cons.injEq,true_and]
   ·rw[jC (by rw[aP,fG.g,df e];rfl),if_neg (by simp only[List.cons.injEq];exact λh=>e h.1)]
  ·rw[cf (df (by omega)),if_pos (by rw[List.drop_of_length_le (by omega),List.drop_of_length_le (by omega)])]
def ok:Spec:=λa b ha hb=>⟨a.length+1,λN hN=>by
 simp only[Z1,Z3,Z6,Z9,Z8,Z7,Z5,Z10,Z4,Z2,Z0];by_cases hl:a.length=b.length;·rw[cf (nf (by omega))];rw[show(0:Int)=((0:Nat):Int)from rfl,loop _ _ _ a b hl ha.1 N 0 (by omega) (by omega)];by_cases e:a=b<;>simp[e,g]
 ·rw[ct (nt (by omega))];have:a≠b:=λe=>hl (by rw[e]);simp[g,this]⟩
end cR
namespace gc
def g(a b:(Int×Int×List Int)×List (Int×List (List Int×Int))):Bool:=decide (a=b)
def Z0{J:Type}(N:Nat)(a b:(MT)×List (Int×List (LI×Int)))(kr:Bool->Option J):Option J :=
 cond (!(lk N ((gb.g a.1 b.1))))
 (
  kr false)
 (
  cond (!(lk N ((cR.g a.2 b.2))))
  (
   kr false)
  (
   kr true))
def Spec:Prop:=∀ (v0 v1:(MT)×List (Int×List (LI×Int))),Ty.bd (.pair (.pair (.int .i64) (.pair (.int .i64) (.sl 0 (.int .i64)))) (.sl 0 (.pair (.int .i64) (.sl 0 (.pair (.sl 0 (.int .i64)) (.int .i64)))))) v0->Ty.bd (.pair (.pair (.int .i64) (.pair (.int .i64) (.sl 0 (.int .i64)))) (.sl 0 (.pair (.int .i64) (.sl 0 (.pair (.sl 0 (.int .i64)) (.int .i64)))))) v1->∃N0,∀N,N0<=N->Z0 N v0 v1 (λv4=>some ((),(v4,())))=some ((),((g v0 v1),()))
def ok:Spec:=λa b ha hb=>⟨0,λN hN=>by
 obtain⟨a1,a2⟩:=a;obtain⟨b1,b2⟩:=b;simp only[Z0,aP,g,gb.g,cR.g];by_cases h1:a1=b1
 ·by_cases h2:a2=b2;·subst h1 h2;simp
  ·have:¬ ((a1,a2)=(b1,b2)):=λh=>h2 (congrArg Prod.snd h);rw[df this,df h2];cases decide (a1=b1)<;>rfl
 ·have:¬ ((a1,a2)=(b1,b2)):=λh=>h1 (congrArg Prod.fst h);rw[df this,df h1];rfl⟩
end gc
namespace iP
def g(_:(Int×Int×List Int)×List (Int×List (List Int×Int))):Bool:=true
def Z0{J:Type}(N:Nat)(a:(MT)×List (Int×List (LI×Int)))(kr:Bool->Option J):Option J :=
 cond (lk N (decide ((eT.g a 1048576)<0)))
 (
  kr true)
 (
  cond (lk N (de.P a)) (
   cond (lk N (de.P a)) (
    cond (lk N (!(((lk N ((dm.g (de.g a)))) == (lk N ((cz.g (de.g a))))))))
    (
     kr false)
    (
     cond (lk N (de.P a)) (
      cond (!(lk N ((gc.g (de.g a) (de.g a)))))
      (
       kr false)
      (
       kr true)) none)) none) none)
def Spec:Prop:=∀ (v0:(MT)×List (Int×List (LI×Int))),Ty.bd (.pair (.pair (.int .i64) (.pair (.int .i64) (.sl 0 (.int .i64)))) (.sl 0 (.pair (.int .i64) (.sl 0 (.pair (.sl 0 (.int .i64)) (.int .i64)))))) v0->∃N0,∀N,N0<=N->Z0 N v0 (λv2=>some ((),(v2,())))=some ((),((g v0),()))
def same(s:(Int×Int×List Int)×List (Int×List (List Int×Int))):dm.g s=cz.g s:=by
 have he:dZ.g s.1=eU.g s.1:=by
  unfold dZ.g eU.g;by_cases h:ca s.1=[];·rw[dt h];simp
  ·rw[df h];cases hs:cI s.1;·simp[bW,hs]
   ·rw[BI hs h]
 unfold dm.g cz.g;rw[he];congr 2;have key:∀x,cz.okOne s.1.2.1 x=!dm.badL s.1.2.1 x:=λx=>by have hL:cq.g x=bu.g x:=rfl;unfold dm.badL cz.okOne;rw[hL];cases bu.g x<;>cases decide (x.2.length=0)<;>cases decide (x.1=s.1.2.1)<;>rfl
 induction s.2 with
 |nil=>rfl
 |cons x l ih=>rw[List.any_cons,List.all_cons,key x,<-ih,Bool.not_or]
def ok:Spec:=λs hb=>⟨0,λN hN=>by
 by_cases hl:eT.g s 1048576<0;·simp only[Z0];rw[ct (dt hl)];rfl
 have hP:=BW s hb hl;have hE:gc.g s s=true:=dt rfl;simp only[Z0,aP,de.g,hP,same s,hE,df hl,beq_self_eq_true,cond_true,cond_false,Bool.not_true,bo,qp];rfl⟩
end iP
end
end Go.Fw
