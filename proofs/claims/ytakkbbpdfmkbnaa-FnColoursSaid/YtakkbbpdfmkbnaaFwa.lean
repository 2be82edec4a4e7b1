/- The framework: what a symbolic run of the model's code tells, proved sound. Nothing is assumed. -/
import Derived.Below
import Derived.Maps.AppendAt
import Derived.Orders
import Derived.WalkKit
import Derived.Laws.MakeOwn
import Derived.Deep.OwnRows
import Derived.MapKept
set_option linter.defProp false
set_option linter.unusedVariables false
set_option linter.unusedSectionVars false
namespace Go.Fw
open Go.RowKit
def ai{α β:Type}(R:α->β->Prop):List α->List β->Prop
 |[],[]=>True
 |a::as,b::bs=>R a b/\ai R as bs
 |_,_=>False
def aP{α β γ:Type}(R:α->β->γ->Prop):List α->List β->List γ->Prop
 |[],[],[]=>True
 |a::as,b::bs,c::cs=>R a b c/\aP R as bs cs
 |_,_,_=>False
section
variable {α β γ : Type} {R R' : α → β → Prop} {Q Q' : α → β → γ → Prop}
def ai.len:∀{as:List α}{bs:List β},ai R as bs->as.length=bs.length
 |[],[],_=>rfl
 |_::_,_::_,h=>congrArg (· + 1) h.2.len
def ai.imp(f:∀a b,R a b->R' a b):∀{as:List α}{bs:List β},ai R as bs->ai R' as bs
 |[],[],_=>trivial
 |_::_,_::_,h=>⟨f _ _ h.1,h.2.imp f⟩
def ai.app:∀{as as':List α}{bs bs':List β},ai R as bs->ai R as' bs'->ai R (as++as') (bs++bs')
 |[],_,[],_,_,h'=>h'
 |_::_,_,_::_,_,h,h'=>⟨h.1,h.2.app h'⟩
def ai.get:∀{as:List α}{bs:List β},ai R as bs->∀{j:Nat}{b:β},bs[j]? = some b->∃a,as[j]? = some a/\R a b
 |[],[],_,j,b,hb=>by simp at hb
 |a::_,_::_,h,0,b,hb=>⟨a,rfl,by simp at hb;subst hb;exact h.1⟩
 |_::_,_::_,h,j+1,b,hb=>by simpa using h.2.get (by simpa using hb)
def ai.set:∀{as:List α}{bs:List β},ai R as bs->∀{j:Nat}{a:α}{b:β},R a b->ai R (as.set j a) (bs.set j b)
 |[],[],_,_,_,_,_=>trivial
 |_::_,_::_,h,0,_,_,hr=>⟨hr,h.2⟩
 |_::_,_::_,h,j+1,_,_,hr=>⟨h.1,h.2.set hr⟩
def ai.take:∀{as:List α}{bs:List β},ai R as bs->∀n,ai R (as.take n) (bs.take n)
 |_,_,_,0=>by simp only[List.take_zero];trivial
 |[],[],_,_+1=>trivial
 |_::_,_::_,h,n+1=>⟨h.1,h.2.take n⟩
def ai.drop:∀{as:List α}{bs:List β},ai R as bs->∀n,ai R (as.drop n) (bs.drop n)
 |_,_,h,0=>h
 |[],[],_,_+1=>trivial
 |_::_,_::_,h,n+1=>h.2.drop n
def ai.rep{a:α}{b:β}(h:R a b):∀n,ai R (List.replicate n a) (List.replicate n b)
 |0=>trivial
 |n+1=>⟨h,ai.rep h n⟩
def aP.len1:∀{as:List α}{bs:List β}{cs:List γ},aP Q as bs cs->as.length=cs.length
 |[],[],[],_=>rfl
 |_::_,_::_,_::_,h=>congrArg (· + 1) h.2.len1
def aP.len2:∀{as:List α}{bs:List β}{cs:List γ},aP Q as bs cs->bs.length=cs.length
 |[],[],[],_=>rfl
 |_::_,_::_,_::_,h=>congrArg (· + 1) h.2.len2
def aP.imp(f:∀a b c,Q a b c->Q' a b c):∀{as:List α}{bs:List β}{cs:List γ},aP Q as bs cs->aP Q' as bs cs
 |[],[],[],_=>trivial
 |_::_,_::_,_::_,h=>⟨f _ _ _ h.1,h.2.imp f⟩
def aP.app:∀{as as':List α}{bs bs':List β}{cs cs':List γ},aP Q as bs cs->aP Q as' bs' cs'->aP Q (as++as') (bs++bs') (cs++cs')
 |[],_,[],_,[],_,_,h'=>h'
 |_::_,_,_::_,_,_::_,_,h,h'=>⟨h.1,h.2.app h'⟩
def aP.get:∀{as:List α}{bs:List β}{cs:List γ},aP Q as bs cs->∀{j:Nat}{c:γ},cs[j]? = some c->∃a b,as[j]? = some a/\bs[j]? = some b/\Q a b c
 |[],[],[],_,j,c,hc=>by simp at hc
 |a::_,b::_,_::_,h,0,c,hc=>⟨a,b,rfl,rfl,by simp at hc;subst hc;exact h.1⟩
 |_::_,_::_,_::_,h,j+1,c,hc=>by simpa using h.2.get (by simpa using hc)
def aP.imp_mem:∀{as:List α}{bs:List β}{cs:List γ},aP Q as bs cs->(∀a b c,a∈as->Q a b c->Q' a b c)->aP Q' as bs cs
 |[],[],[],_,_=>trivial
 |_::_,_::_,_::_,h,f=>⟨f _ _ _ (by simp) h.1,h.2.imp_mem λa b c ha=>f a b c (by simp[ha])⟩
def jM{P:α->Prop}:∀{as:List α}{bs:List β}{cs:List γ},aP (λa _ _=>P a) as bs cs->∀a∈as,P a
 |[],[],[],_,_,h=>by simp at h
 |_::_,_::_,_::_,h,a,ha=>by
  rcases List.mem_cons.1 ha with rfl|ha;·exact h.1
  ·exact jM h.2 a ha
def aP.two{R:β->γ->Prop}(f:∀a b c,Q a b c->R b c):∀{as:List α}{bs:List β}{cs:List γ},aP Q as bs cs->ai R bs cs
 |[],[],[],_=>trivial
 |_::_,_::_,_::_,h=>⟨f _ _ _ h.1,aP.two f h.2⟩
end
inductive Ty where
 |int (k:IntKind)|bool|str|err|fnc (g:Nat)
 |sl (e:Nat) (t:Ty)
 |pair (a b:Ty)
 deriving DecidableEq
abbrev Ty.den:Ty->Type
 |.int _=>Int
 |.bool=>Bool
 |.fnc _=>Unit
 |.str=>ByteArray
 |.err=>Bool
 |.sl _ t=>List t.den
 |.pair a b=>a.den×b.den
def Ty.nc:Ty->Nat
 |.pair a b=>a.nc+b.nc
 |_=>1
def Ty.nc_pos:∀t:Ty,0<t.nc
 |.int _=>Nat.one_pos
 |.bool=>Nat.one_pos
 |.fnc _=>Nat.one_pos
 |.str=>Nat.one_pos
 |.err=>Nat.one_pos
 |.sl _ _=>Nat.one_pos
 |.pair a b=>Nat.lt_of_lt_of_le (Ty.nc_pos a) (Nat.le_add_right _ _)
def jN(v:Value)(b:Bool):Prop:=(v=.nilIface/\b=false)\/∃t p,v=.iface t p/\b=true
def jN.one{v:Value}{b:Bool}(h:jN v b):v.oneCell'=true:=by rcases h with⟨rfl,_⟩|⟨t,p,rfl,_⟩<;>rfl
def Rd(w:World)(S:Nat->Prop):(t:Ty)->List Value->t.den->Prop
 |.int k,cs,x=>cs=[.int k x]
 |.bool,cs,x=>cs=[.bool x]
 |.fnc g,cs,_=>cs=[.func (.func g) #[] #[]]
 |.str,cs,x=>cs=[.string x]
 |.err,cs,b=>∃v,cs=[v]/\jN v b
 |.pair a b,cs,x=>∃c1 c2:List Value,cs=c1++c2/\Rd w S a c1 x.1/\Rd w S b c2 x.2
 |.sl _ t,cs,x=>∃(A:Option Addr) (n c:Nat),cs=[.slice A n c]/\x.length=n/\n<=c/\c<=maxLen /\
   (n=0\/∃(ad:Addr) (css:List (List Value)),A=some ad/\S ad.block/\ai (λc y=>Rd w S t c y) css x /\
    ∀(i:Nat) (u:Value),css.flatten[i]? = some u->w.cell? (ad.add i)=some u)
def aE(w:World):(t:Ty)->List Nat->List Value->t.den->Prop
 |.int k,L,cs,x=>cs=[.int k x]/\L=[]
 |.bool,L,cs,x=>cs=[.bool x]/\L=[]
 |.fnc g,L,cs,_=>cs=[.func (.func g) #[] #[]]/\L=[]
 |.str,L,cs,x=>cs=[.string x]/\L=[]
 |.err,L,cs,b=>(∃v,cs=[v]/\jN v b)/\L=[]
 |.pair a b,L,cs,x=>∃(c1 c2:List Value) (L1 L2:List Nat),cs=c1++c2/\L=L1++L2/\aE w a L1 c1 x.1/\aE w b L2 c2 x.2
 |.sl e t,L,cs,x=>∃(v:Value) (css:List (List Value)) (Ls:List (List Nat)),cs=[v]/\w.ownsRow 0 e t.nc v x.length css.flatten /\
   L=v.ownBlock.toList++Ls.flatten/\aP (λl c y=>aE w t l c y) Ls css x
def Rd.len{w:World}{S:Nat->Prop}:∀{t:Ty}{cs:List Value}{x:t.den},Rd w S t cs x->cs.length=t.nc
 |.int _,_,_,h=>by simp only[Rd]at h;subst h;rfl
 |.bool,_,_,h=>by simp only[Rd]at h;subst h;rfl
 |.fnc _,_,_,h=>by simp only[Rd]at h;subst h;rfl
 |.str,_,_,h=>by simp only[Rd]at h;subst h;rfl
 |.err,_,_,h=>by obtain⟨v,rfl,_⟩:=h;rfl
 |.pair a b,_,_,h=>by obtain⟨c1,c2,rfl,h1,h2⟩:=h;rw[List.length_append,h1.len,h2.len];rfl
 |.sl _ _,_,_,h=>by obtain⟨A,n,c,rfl,_⟩:=h;rfl
def aE.len{w:World}:∀{t:Ty}{L:List Nat}{cs:List Value}{x:t.den},aE w t L cs x->cs.length=t.nc
 |.int _,_,_,_,h=>by simp only[aE]at h;obtain⟨rfl,_⟩:=h;rfl
 |.bool,_,_,_,h=>by simp only[aE]at h;obtain⟨rfl,_⟩:=h;rfl
 |.fnc _,_,_,_,h=>by simp only[aE]at h;obtain⟨rfl,_⟩:=h;rfl
 |.str,_,_,_,h=>by simp only[aE]at h;obtain⟨rfl,_⟩:=h;rfl
 |.err,_,_,_,h=>by obtain⟨⟨v,rfl,_⟩,_⟩:=h;rfl
 |.pair a b,_,_,_,h=>by obtain⟨c1,c2,L1,L2,rfl,_,h1,h2⟩:=h;rw[List.length_append,h1.len,h2.len];rfl
 |.sl _ _,_,_,_,h=>by obtain⟨v,css,Ls,rfl,_⟩:=h;rfl
def Rd.one{w:World}{S:Nat->Prop}:∀{t:Ty}{cs:List Value}{x:t.den},Rd w S t cs x->∀u∈cs,u.oneCell'=true
 |.int _,_,_,h,u,hu=>by simp only[Rd]at h;subst h;simp at hu;subst hu;rfl
 |.bool,_,_,h,u,hu=>by simp only[Rd]at h;subst h;simp at hu;subst hu;rfl
 |.fnc _,_,_,h,u,hu=>by simp only[Rd]at h;subst h;simp at hu;subst hu;rfl
 |.str,_,_,h,u,hu=>by simp only[Rd]at h;subst h;simp at hu;subst hu;rfl
 |.err,_,_,h,u,hu=>by obtain⟨v,rfl,h2⟩:=h;simp at hu;subst hu;exact h2.one
 |.pair a b,_,_,h,u,hu=>by
  obtain⟨c1,c2,rfl,h1,h2⟩:=h;rcases List.mem_append.1 hu with hu|hu;·exact h1.one u hu
  ·exact h2.one u hu
 |.sl _ _,_,_,h,u,hu=>by obtain⟨A,n,c,rfl,_⟩:=h;simp at hu;subst hu;rfl
def gM{w:World}{base n:Nat}{e:TypeId}{size:Nat}{v:Value}{xs:List Value}(h:w.ownsRow base e size v n xs):∃A c,v=.slice A n c/\n<=c/\c<=maxLen:=by
 rcases h.2 with⟨rfl,rfl⟩|⟨g,cap,cur,rfl,_,_,h1,h2,_⟩;·exact⟨none,0,rfl,Nat.le_refl _,Nat.zero_le _⟩
 ·exact⟨_,cap,rfl,h1,h2⟩
def aE.one{w:World}:∀{t:Ty}{L:List Nat}{cs:List Value}{x:t.den},aE w t L cs x->∀u∈cs,u.oneCell'=true
 |.int _,_,_,_,h,u,hu=>by simp only[aE]at h;obtain⟨rfl,_⟩:=h;simp at hu;subst hu;rfl
 |.bool,_,_,_,h,u,hu=>by simp only[aE]at h;obtain⟨rfl,_⟩:=h;simp at hu;subst hu;rfl
 |.fnc _,_,_,_,h,u,hu=>by simp only[aE]at h;obtain⟨rfl,_⟩:=h;simp at hu;subst hu;rfl
 |.str,_,_,_,h,u,hu=>by simp only[aE]at h;obtain⟨rfl,_⟩:=h;simp at hu;subst hu;rfl
 |.err,_,_,_,h,u,hu=>by obtain⟨⟨v,rfl,h2⟩,_⟩:=h;simp at hu;subst hu;exact h2.one
 |.pair a b,_,_,_,h,u,hu=>by
  obtain⟨c1,c2,L1,L2,rfl,_,h1,h2⟩:=h;rcases List.mem_append.1 hu with hu|hu;·exact h1.one u hu
  ·exact h2.one u hu
 |.sl _ _,_,_,_,h,u,hu=>by obtain⟨v,css,Ls,rfl,ho,_⟩:=h;obtain⟨A,c,rfl,_⟩:=gM ho;simp at hu;subst hu;rfl
def Rd.mono{w:World}{S S':Nat->Prop}(hS:∀k,S k->S' k):∀{t:Ty}{cs:List Value}{x:t.den},Rd w S t cs x->Rd w S' t cs x
 |.int _,_,_,h=>h
 |.bool,_,_,h=>h
 |.fnc _,_,_,h=>h
 |.str,_,_,h=>h
 |.err,_,_,h=>h
 |.pair a b,_,_,h=>by obtain⟨c1,c2,e,h1,h2⟩:=h;exact⟨c1,c2,e,h1.mono hS,h2.mono hS⟩
 |.sl _ _,_,_,h=>by
  obtain⟨A,n,c,e,h1,h2,h3,h4⟩:=h;refine⟨A,n,c,e,h1,h2,h3,h4.imp id ?_⟩;rintro ⟨ad,css,e1,h5,h6,h7⟩
  exact⟨ad,css,e1,hS _ h5,h6.imp λ_ _ h=>h.mono hS,h7⟩
def Rd.frame{w w':World}{S:Nat->Prop}(hS:∀k,S k->k<w.heap.size->w'.heap[k]? = w.heap[k]?):∀{t:Ty}{cs:List Value}{x:t.den},Rd w S t cs x->Rd w' S t cs x
 |.int _,_,_,h=>h
 |.bool,_,_,h=>h
 |.fnc _,_,_,h=>h
 |.str,_,_,h=>h
 |.err,_,_,h=>h
 |.pair a b,_,_,h=>by obtain⟨c1,c2,e,h1,h2⟩:=h;exact⟨c1,c2,e,h1.frame hS,h2.frame hS⟩
 |.sl _ t,_,_,h=>by
  obtain⟨A,n,c,e,h1,h2,h3,h4⟩:=h;refine⟨A,n,c,e,h1,h2,h3,h4.imp id ?_⟩;rintro ⟨ad,css,e1,h5,h6,h7⟩
  refine⟨ad,css,e1,h5,h6.imp λ_ _ h=>h.frame hS,λi u hu=>?_⟩;have hc:=h7 i u hu;have hb:(ad.add i).block=ad.block:=by unfold Addr.add;split<;>rfl
  rw[World.cell?_of_block (w:=w) (hS _ (by rw[hb];exact h5) (World.block_lt_of_cell? w _ hc))];exact hc
def lO{w w':World}{base n:Nat}{e:TypeId}{size:Nat}{v:Value}{xs:List Value}(hb:∀k,v.ownBlock=some k->w'.heap[k]? = w.heap[k]?)(h:w.ownsRow base e size v n xs):w'.ownsRow base e size v n xs:=by
 refine⟨h.1,h.2.imp id ?_⟩;rintro ⟨g,cap,cur,rfl,h1,h2,h3⟩
 exact⟨g,cap,cur,rfl,h1,by rw[hb g rfl];exact h2,h3⟩
def aE.frame{w w':World}:∀{t:Ty}{L:List Nat}{cs:List Value}{x:t.den},(∀k∈L,w'.heap[k]? = w.heap[k]?)->aE w t L cs x->aE w' t L cs x
 |.int _,_,_,_,_,h=>h
 |.bool,_,_,_,_,h=>h
 |.fnc _,_,_,_,_,h=>h
 |.str,_,_,_,_,h=>h
 |.err,_,_,_,_,h=>h
 |.pair a b,_,_,_,hS,h=>by obtain⟨c1,c2,L1,L2,e,rfl,h1,h2⟩:=h;exact⟨c1,c2,L1,L2,e,rfl,h1.frame λk hk=>hS k (List.mem_append.2 (.inl hk)),h2.frame λk hk=>hS k (List.mem_append.2 (.inr hk))⟩
 |.sl _ t,_,_,_,hS,h=>by obtain⟨v,css,Ls,e,h1,rfl,h2⟩:=h;refine⟨v,css,Ls,e,lO (λk hk=>hS k (List.mem_append.2 (.inl (by simp[hk])))) h1,rfl, ?_⟩;exact h2.imp_mem λl c y hl ho=>ho.frame λk hk=>hS k (List.mem_append.2 (.inr (List.mem_flatten.2 ⟨l,hl,hk⟩)))
def aE.lt{w:World}:∀{t:Ty}{L:List Nat}{cs:List Value}{x:t.den},aE w t L cs x->∀k∈L,k<w.heap.size
 |.int _,_,_,_,h,k,hk=>by simp only[aE]at h;obtain⟨_,rfl⟩:=h;simp at hk
 |.bool,_,_,_,h,k,hk=>by simp only[aE]at h;obtain⟨_,rfl⟩:=h;simp at hk
 |.fnc _,_,_,_,h,k,hk=>by simp only[aE]at h;obtain⟨_,rfl⟩:=h;simp at hk
 |.str,_,_,_,h,k,hk=>by simp only[aE]at h;obtain⟨_,rfl⟩:=h;simp at hk
 |.err,_,_,_,h,k,hk=>by obtain⟨_,rfl⟩:=h;simp at hk
 |.pair a b,_,_,_,h,k,hk=>by
  obtain⟨c1,c2,L1,L2,e,rfl,h1,h2⟩:=h;rcases List.mem_append.1 hk with hk|hk;·exact h1.lt k hk
  ·exact h2.lt k hk
 |.sl _ t,_,_,x,h,k,hk=>by
  obtain⟨v,css,Ls,e,h1,rfl,h2⟩:=h;rcases List.mem_append.1 hk with hk|hk;·exact(h1.lt k (by simpa using hk)).2
  ·obtain⟨l,hl,hk⟩:=List.mem_flatten.1 hk;have:aP (λ(l:List Nat) (_:List Value) (_:t.den)=>∀k∈l,k<w.heap.size) Ls css x:=h2.imp λ_ _ _ ho=>ho.lt;exact jM this l hl k hk
def aE.rd{w:World}{S:Nat->Prop}:∀{t:Ty}{L:List Nat}{cs:List Value}{x:t.den},aE w t L cs x->(∀k∈L,S k)->Rd w S t cs x
 |.int _,_,_,_,h,_=>h.1
 |.bool,_,_,_,h,_=>h.1
 |.fnc _,_,_,_,h,_=>h.1
 |.str,_,_,_,h,_=>h.1
 |.err,_,_,_,h,_=>h.1
 |.pair a b,_,_,_,h,hS=>by obtain⟨c1,c2,L1,L2,e,rfl,h1,h2⟩:=h;exact⟨c1,c2,e,h1.rd λk hk=>hS k (List.mem_append.2 (.inl hk)),h2.rd λk hk=>hS k (List.mem_append.2 (.inr hk))⟩
 |.sl _ t,_,_,x,h,hS=>by
  obtain⟨v,css,Ls,rfl,h1,rfl,h2⟩:=h;have h3:ai (λc y=>Rd w S t c y) css x:=aP.two (R:=λc y=>Rd w S t c y) (λ_ _ _ h=>h) (h2.imp_mem (Q':=λ_ c y=>Rd w S t c y) λl c y hl ho=>ho.rd λk hk=>hS k (List.mem_append.2 (.inr (List.mem_flatten.2 ⟨l,hl,hk⟩))));obtain⟨A,c,rfl,hc1,hc2⟩:=gM h1;refine⟨A,_,c,rfl,rfl,hc1,hc2, ?_⟩;rcases h1.2 with⟨_,h0⟩|⟨g,cap,cur,e,_⟩;·exact .inl h0
  ·injection e with e1 e2 e3;subst e1;exact .inr ⟨⟨g,0,none⟩,css,rfl,hS _ (List.mem_append.2 (.inl (by simp[Value.ownBlock]))),h3,h1.cells rfl⟩
inductive ay where
 |st|row (r:Nat)|inn (r:Nat)|box (b:Nat)|dead
 deriving DecidableEq
def bh:Option Nat->ay
 |none=>.st
 |some r=>.inn r
structure ac where
 e:Nat
 t:Ty
 xs:List t.den
 deep:Bool
 nilE:Bool
inductive af where
 |undef
 |int (k:IntKind) (n:Int)
 |bool (b:Bool)
 |str (s:ByteArray)
 |err (b:Bool)
 |nil
 |sn (e:Nat) (t:Ty) (xs:List t.den) (p:Option Nat)
 |full (e:Nat) (t:Ty) (xs:List t.den) (p:Option Nat)
 |own (r:Nat)
 |part (r:Nat) (lo n:Int)
 |box (b:Nat) (f:Nat)
 |elt (r:Nat) (i:Int) (f:Nat)
 |selt (t:Ty) (x:t.den) (p:Option Nat) (f:Nat)
 |fn (f:Nat) (caps:List (Nat×Nat))
 |bor (v:Value) (e:Nat) (t:Ty) (xs:List t.den)
 |mp (b:Nat)
 |mset (t:Ty) (xs:List t.den)
abbrev bV:Nat:=1000000000
def eC:(t:Ty)->t.den->Value
 |.int k,x=>.int k x
 |.str,s=>.string s
 |.bool,b=>.bool b
 |_,_=>undef
def gd(l:List Value):Value:=.func (.func 0) l.toArray #[]
def HR{l l':List Value}(h:gd l=gd l'):l=l':=by unfold gd at h;injection h with _ h _;simpa using h
def jh(te:Nat)(arr:Array Value)(o:Option Obj):Prop :=
 (te<bV/\o=some (.cells arr te (0,0)))\/(bV<=te/\∃es clock,o=some (.map es clock)/\arr.toList=[gd (es.toList.map (·.key))]/\∀e∈es.toList,e.val=.bool true)
def jh.cells{te:Nat}{arr:Array Value}{o:Option Obj}(h:jh te arr o)(ht:te<bV):o=some (.cells arr te (0,0)):=by
 rcases h with h|h;·exact h.2
 ·omega
def jh.map{te:Nat}{arr:Array Value}{o:Option Obj}(h:jh te arr o)(ht:bV<=te):∃es clock,o=some (.map es clock)/\arr.toList=[gd (es.toList.map (·.key))]/\∀e∈es.toList,e.val=.bool true:=by
 rcases h with h|h;·omega
 ·exact h.2
def jh.lt{te k:Nat}{arr:Array Value}{w:World}(h:jh te arr w.heap[k]?):k<w.heap.size:=by rcases h with⟨_,h⟩|⟨_,es,clock,h,_⟩<;>exact(Array.getElem?_eq_some_iff.1 h).1
inductive SV where
 |c (x:af)
 |agg (l:List af)
 |tup (l:List (Bool×List af))
structure St where
 slot:Nat->SV
 box:Nat->Option (Nat×List af)
 row:Nat->Option ac
structure aM where
 lab:Nat->ay
 rv:Nat->Value
 bb:Nat->Nat
def am{α:Type}(f:Nat->α)(k:Nat)(v:α):Nat->α:=λj=>cond (Nat.beq j k) v (f j)
def aU{α:Type}(f:Nat->α)(k:Nat)(v:α):am f k v k=v:=by simp[am]
def ba{α:Type}(f:Nat->α){k j:Nat}(v:α)(h:j≠k):am f k v j=f j:=by
 unfold am;have:Nat.beq j k=false:=by
  cases hb:Nat.beq j k;·rfl
  ·exact absurd (Nat.eq_of_beq_eq_true hb) h
 rw[this];rfl
def aj(V:St)(E:aM)(w:World):af->Value->Prop
 |.undef,_=>True
 |.int k n,v=>v=.int k n
 |.bool b,v=>v=.bool b
 |.str s,v=>v=.string s
 |.err b,v=>jN v b
 |.nil,v=>v=.slice none 0 0
 |.sn e t xs p,v=>Rd w (λk=>E.lab k=bh p) (.sl e t) [v] xs
 |.full e t xs p,v=>Rd w (λk=>E.lab k=bh p) (.sl e t) [v] xs/\∃A,v=.slice A xs.length xs.length
 |.own r,v=>v=E.rv r/\(V.row r).isSome=true/\∃(A:Option Addr) (n c:Nat),v=.slice A n c
 |.part r lo n,v=>∃row A c,V.row r=some row/\0<=lo/\0<=n/\lo+n<=row.xs.length/\v=.slice A n.toNat c/\n.toNat<=c/\c<=maxLen /\
   (0<n->∃g m d,E.rv r=.slice (some ⟨g,0,none⟩) m d/\A=some ⟨g,lo.toNat*row.t.nc,none⟩)
 |.box b f,v=>v=.pointer (some ⟨E.bb b,f,none⟩)/\∃te cs,V.box b=some (te,cs)/\f<cs.length
 |.elt r i f,v=>∃row g n c,V.row r=some row/\E.rv r=.slice (some ⟨g,0,none⟩) n c/\0<=i/\i<row.xs.length/\f<row.t.nc/\v=.pointer (some ⟨g,i.toNat*row.t.nc+f,none⟩)
 |.selt t x p f,v=>∃(ad:Addr) (cs:List Value),v=.pointer (some (ad.add f))/\f<t.nc/\E.lab ad.block=bh p/\Rd w (λk=>E.lab k=bh p) t cs x/\∀(j:Nat) (u:Value),cs[j]? = some u->w.cell? (ad.add j)=some u
 |.fn f caps,v=>v=.func (.func f) #[] (caps.map λp=>Value.pointer (some ⟨E.bb p.1,p.2,none⟩)).toArray/\∀p∈caps,∃te cs,V.box p.1=some (te,cs)/\p.2<cs.length
 |.bor v0 e t xs,v=>v=v0/\Rd w (λk=>E.lab k=.st) (.sl e t) [v] xs
 |.mp b,v=>v=.map (some (E.bb b))/\∃te cs,V.box b=some (te,cs)
 |.mset t xs,v=>v=gd (xs.map (eC t))
def af.weak:af->af
 |.bor _ e t xs=>.sn e t xs none
 |c=>c
def aj.weak{V:St}{E:aM}{w:World}:∀{c:af}{v:Value},aj V E w c v->aj V E w c.weak v
 |.bor _ _ _ _,_,h=>h.2
 |.undef,_,h=>h
 |.int _ _,_,h=>h
 |.bool _,_,h=>h
 |.str _,_,h=>h
 |.err _,_,h=>h
 |.nil,_,h=>h
 |.sn _ _ _ _,_,h=>h
 |.full _ _ _ _,_,h=>h
 |.own _,_,h=>h
 |.part _ _ _,_,h=>h
 |.box _ _,_,h=>h
 |.elt _ _ _,_,h=>h
 |.selt _ _ _ _,_,h=>h
 |.fn _ _,_,h=>h
 |.mp _,_,h=>h
 |.mset _ _,_,h=>h
def ai.weak{V:St}{E:aM}{w:World}:∀{cs:List af}{vs:List Value},ai (aj V E w) cs vs->ai (aj V E w) (cs.map af.weak) vs
 |[],[],_=>trivial
 |_::_,_::_,h=>⟨h.1.weak,ai.weak h.2⟩
def aK(V:St)(E:aM)(w:World):SV->Value->Prop
 |.c x,v=>aj V E w x v
 |.agg l,v=>∃arr:Array Value,v=.agg arr/\ai (aj V E w) l arr.toList
 |.tup l,v=>∃arr:Array Value,v=.tuple arr/\ai (λ(p:Bool×List af) u=>cond p.1 (∃ar:Array Value,u=.agg ar/\ai (aj V E w) p.2 ar.toList) (ai (aj V E w) p.2 [u])) l arr.toList
def bP(w:World)(lab:Nat->ay)(r:Nat)(row:ac)(v:Value):Prop :=
 ∃css:List (List Value),w.ownsRow 0 row.e row.t.nc v row.xs.length css.flatten/\(∀k,v.ownBlock=some k->lab k=.row r) /\
  cond row.deep (∃Ls:List (List Nat),aP (λl c y=>aE w row.t l c y) Ls css row.xs/\Ls.flatten.Nodup/\∀k∈Ls.flatten,lab k=.inn r)
   (ai (λc y=>Rd w (λk=>lab k=.st) row.t c y) css row.xs) /\
  (row.nilE=true->row.xs.length=0->v=.slice none 0 0)
def ji(V:St)(E:aM)(w:World)(b:Nat)(te:Nat)(cs:List af):Prop :=
 ∃arr:Array Value,jh te arr w.heap[E.bb b]?/\E.lab (E.bb b)=.box b/\ai (aj V E w) cs arr.toList/\∀u∈arr.toList,u.oneCell'=true
class DC where
 D:Prop
instance (priority:=low) DC.ff:DC:=⟨False⟩
structure Tp[DC](w w':World):Prop where
 tape:w'.tape=w.tape
 drawn:DC.D->w.drawn<=w'.drawn
def Tp.trans[DC]{w0 w w':World}(h:Tp w w')(g:Tp w0 w):Tp w0 w':=⟨h.tape.trans g.tape,λd=>Nat.le_trans (g.drawn d) (h.drawn d)⟩
structure lP[DC](w0:World)(lab0:Nat->ay)(lab:Nat->ay)(w:World):Prop where
 os:w.os=w0.os
 tape:Tp w0 w
 output:w.output=w0.output
 size:w0.heap.size<=w.heap.size
 old:∀k,k<w0.heap.size->lab0 k=.st->lab k=.st/\w.heap[k]? = w0.heap[k]?
 gone:∀k,k<w0.heap.size->lab0 k=.dead->lab k=.dead/\w.heap[k]? = w0.heap[k]?
def cP(oo:Nat->Value)(a:Act)(t:Nat):Value:=if t<100000 then a.tmps.getD t undef else oo t
structure R[DC](w0:World)(lab0:Nat->ay)(oo:Nat->Value)(n:Nat)(V:St)(E:aM)(a:Act)(w:World):Prop where
 bound:n<=100000
 size:a.tmps.size=n
 defers:a.defers=[]
 slots:∀t,aK V E w (V.slot t) (cP oo a t)
 boxes:∀b te cs,V.box b=some (te,cs)->ji V E w b te cs
 rows:∀r row,V.row r=some row->bP w E.lab r row (E.rv r)
 same:lP w0 lab0 E.lab w
section
variable {V V' : St} {E E' : aM} {w w' : World}
structure cq(V:St)(E:aM)(w:World)(V':St)(E':aM)(w':World):Prop where
 row:∀r row,V.row r=some row->∃row',V'.row r=some row'/\E'.rv r=E.rv r/\row'.t.nc=row.t.nc/\row.xs.length<=row'.xs.length
 box:∀b te cs,V.box b=some (te,cs)->∃te' cs',V'.box b=some (te',cs')/\E'.bb b=E.bb b/\cs'.length=cs.length
 cell:∀(p:Option Nat) (ad:Addr) (u:Value),E.lab ad.block=bh p->w.cell? ad=some u->E'.lab ad.block=bh p/\w'.cell? ad=some u
 rd:∀(p:Option Nat) (t:Ty) (cs:List Value) (x:t.den),Rd w (λk=>E.lab k=bh p) t cs x->Rd w' (λk=>E'.lab k=bh p) t cs x
def aj.move(m:cq V E w V' E' w'):∀{c:af}{v:Value},aj V E w c v->aj V' E' w' c v
 |.undef,_,_=>trivial
 |.int _ _,_,h=>h
 |.bool _,_,h=>h
 |.str _,_,h=>h
 |.err _,_,h=>h
 |.nil,_,h=>h
 |.bor v0 e t xs,v,h=>⟨h.1,m.rd none _ _ _ h.2⟩
 |.sn e t xs p,v,h=>m.rd p _ _ _ h
 |.full e t xs p,v,h=>⟨m.rd p _ _ _ h.1,h.2⟩
 |.own r,v,h=>by obtain⟨rfl,h,hv⟩:=h;obtain⟨row,hr⟩:=Option.isSome_iff_exists.1 h;obtain⟨row',h1,h2,_⟩:=m.row r row hr;exact⟨h2.symm,by rw[h1];rfl,hv⟩
 |.part r lo n,v,h=>by obtain⟨row,A,c,h1,h2,h3,h4,h5,h6,h7,h8⟩:=h;obtain⟨row',g1,g2,g3,g4⟩:=m.row r row h1;refine⟨row',A,c,g1,h2,h3,by omega,h5,h6,h7,λhn=>?_⟩;rw[g2,g3];exact h8 hn
 |.box b f,v,h=>by obtain⟨rfl,te,cs,h1,h2⟩:=h;obtain⟨te',cs',g1,g2,g3⟩:=m.box b te cs h1;exact⟨by rw[g2],te',cs',g1,by omega⟩
 |.elt r i f,v,h=>by obtain⟨row,g,n,c,h1,h2,h3,h4,h5,h6⟩:=h;obtain⟨row',g1,g2,g3,g4⟩:=m.row r row h1;exact⟨row',g,n,c,g1,by rw[g2];exact h2,h3,by omega,by rw[g3];exact h5,by rw[g3];exact h6⟩
 |.selt t x p f,v,h=>by
  obtain⟨ad,cs,h1,h2,h3,h4,h5⟩:=h;have h0:0<cs.length:=by rw[h4.len];exact t.nc_pos
  have hc:=m.cell p (ad.add 0) _ (by simpa[Addr.add]using h3) (h5 0 cs[0] (by simp));refine⟨ad,cs,h1,h2,by simpa[Addr.add]using hc.1,m.rd p _ _ _ h4,λj u hu=>?_⟩;have hb:(ad.add j).block=ad.block:=by unfold Addr.add;split<;>rfl
  exact(m.cell p (ad.add j) u (by rw[hb];exact h3) (h5 j u hu)).2
 |.fn f caps,v,h=>by
  obtain⟨rfl,h⟩:=h;refine⟨?_,λp hp=>?_⟩;·congr 2;refine List.map_congr_left λp hp=>?_;obtain⟨te,cs,h1,_⟩:=h p hp;obtain⟨_,_,_,g2,_⟩:=m.box _ _ _ h1;rw[g2]
  ·obtain⟨te,cs,h1,h2⟩:=h p hp;obtain⟨te',cs',g1,_,g3⟩:=m.box _ _ _ h1;exact⟨te',cs',g1,by omega⟩
 |.mp b,v,h=>by obtain⟨rfl,te,cs,h1⟩:=h;obtain⟨te',cs',g1,g2,_⟩:=m.box b te cs h1;exact⟨by rw[g2],te',cs',g1⟩
 |.mset _ _,_,h=>h
def aK.move(m:cq V E w V' E' w'):∀{s:SV}{v:Value},aK V E w s v->aK V' E' w' s v
 |.c _,_,h=>aj.move m h
 |.agg l,_,h=>by obtain⟨arr,e,h⟩:=h;exact⟨arr,e,h.imp λ_ _ h=>h.move m⟩
 |.tup l,_,h=>by
  obtain⟨arr,e,h⟩:=h;refine⟨arr,e,h.imp λp u h=>?_⟩;rcases p with⟨b,l⟩;cases b;·exact ai.imp (λ_ _ h=>h.move m) (show ai (aj V E w) l [u]from h)
  ·obtain⟨ar,e,h⟩:∃ar:Array Value,u=.agg ar/\ai (aj V E w) l ar.toList:=h;exact(⟨ar,e,h.imp λ_ _ h=>h.move m⟩:∃ar:Array Value,u=.agg ar/\ai (aj V' E' w') l ar.toList)
def cq.same(hr:V'.row=V.row)(hb:V'.box=V.box):cq V E w V' E w :=
 ⟨λr row h=>⟨row,by rw[hr];exact h,rfl,rfl,Nat.le_refl _⟩,λb te cs h=>⟨te,cs,by rw[hb];exact h,rfl,rfl⟩,λ_ _ _ h1 h2=>⟨h1,h2⟩,λ_ _ _ _ h=>h⟩
end
def St.put(V:St)(d:Nat)(s:SV):St:={ V with slot:=am V.slot d s }
section
variable {w0 : World} {lab0 : Nat → ay} {oo : Nat → Value} {n : Nat} {V : St} {E : aM} {a : Act} {w : World} [DC]
def na(ts:Array Value)(d t:Nat)(v:Value)(h:d<ts.size):(ts.setIfInBounds d v).getD t undef=if t=d then v else ts.getD t undef:=by
 simp only[Array.getD_eq_getD_getElem?,Array.getElem?_setIfInBounds];by_cases e:d=t;·subst e;simp[h]
 ·rw[if_neg e,if_neg (Ne.symm e)]
def R.put(h:R w0 lab0 oo n V E a w){d:Nat}{s:SV}{v:Value}(hd:d<n)(hs:aK V E w s v):R w0 lab0 oo n (V.put d s) E (a.put (some d) v) w:=by
 have m:cq V E w (V.put d s) E w:=cq.same rfl rfl;have hb:=h.bound;refine⟨h.bound,by simpa[Act.put]using h.size,h.defers,λt=>?_,λb te cs hb=>?_,h.rows,h.same⟩
 ·have hv:cP oo (a.put (some d) v) t=if t=d then v else cP oo a t:=by
   unfold cP;simp only[Act.put];rw[na _ _ _ _ (by rw[h.size];exact hd)];by_cases e:t=d;·subst e;rw[if_pos rfl,if_pos rfl,if_pos (by omega)]
   ·rw[if_neg e,if_neg e]
  rw[hv];by_cases e:t=d;·subst e;rw[if_pos rfl];show aK _ _ _ (am V.slot t s t) v;rw[aU];exact hs.move m
  ·rw[if_neg e];show aK _ _ _ (am V.slot d s t) _;rw[ba _ _ e];exact(h.slots t).move m
 ·obtain⟨arr,h1,h2,h3,h4⟩:=h.boxes b te cs hb;exact⟨arr,h1,h2,h3.imp λ_ _ h=>h.move m,h4⟩
end
structure TI where
 agg:Bool
 ty:Ty
 zero:List af
 fields:List (Nat×Nat×Bool)
 el:Option Nat
 bytes:Nat
abbrev bc:=Nat->Option TI
def zc:af->Value->Bool
 |.int k n,.int k' n'=>(decide (k=k'))&&decide (n=n')
 |.bool b,.bool b'=>b == b'
 |.str s,.string s'=>Nat.beq s.size 0&&Nat.beq s'.size 0
 |.nil,.slice none 0 0=>true
 |.err b,.nilIface=>!b
 |.undef,_=>true
 |_,_=>false
def oV:List af->List Value->Bool
 |[],[]=>true
 |c::cs,v::vs=>zc c v&&(v.oneCell'&&oV cs vs)
 |_,_=>false
def Ap:TypeDesc->Bool
 |.struct _|.array _ _=>true
 |_=>false
def lQ(P:Program):List Field->List (Nat×Nat×Bool)->Bool
 |[],[]=>true
 |f::fs,g::gs=>Nat.beq f.offset g.1&&(Nat.blt 0 g.2.1&&(match P.info? f.type,P.underlying f.type with|some i,some d=>Nat.beq i.size g.2.1&&(Ap d == g.2.2)|_,_=>false))&&lQ P fs gs
 |_,_=>false
def nb(P:Program)(k e:Nat):Ty->Bool
 |.pair kt (.sl 0 .bool)=>(match P.underlying k,kt with
  |some (.int q),.int q'=>decide (q=q')
  |some .string,.str=>true
  |_,_=>false)&&(match P.info? e with
  |some i=>(match i.zero with|some (.bool false)=>true|_=>false)
  |none=>false)
 |.pair _ .bool=>true
 |_=>false
def fM(P:Program)(i:TI):TypeDesc->Bool
 |.struct fs=>i.agg&&(i.el.isNone&&lQ P fs.toList i.fields)
 |.slice e=>!i.agg&&(i.fields.isEmpty&&(match i.el with|some e'=>Nat.beq e e'|none=>false))
 |.int k=>!i.agg&&(i.fields.isEmpty&&(i.el.isNone&&decide (i.ty=.int k)))
 |.bool=>!i.agg&&(i.fields.isEmpty&&(i.el.isNone&&decide (i.ty=.bool)))
 |.string=>!i.agg&&(i.fields.isEmpty&&(i.el.isNone&&decide (i.ty=.str)))
 |.interface _=>!i.agg&&(i.fields.isEmpty&&(i.el.isNone&&decide (i.ty=.err)))
 |.array _ _=>false
 |.map k e=>!i.agg&&(i.fields.isEmpty&&(i.el.isNone&&nb P k e i.ty))
 |_=>!i.agg&&(i.fields.isEmpty&&(i.el.isNone&&(match i.ty with|.pair _ .bool=>true|_=>false)))
def u4(P:Program)(t:Nat)(i:TI):Bool :=
 match P.info? t,P.underlying t with
 |some inf,some d =>Nat.beq inf.size i.zero.length&&(Nat.beq inf.bytes i.bytes&&((match inf.zero with|some z=>oV i.zero z.cells.toList&&((match z with|.agg _=>true|_=>false) == i.agg)|none=>false)&&fM P i d))
 |_,_=>false
def aX(P:Program)(T:bc):Prop:=∀t i,T t=some i->u4 P t i=true
def rK:List (Nat×TI)->bc
 |[],_=>none
 | (k,i)::l,t=>cond (Nat.beq t k) (some i) (rK l t)
def aX.of{P:Program}{l:List (Nat×TI)}(h:(l.all λp=>u4 P p.1 p.2)=true):aX P (rK l):=by
 intro t i hi;induction l with
 |nil=>cases hi
 |cons p l ih =>
  obtain⟨k,j⟩:=p;simp only[List.all_cons,Bool.and_eq_true]at h;unfold rK at hi;cases hb:Nat.beq t k;·rw[hb]at hi;exact ih h.2 hi
  ·rw[hb]at hi;obtain rfl:=Nat.eq_of_beq_eq_true hb;injection hi with hi;subst hi;exact h.1
inductive bj:Type 1 where
 |fail
 |ok (V:St)
 |chk (c:Bool) (o:bj)
 |br (b:Bool) (o1 o2:bj)
 |call {β:Type} (x:Option β) (f:β->bj)
def bj.run:bj->Option St
 |.fail=>none
 |.ok V=>some V
 |.chk c o=>cond c o.run none
 |.br b o1 o2=>cond b o1.run o2.run
 |.call x f=>x.bind λb=>(f b).run
def bj.k{J:Type}:bj->(St->Option J)->Option J
 |.fail,_=>none
 |.ok V,K=>K V
 |.chk c o,K=>cond c (o.k K) none
 |.br b o1 o2,K=>cond b (o1.k K) (o2.k K)
 |.call x f,K=>x.bind λb=>(f b).k K
def bj.k_run{J:Type}{K:St->Option J}{r:J}:∀{o:bj},o.k K=some r->∃V',o.run=some V'/\K V'=some r
 |.fail,h=>by cases h
 |.ok V,h=>⟨V,rfl,h⟩
 |.chk c o,h=>by
  cases c;·cases h
  ·exact bj.k_run (o:=o) h
 |.br b o1 o2,h=>by
  cases b;·exact bj.k_run (o:=o2) h
  ·exact bj.k_run (o:=o1) h
 |.call x f,h=>by obtain⟨b,rfl,hb⟩:=Option.bind_eq_some_iff.1 h;obtain⟨V',h1,h2⟩:=bj.k_run (o:=f b) hb;exact⟨V',h1,h2⟩
def Ty.dflt:(t:Ty)->t.den
 |.int _=>(0:Int)
 |.bool=>false
 |.fnc _=>()
 |.str=>ByteArray.empty
 |.err=>false
 |.sl _ _=>[]
 |.pair a b=>(a.dflt,b.dflt)
def Ty.flat:Ty->Bool
 |.sl _ _=>false
 |.pair a b=>a.flat&&b.flat
 |_=>true
def bt(s:ByteArray)(i:Int):Int:=((s.data.getD i.toNat 0).toNat:Int)
def rL(a b:ByteArray):Bool:=a.toList == b.toList
def rM(a b:ByteArray):Bool:=Op.bytesLess a.toList b.toList
def jO:IntKind->IntKind->Bool
 |.i8,.i8|.i16,.i16|.i32,.i32|.i64,.i64|.u8,.u8|.u16,.u16|.u32,.u32|.u64,.u64=>true
 |_,_=>false
def eD(op:BinOp)(k:IntKind)(x y:Int):Int :=
 match op with
 |.and=>k.wrap (BitVec.ofInt k.bits x &&& BitVec.ofInt k.bits y).toNat
 |.or=>k.wrap (BitVec.ofInt k.bits x ||| BitVec.ofInt k.bits y).toNat
 |.xor=>k.wrap (BitVec.ofInt k.bits x ^^^ BitVec.ofInt k.bits y).toNat
 |_=>k.wrap (BitVec.ofInt k.bits x &&& ~~~BitVec.ofInt k.bits y).toNat
def mx(x y:Int):Int:=if y > x then y else x
def mn(x y:Int):Int:=if y<x then y else x
def dj(t t':Ty)(x:List t.den):Option (List t'.den):=if h:t=t' then some (h▸x)else none
def dF:(t:Ty)->t.den->Option Nat->List af
 |.int k,x,_=>[.int k x]
 |.bool,x,_=>[.bool x]
 |.fnc g,_,_=>[.fn g []]
 |.str,x,_=>[.str x]
 |.err,x,_=>[.err x]
 |.sl e t,x,p=>[.sn e t x p]
 |.pair a b,x,p=>dF a x.1 p++dF b x.2 p
def dJ{α β:Type}:Option α->Option β->Option (α×β)
 |some x,some y=>some (x,y)
 |_,_=>none
def kA(k:IntKind):List af->Option Int
 |[.int k' n]=>cond (jO k k') (some n) none
 |_=>none
def lR:List af->Option Bool
 |[.bool b]=>some b
 |_=>none
def oW(g:Nat):List af->Option Unit
 |[.fn g' []]=>cond (Nat.beq g' g) (some ()) none
 |_=>none
def kB:List af->Option ByteArray
 |[.str s]=>some s
 |_=>none
def oX:List af->Option Bool
 |[.err b]=>some b
 |_=>none
def iv(look:Nat->Option ac)(e:Nat)(t:Ty):List af->Option (List t.den)
 |[.nil]=>some []
 |[.own r]=>match look r with
  |some row=>cond (Nat.beq row.e e&&row.deep) (dj row.t t row.xs) none
  |none=>none
 |_=>none
def u5(e:Nat)(t:Ty):List af->Option (List t.den)
 |[.nil]=>some []
 |[.sn e' t' xs none]=>cond (Nat.beq e' e) (dj t' t xs) none
 |_=>none
def dk(look:Nat->Option ac):(t:Ty)->List af->Option t.den
 |.int k,cs=>kA k cs
 |.bool,cs=>lR cs
 |.fnc g,cs=>oW g cs
 |.str,cs=>kB cs
 |.err,cs=>oX cs
 |.sl e t,cs=>iv look e t cs
 |.pair a b,cs=>dJ (dk look a (cs.take a.nc)) (dk look b (cs.drop a.nc))
def ge:(t:Ty)->List af->Option t.den
 |.int k,cs=>kA k cs
 |.bool,cs=>lR cs
 |.fnc g,cs=>oW g cs
 |.str,cs=>kB cs
 |.err,cs=>oX cs
 |.sl e t,cs=>u5 e t cs
 |.pair a b,cs=>dJ (ge a (cs.take a.nc)) (ge b (cs.drop a.nc))
def ne:(t:Ty)->t.den->Nat->af->Option t.den
 |.int k,_,f,c=>cond (Nat.beq f 0) (kA k [c]) none
 |.bool,_,f,c=>cond (Nat.beq f 0) (lR [c]) none
 |.fnc _,_,_,_=>none
 |.str,_,f,c=>cond (Nat.beq f 0) (kB [c]) none
 |.err,_,_,_=>none
 |.sl _ _,_,_,_=>none
 |.pair a b,x,f,c=>cond (Nat.blt f a.nc) (match ne a x.1 f c with|some y=>some (y,x.2)|none=>none) (match ne b x.2 (f-a.nc) c with|some y=>some (x.1,y)|none=>none)
def SV.map(f:af->af):SV->SV
 |.c x=>.c (f x)
 |.agg l=>.agg (l.map f)
 |.tup l=>.tup (l.map λp=>(p.1,p.2.map f))
def St.mapc(V:St)(f:af->af):St :=
 { slot:=λt=>(V.slot t).map f,box:=λb=>match V.box b with|some (te,cs)=>some (te,cs.map f)|none=>none,row:=V.row }
def dG(r:Nat):af->af
 |.own q=>cond (Nat.beq q r) .undef (.own q)
 |.part q lo n=>cond (Nat.beq q r) .undef (.part q lo n)
 |.elt q i f=>cond (Nat.beq q r) .undef (.elt q i f)
 |c=>c
def gN(r:Nat)(row:ac)(p:Option Nat):af->af
 |.own q=>cond (Nat.beq q r) (.sn row.e row.t row.xs p) (.own q)
 |.part q lo n=>cond (Nat.beq q r) .undef (.part q lo n)
 |.elt q i f=>cond (Nat.beq q r) .undef (.elt q i f)
 |.sn e t xs (some q)=>.sn e t xs (cond (Nat.beq q r) p (some q))
 |.full e t xs (some q)=>.full e t xs (cond (Nat.beq q r) p (some q))
 |.selt t x (some q) f=>.selt t x (cond (Nat.beq q r) p (some q)) f
 |c=>c
def u6:Value->SV
 |.int k n=>.c (.int k n)
 |.bool b=>.c (.bool b)
 |.string s=>.c (.str s)
 |.slice none 0 0=>.c .nil
 |.func (.func f) first captured=>cond (Nat.beq first.size 0&&Nat.beq captured.size 0) (.c (.fn f [])) (.c .undef)
 |_=>.c .undef
def ev(V:St):Operand->SV
 |.tmp t=>cond (Nat.blt t 100000) (V.slot t) (.c .undef)
 |.const v=>u6 v
 |.func f=>.c (.fn f [])
 |.global _=>.c .undef
def SV.cells:SV->Option (List af)
 |.c .undef=>none
 |.c x=>some [x]
 |.agg l=>some l
 |.tup _=>none
def aT(d j:Nat):Nat:=d*8+j
def newBox(V:St)(d te:Nat)(cs:List af):bj :=
 match V.box d with
 |none=>cond (Nat.blt te bV) (.ok { slot:=am V.slot d (.c (.box d 0)),box:=am V.box d (some (te,cs)),row:=V.row }) .fail
 |some _=>.fail
def newRow(V:St)(d:Nat)(row:ac):bj :=
 match V.row (aT d 0)with
 |none=>.ok { slot:=am V.slot d (.c (.own (aT d 0))),box:=V.box,row:=am V.row (aT d 0) (some row) }
 |some _=>.fail
def aF:List af->List Nat
 |[]=>[]
 |.own r::cs=>r::aF cs
 |_::cs=>aF cs
def absorb(q:Nat)(p:Option Nat)(V:St):Option St:=match V.row q with
 |some row=>cond (row.deep||p.isNone) (some { (V.mapc (gN q row p))with row:=am V.row q none }) none
 |none=>none
def absorbs(p:Option Nat):List Nat->St->Option St
 |[],V=>some V
 |q::qs,V=>match absorb q p V with
  |some V'=>absorbs p qs V'
  |none=>none
def u7(op:BinOp)(k:IntKind)(a b:Int):Option (Bool×af) :=
 match op with
 |.add=>some (true,.int k (k.wrap (a+b)))
 |.sub=>some (true,.int k (k.wrap (a-b)))
 |.mul=>some (true,.int k (k.wrap (a*b)))
 |.quo=>some (!(decide (b=0)),.int k (k.wrap (a.tdiv b)))
 |.rem=>some (!(decide (b=0)),.int k (a.tmod b))
 |.and=>some (true,.int k (eD .and k a b))
 |.or=>some (true,.int k (eD .or k a b))
 |.xor=>some (true,.int k (eD .xor k a b))
 |.eql=>some (true,.bool (decide (a=b)))
 |.neq=>some (true,.bool (!(decide (a=b))))
 |.lss=>some (true,.bool (decide (a<b)))
 |.leq=>some (true,.bool (decide (a<=b)))
 |.gtr=>some (true,.bool (decide (b<a)))
 |.geq=>some (true,.bool (decide (b<=a)))
 |_=>none
def u9(op:BinOp)(a b:ByteArray):Option (Bool×af) :=
 match op with
 |.add=>some (Nat.blt (a.size+b.size) 4611686018427387904,.str (a++b))
 |.eql=>some (true,.bool (rL a b))
 |.neq=>some (true,.bool (!(rL a b)))
 |.lss=>some (true,.bool (rM a b))
 |.leq=>some (true,.bool (rM a b||rL a b))
 |.gtr=>some (true,.bool (!(rM a b||rL a b)))
 |.geq=>some (true,.bool (!(rM a b)))
 |_=>none
def va(op:BinOp)(k:IntKind)(a b:Int):Option (Bool×af) :=
 match op with
 |.shl=>some (decide (0<=b),.int k (k.wrap (a*2 ^ (min b.toNat k.bits))))
 |.shr=>some (decide (0<=b),.int k (a.fdiv (2 ^ (min b.toNat k.bits))))
 |_=>none
def Aq:BinOp->Bool
 |.shl|.shr=>true
 |_=>false
def oY(op:BinOp)(x y:af):Option (Bool×af) :=
 match x,y with
 |.int k a,.int k' b=>cond (Aq op) (va op k a b) (cond (jO k k') (u7 op k a b) none)
 |.str a,.str b=>u9 op a b
 |_,_=>none
def lS(V:St)(ti:TI)(x y:af):Option (Bool×Bool) :=
 match x,y with
 |.bool a,.bool b=>cond (decide (ti.ty=.bool)&&(!ti.agg&&ti.el.isNone)) (some (true,a == b)) none
 |.nil,.nil=>cond ti.el.isSome (some (true,true)) none
 |.sn _ _ xs _,.nil=>cond ti.el.isSome (some (decide (0<xs.length),false)) none
 |.own r,.nil=>match V.row r with
  |some row=>cond ti.el.isSome (cond row.nilE (some (true,decide (row.xs.length=0))) (some (decide (0<row.xs.length),false))) none
  |none=>none
 |_,_=>none
def vb(op:UnOp)(x:af):Option af :=
 match op,x with
 |.not,.bool b=>some (.bool (!b))
 |.neg,.int k n=>some (.int k (k.wrap (0-n)))
 |_,_=>none
def oZ(V:St)(e sz:Nat)(x i:af):Option (Bool×af) :=
 match x,i with
 |.sn e' t xs p,.int _ n=>cond (Nat.beq t.nc sz) (some (decide (0<=n)&&decide (n<(xs.length:Int)),.selt t (xs.getD n.toNat t.dflt) p 0)) none
 |.full e' t xs p,.int _ n=>cond (Nat.beq t.nc sz) (some (decide (0<=n)&&decide (n<(xs.length:Int)),.selt t (xs.getD n.toNat t.dflt) p 0)) none
 |.own r,.int _ n=>match V.row r with
  |some row=>cond (Nat.beq row.t.nc sz) (some (decide (0<=n)&&decide (n<(row.xs.length:Int)),.elt r n 0)) none
  |none=>none
 |.part r lo m,.int _ n=>match V.row r with
  |some row=>cond (Nat.beq row.t.nc sz) (some (decide (0<=n)&&decide (n<m),.elt r (lo+n) 0)) none
  |none=>none
 |_,_=>none
def vc(V:St)(e sz:Nat)(x i:af):Option (Bool×af):=oZ V e sz x.weak i
def vd(V:St)(c:af)(a7:Nat):Option af :=
 match c with
 |.box b f=>match V.box b with
  |some (_,cs)=>cond (Nat.blt (f+a7) cs.length) (some (.box b (f+a7))) none
  |none=>none
 |.elt r i f=>match V.row r with
  |some row=>cond (Nat.blt (f+a7) row.t.nc) (some (.elt r i (f+a7))) none
  |none=>none
 |.selt t x p f=>cond (Nat.blt (f+a7) t.nc) (some (.selt t x p (f+a7))) none
 |_=>none
def kC(V:St)(c:af)(n:Nat):Option (List af) :=
 match c with
 |.box b f=>match V.box b with
  |some (te,cs)=>cond (Nat.blt te bV&&Nat.ble (f+n) cs.length) (some (((cs.drop f).take n).map af.weak)) none
  |none=>none
 |.elt r i f=>match V.row r with
  |some row=>cond (Nat.ble (f+n) row.t.nc) (some (((dF row.t (row.xs.getD i.toNat row.t.dflt) (cond row.deep (some r) none)).drop f).take n)) none
  |none=>none
 |.selt t x p f=>cond (Nat.ble (f+n) t.nc) (some (((dF t x p).drop f).take n)) none
 |_=>none
def o5(V:St)(c:af)(agg:Bool)(n:Nat):Option SV :=
 match kC V c n with
 |some cs=>cond agg (some (.agg cs)) (match cs with|[x]=>some (.c x)|_=>none)
 |none=>none
def Ar(V:St)(b f:Nat)(vs:List af):Option St :=
 match V.box b with
 |some (te,cs)=>cond (Nat.blt te bV&&Nat.ble (f+vs.length) cs.length) (some { V with box:=am V.box b (some (te,cs.take f++vs++cs.drop (f+vs.length))) }) none
 |none=>none
def dm{α:Type}(c:List α)(f:Nat)(us:List α):List α:=c.take f++us++c.drop (f+us.length)
def jP(place:Nat->Option (Nat×Nat)):List af->List (Nat×List af)->Option (List af)
 |cs,[]=>some cs
 |cs,(i,vs)::ej=>match place i with
  |some (a7,sz)=>cond (Nat.beq vs.length sz&&Nat.ble (a7+vs.length) cs.length) (jP place (dm cs a7 vs) ej) none
  |none=>none
def nh(V:St):List (Nat×Operand)->Option (List (Nat×List af))
 |[]=>some []
 | (i,x)::ej=>match(ev V x).cells,nh V ej with
  |some cs,some ps=>some ((i,cs)::ps)
  |_,_=>none
def d6{α:Type}(m:Nat):Nat->List α->List (List α)
 |0,_=>[]
 |n+1,l=>l.take m::d6 m n (l.drop m)
def ni(look:Nat->Option ac)(t:Ty):List (List af)->Option (List t.den)
 |[]=>some []
 |c::cs=>match dk look t c,ni look t cs with
  |some y,some ys=>some (y::ys)
  |_,_=>none
def nj(t:Ty):List (List af)->Option (List t.den)
 |[]=>some []
 |c::cs=>match ge t c,nj t cs with
  |some y,some ys=>some (y::ys)
  |_,_=>none
def bq:Nat->List Nat->Bool
 |_,[]=>false
 |x,y::ys=>Nat.beq x y||bq x ys
def dq:List Nat->Bool
 |[]=>true
 |x::xs=>!(bq x xs)&&dq xs
def o6:∀{k k':IntKind},jO k k'=true->k=k':=by intro k k' h;cases k<;>cases k'<;>first|rfl|cases h
section
variable {P : Program} {V : St} {E : aM} {w : World} [DC]
def HS{op:BinOp}{k:IntKind}{a b:Int}{c:Bool}{z:af}(h:u7 op k a b=some (c,z))(hc:c=true)(t:TypeId) :
  ∃v,(binOp op t (.int k a) (.int k b)).run P w=.ok v w/\aj V E w z v:=by
 subst hc;cases op<;>simp only[u7,Option.some.injEq,Prod.mk.injEq,reduceCtorEq,Bool.not_eq_true',decide_eq_false_iff_not,true_and]at h;case quo=>obtain⟨hb,rfl⟩:=h;exact⟨_,by simp[binOp,Op.intDiv,hb],rfl⟩
 case rem=>obtain⟨hb,rfl⟩:=h;exact⟨_,by simp[binOp,Op.intDiv,hb],rfl⟩
 all_goals first
  | (subst h;refine⟨_,(by simp[binOp,Op.intArith,Op.intCmp,Op.intBits];rfl), ?_⟩;simp[aj,eD]<;>rfl)
  |skip
def HT{op:BinOp}{k k':IntKind}{a b:Int}{c:Bool}{z:af}(h:va op k a b=some (c,z))(hc:c=true)(t:TypeId) :
  ∃v,(binOp op t (.int k a) (.int k' b)).run P w=.ok v w/\aj V E w z v:=by
 subst hc;cases op<;>simp only[va,Option.some.injEq,Prod.mk.injEq,reduceCtorEq,decide_eq_true_eq]at h;all_goals
  obtain⟨hb,rfl⟩:=h;have hb':¬ b<0:=by omega
  exact⟨_,by simp[binOp,Op.shift,hb'],rfl⟩
def HU{op:BinOp}{a b:ByteArray}{c:Bool}{z:af}(h:u9 op a b=some (c,z))(hc:c=true)(t:TypeId) :
  ∃v,(binOp op t (.string a) (.string b)).run P w=.ok v w/\aj V E w z v:=by
 subst hc;cases op<;>simp only[u9,Option.some.injEq,Prod.mk.injEq,reduceCtorEq,true_and]at h;case add =>
  obtain⟨hb,rfl⟩:=h;have hb:a.size+b.size<4611686018427387904:=by simpa using hb
  have hb':¬ (((a.size+b.size:Nat):Int) > IntKind.i64.max):=by simp[IntKind.max,IntKind.bits,IntKind.signed];omega
  refine⟨_, ?_,rfl⟩;simp only[binOp,Op.stringOp];rw[if_neg hb'];rfl
 all_goals (subst h;exact⟨_,by simp[binOp,Op.stringOp];rfl,rfl⟩)
def HV{op:BinOp}{x y:af}{vx vy:Value}{c:Bool}{z:af}(h:oY op x y=some (c,z))(hc:c=true)(hx:aj V E w x vx)(hy:aj V E w y vy)(t:TypeId) :
  ∃v,(binOp op t vx vy).run P w=.ok v w/\aj V E w z v:=by
 unfold oY at h;split at h
 ·rename_i k a k' b;obtain rfl:vx=_:=hx;obtain rfl:vy=_:=hy;cases hs:Aq op
  ·rw[hs]at h;simp only[cond_false]at h;cases hk:jO k k';·rw[hk]at h;cases h
   ·rw[hk]at h;obtain rfl:=o6 hk;exact HS h hc t
  ·rw[hs]at h;exact HT h hc t
 ·obtain rfl:vx=_:=hx;obtain rfl:vy=_:=hy;exact HU h hc t
 ·cases h
def rN{op:BinOp}{t:TypeId}{x y:Operand}{a b:Value}(h1:∀u,a≠.agg u)(h2:a≠.nilIface):(eqGuard op t x y a b).run P w=.ok () w:=by
 cases a;case agg=>exact absurd rfl (h1 _)
 case nilIface=>exact absurd rfl h2
 all_goals (cases op<;>rfl)
def aj.plain{c:af}{v:Value}(hc:c≠.undef)(hE:∀b,c≠.err b)(h:aj V E w c v):(∀u,v≠.agg u)/\v≠.nilIface:=by
 cases c with
 |undef=>exact absurd rfl hc
 |err b=>exact absurd rfl (hE b)
 |sn e t xs p=>obtain⟨A,n,c,hv,_⟩:=h;injection hv with hv;subst hv;exact⟨λ_ h=>(by cases h),λh=>(by cases h)⟩
 |full e t xs p=>obtain⟨_,A,rfl⟩:=h;exact⟨λ_ h=>(by cases h),λh=>(by cases h)⟩
 |part r lo n=>obtain⟨row,A,c,_,_,_,_,rfl,_⟩:=h;exact⟨λ_ h=>(by cases h),λh=>(by cases h)⟩
 |box b f=>obtain⟨rfl,_⟩:=h;exact⟨λ_ h=>(by cases h),λh=>(by cases h)⟩
 |elt r i f=>obtain⟨row,g,n,c,_,_,_,_,_,rfl⟩:=h;exact⟨λ_ h=>(by cases h),λh=>(by cases h)⟩
 |selt t x p f=>obtain⟨ad,cs,rfl,_⟩:=h;exact⟨λ_ h=>(by cases h),λh=>(by cases h)⟩
 |fn f caps=>obtain⟨rfl,_⟩:=h;exact⟨λ_ h=>(by cases h),λh=>(by cases h)⟩
 |own r=>obtain⟨_,_,A,n,c,rfl⟩:=h;exact⟨λ_ h=>(by cases h),λh=>(by cases h)⟩
 |bor v0 e t xs=>obtain⟨_,A,n,c,hv,_⟩:=h;injection hv with hv;subst hv;exact⟨λ_ h=>(by cases h),λh=>(by cases h)⟩
 |mp b=>obtain⟨rfl,_⟩:=h;exact⟨λ_ h=>(by cases h),λh=>(by cases h)⟩
 |_=>obtain rfl:v=_:=h;exact⟨λ_ h=>(by cases h),λh=>(by cases h)⟩
def aj.noagg{c:af}{v:Value}(hc:c≠.undef)(h:aj V E w c v):∀u,v≠.agg u:=by
 by_cases hE:∃b,c=.err b;·obtain⟨b,rfl⟩:=hE;rcases h with⟨rfl,_⟩|⟨t,p,rfl,_⟩<;>exact λ_ h=>by cases h
 ·exact(aj.plain hc (λb e=>hE ⟨b,e⟩) h).1
def HW{op:UnOp}{x z:af}{vx:Value}(h:vb op x=some z)(hx:aj V E w x vx):∃v,(Op.unary op vx).run P w=.ok v w/\aj V E w z v:=by
 unfold vb at h;split at h;·obtain rfl:vx=_:=hx;injection h with h;subst h;exact⟨_,by simp[Op.unary],rfl⟩
 ·obtain rfl:vx=_:=hx;injection h with h;subst h;exact⟨_,by simp[Op.unary,Op.intArith],rfl⟩
 ·cases h
def fc{T:bc}(hT:aX P T){t:Nat}{i:TI}(hi:T t=some i):∃inf d z,P.info? t=some inf/\P.underlying t=some d/\inf.size=i.zero.length/\inf.bytes=i.bytes/\inf.zero=some z/\oV i.zero z.cells.toList=true/\(match z with|.agg _=>true|_=>false)=i.agg/\fM P i d=true:=by
 have h:=hT t i hi;unfold u4 at h;split at h
 ·rename_i inf d h1 h2;simp only[Bool.and_eq_true]at h;obtain⟨g1,g2,g3,g4⟩:=h;split at g3;·rename_i z hz;simp only[Bool.and_eq_true,beq_iff_eq]at g3;exact⟨inf,d,z,h1,h2,Nat.eq_of_beq_eq_true g1,Nat.eq_of_beq_eq_true g2,hz,g3.1,g3.2,g4⟩
  ·cases g3
 ·cases h
def gO{T:bc}(hT:aX P T){t e:Nat}{i:TI}(hi:T t=some i)(he:i.el=some e):P.underlying t=some (.slice e):=by obtain⟨inf,d,z,h1,h2,_,_,_,_,_,g⟩:=fc hT hi;cases d<;>simp only[fM,he,Bool.and_eq_true,Option.isNone_some,Bool.false_eq_true,false_and,and_false]at g;obtain⟨_,_,g⟩:=g;obtain rfl:=Nat.eq_of_beq_eq_true g;exact h2
def As{T:bc}(hT:aX P T){t:Nat}{i:TI}(hi:T t=some i)(w:World):(isAgg t).run P w=.ok i.agg w:=by obtain⟨inf,d,z,h1,h2,_,_,_,_,_,g⟩:=fc hT hi;unfold isAgg;rw[Sem.run_bind,run_underlying h2];cases d<;>simp only[fM,Bool.and_eq_true,Bool.not_eq_true',Bool.false_eq_true]at g<;>simp[g.1]
def lT{T:bc}(hT:aX P T){t:Nat}{i:TI}(hi:T t=some i)(w:World):(sizeOf t).run P w=.ok i.zero.length w:=by obtain⟨inf,d,z,h1,_,h2,_⟩:=fc hT hi;simp[sizeOf,typeInfo,h1,h2]
def ve{a7 n:Nat}{ag:Bool}:∀(l:List Field) (gs:List (Nat×Nat×Bool)) (f:Nat),lQ P l gs=true->gs[f]? = some (a7,n,ag) ->
  ∃fd,l[f]? = some fd/\fd.offset=a7/\0<n/\∀w,(sizeOf fd.type).run P w=.ok n w/\(isAgg fd.type).run P w=.ok ag w
 |[],[],_,_,hg=>by simp at hg
 |[],_::_,_,h,_=>by simp[lQ]at h
 |_::_,[],_,_,hg=>by simp at hg
 |x::l,g::gs,f,h,hg=>by
  simp only[lQ,Bool.and_eq_true]at h;cases f with
  |succ f=>exact ve l gs f h.2 (by simpa using hg)
  |zero =>
   simp only[List.getElem?_cons_zero,Option.some.injEq]at hg;subst hg;obtain⟨⟨k1,k2,k3⟩,_⟩:=h;split at k3;·rename_i i' d' e1 e2;simp only[Bool.and_eq_true,beq_iff_eq]at k3;have k31:i'.size=n:=Nat.eq_of_beq_eq_true k3.1;refine⟨x,rfl,Nat.eq_of_beq_eq_true k1,by simpa[Nat.blt_eq]using k2,λw=>⟨by simp[sizeOf,typeInfo,e1,k31], ?_⟩⟩;unfold isAgg;rw[Sem.run_bind,run_underlying e2];have:=k3.2;cases d'<;>simp_all [Ap]
   ·cases k3
def HX{T:bc}(hT:aX P T){t f a7 n:Nat}{ag:Bool}{i:TI}(hi:T t=some i)(hf:i.fields[f]? = some (a7,n,ag)) :
  ∃fs fd,P.underlying t=some (.struct fs)/\fs[f]? = some fd/\fd.offset=a7/\0<n/\∀w,(sizeOf fd.type).run P w=.ok n w/\(isAgg fd.type).run P w=.ok ag w:=by
 obtain⟨inf,d,z,h1,h2,_,_,_,_,_,g⟩:=fc hT hi;cases d with
 |struct fs =>simp only[fM,Bool.and_eq_true]at g;obtain⟨fd,k1,k2⟩:=ve fs.toList i.fields f g.2.2 hf;exact⟨fs,fd,h2,by simpa using k1,k2⟩
 |array _ _=>simp[fM]at g
 |_ =>
  simp only[fM,Bool.and_eq_true]at g;have:=g.2.1;cases hq:i.fields with
  |nil=>simp[hq]at hf
  |cons a b=>simp[hq]at this
def HY(v:Value):aK V E w (u6 v) v:=by
 unfold u6;split;·exact rfl
 ·exact rfl
 ·exact rfl
 ·exact rfl
 ·rename_i f first captured
  cases h:(Nat.beq first.size 0&&Nat.beq captured.size 0);·exact trivial
  ·simp only[Bool.and_eq_true]at h;have h1:first=#[]:=Array.eq_empty_of_size_eq_zero (Nat.eq_of_beq_eq_true h.1)
   have h2:captured=#[]:=Array.eq_empty_of_size_eq_zero (Nat.eq_of_beq_eq_true h.2);subst h1 h2;exact⟨rfl,λp hp=>by simp at hp⟩
 ·exact trivial
def a6{w0:World}{lab0:Nat->ay}{oo:Nat->Value}{n:Nat}{a:Act}(h:R w0 lab0 oo n V E a w)(x:Operand):aK V E w (ev V x) (a.eval x):=by
 cases x with
 |tmp t =>
  have hs:=h.slots t;simp only[ev];cases hb:Nat.blt t 100000;·trivial
  ·have:t<100000:=by simpa using hb
   unfold cP at hs;rw[if_pos this]at hs;exact hs
 |const v=>exact HY v
 |global g=>exact trivial
 |func f=>exact⟨rfl,λp hp=>by simp at hp⟩
def o7(ad:Addr)(i j:Nat):(ad.add i).add j=ad.add (i+j):=by unfold Addr.add;by_cases h1:i=0<;>by_cases h2:j=0<;>simp[h1,h2,Nat.add_assoc]
def rO(ad:Addr)(i:Nat):(ad.add i).block=ad.block:=by unfold Addr.add;split<;>rfl
def gP(g o i:Nat):(⟨g,o,none⟩:Addr).add i=⟨g,o+i,none⟩:=by unfold Addr.add;split<;>simp_all
def ai.flat{α β:Type}{R:List α->β->Prop}{n:Nat}(hn:∀c y,R c y->c.length=n):∀{css:List (List α)}{xs:List β},ai R css xs ->
  ∀{j:Nat}{y:β},xs[j]? = some y->∃c,css[j]? = some c/\R c y/\∀i u,c[i]? = some u->css.flatten[j*n+i]? = some u
 |[],[],_,j,y,h=>by simp at h
 |c::css,x::xs,h,0,y,hy=>by simp at hy;subst hy;refine⟨c,rfl,h.1,λi u hu=>?_⟩;have hlt:=(List.getElem?_eq_some_iff.1 hu).1;rw[Nat.zero_mul,Nat.zero_add,List.flatten_cons,List.getElem?_append_left hlt];exact hu
 |c::css,x::xs,h,j+1,y,hy=>by obtain⟨c',h1,h2,h3⟩:=ai.flat hn h.2 (j:=j) (y:=y) (by simpa using hy);refine⟨c',by simpa using h1,h2,λi u hu=>?_⟩;have hc:=hn _ _ h.1;rw[List.flatten_cons,List.getElem?_append_right (by rw[hc,Nat.succ_mul];omega)];rw[<-h3 i u hu];congr 1;rw[hc,Nat.succ_mul];omega
def Rd.at_{S:Nat->Prop}{e:Nat}{t:Ty}{A:Option Addr}{m c:Nat}{xs:List t.den}(h:Rd w S (.sl e t) [.slice A m c] xs){i:Nat}(hi:i<xs.length) :
  ∃ad cs,A=some ad/\S ad.block/\Rd w S t cs (xs.getD i t.dflt)/\∀(j:Nat) (u:Value),cs[j]? = some u->w.cell? ((ad.add (i*t.nc)).add j)=some u:=by
 obtain⟨A',n,c',e1,h1,h2,h3,h4⟩:=h;injection e1 with e1;injection e1 with a1 a2 a3;subst a1 a2 a3;rcases h4 with h4|⟨ad,css,e2,h5,h6,h7⟩;·omega
 ·have hx:xs[i]? = some (xs.getD i t.dflt):=by rw[List.getD_eq_getElem?_getD,List.getElem?_eq_getElem hi];rfl
  obtain⟨cs,k1,k2,k3⟩:=ai.flat (λc y h=>h.len) h6 hx;refine⟨ad,cs,e2,h5,k2,λj u hu=>?_⟩;rw[o7];exact h7 _ _ (k3 j u hu)
structure bL[DC](w w':World):Prop where
 os:w'.os=w.os
 tape:Tp w w'
 output:w'.output=w.output
 size:w.heap.size<=w'.heap.size
 old:∀k,k<w.heap.size->w'.heap[k]? = w.heap[k]?
def bL.refl[DC](w:World):bL w w:=⟨rfl,⟨rfl,λ_=>Nat.le_refl _⟩,rfl,Nat.le_refl _,λ_ _=>rfl⟩
def bL.trans[DC]{w w' w'':World}(h:bL w w')(h':bL w' w''):bL w w'' :=
 ⟨h'.os.trans h.os,h'.tape.trans h.tape,h'.output.trans h.output,Nat.le_trans h.size h'.size,λk hk=>(h'.old k (Nat.lt_of_lt_of_le hk h.size)).trans (h.old k hk)⟩
def bL.cell[DC]{w w':World}(h:bL w w'){ad:Addr}{u:Value}(hc:w.cell? ad=some u):w'.cell? ad=some u:=by rw[World.cell?_of_block (w:=w) (h.old _ (World.block_lt_of_cell? w ad hc))];exact hc
def HZ{T:bc}(hT:aX P T){w0:World}{lab0:Nat->ay}{oo:Nat->Value}{n:Nat}{a:Act}(h:R w0 lab0 oo n V E a w){t e:Nat}{ti ei:TI}(ht:T t=some ti)(he:ti.el=some e)(hei:T e=some ei)
  {x i z:af}{vx vi:Value}{c:Bool} (hr:oZ V e ei.zero.length x i=some (c,z)) (hc:c=true) (hx:aj V E w x vx) (hi:aj V E w i vi) :
  ∃v,(∀w',(Instr.indexAt t vx vi).run P w'=.ok v w')/\aj V E w z v:=by
 subst hc;have hu:=gO hT ht he;have hs:=lT hT hei;have key:∀(ad:Addr) (m d:Nat) (k:IntKind) (q:Int),0<=q->q<m->∀w',(Instr.indexAt t (.slice (some ad) m d) (.int k q)).run P w'=.ok (.pointer (some (ad.add (q.toNat*ei.zero.length)))) w':=by intro ad m d k q h1 h2 w';simp[Instr.indexAt,run_underlying hu,asIntOf,h1,h2,hs]
 have snap:∀(e':Nat) (ty:Ty) (xs:List ty.den) (p:Option Nat) (k:IntKind) (q:Int),Rd w (λk=>E.lab k=bh p) (.sl e' ty) [vx] xs->Nat.beq ty.nc ei.zero.length=true->0<=q->q<xs.length ->
   ∃v,(∀w',(Instr.indexAt t vx (.int k q)).run P w'=.ok v w')/\aj V E w (.selt ty (xs.getD q.toNat ty.dflt) p 0) v:=by
  intro e' ty xs p k q hrd hb h1 h2;obtain⟨A,m,d,hv,_⟩:=id hrd;injection hv with hv;subst hv;obtain⟨ad,cs,rfl,g1,g2,g3⟩:=Rd.at_ hrd (i:=q.toNat) (by omega);obtain⟨A',m',d',e1,e2,_⟩:=hrd;injection e1 with e1;injection e1 with a1 a2 a3;have hnc:=Nat.eq_of_beq_eq_true hb;refine⟨_,key ad m d k q h1 (by omega),ad.add (q.toNat*ty.nc),cs, ?_,ty.nc_pos,by rw[rO];exact g1,g2,g3⟩;rw[<-hnc];simp[Addr.add]
 unfold oZ at hr;split at hr
 ·rename_i e' ty xs p k q;obtain rfl:vi=_:=hi;cases hb:Nat.beq ty.nc ei.zero.length;·rw[hb]at hr;cases hr
  ·rw[hb]at hr;simp only[cond_true,Option.some.injEq,Prod.mk.injEq,Bool.and_eq_true,decide_eq_true_eq]at hr;obtain⟨⟨h1,h2⟩,rfl⟩:=hr;exact snap e' ty xs p k q hx hb h1 h2
 ·rename_i e' ty xs p k q;obtain rfl:vi=_:=hi;cases hb:Nat.beq ty.nc ei.zero.length;·rw[hb]at hr;cases hr
  ·rw[hb]at hr;simp only[cond_true,Option.some.injEq,Prod.mk.injEq,Bool.and_eq_true,decide_eq_true_eq]at hr;obtain⟨⟨h1,h2⟩,rfl⟩:=hr;exact snap e' ty xs p k q hx.1 hb h1 h2
 ·rename_i r k q;obtain rfl:vi=_:=hi;split at hr
  ·rename_i row hrow;cases hb:Nat.beq row.t.nc ei.zero.length;·rw[hb]at hr;cases hr
   ·rw[hb]at hr;simp only[cond_true,Option.some.injEq,Prod.mk.injEq,Bool.and_eq_true,decide_eq_true_eq]at hr;obtain⟨⟨h1,h2⟩,rfl⟩:=hr;obtain⟨rfl,_,_⟩:=hx;have hnc:=Nat.eq_of_beq_eq_true hb;obtain⟨css,ho,_⟩:=h.rows r row hrow;rcases ho.2 with⟨_,h0⟩|⟨g,cap,cur,ev,_⟩;·omega
    ·rw[ev];refine⟨_,key _ _ _ _ _ h1 h2,row,g,_,_,hrow,ev,h1,h2,row.t.nc_pos, ?_⟩;rw[gP,hnc];simp
  ·cases hr
 ·rename_i r lo m k q;obtain rfl:vi=_:=hi;split at hr
  ·rename_i row hrow;cases hb:Nat.beq row.t.nc ei.zero.length;·rw[hb]at hr;cases hr
   ·rw[hb]at hr;simp only[cond_true,Option.some.injEq,Prod.mk.injEq,Bool.and_eq_true,decide_eq_true_eq]at hr;obtain⟨⟨h1,h2⟩,rfl⟩:=hr;have hnc:=Nat.eq_of_beq_eq_true hb;obtain⟨row',A,d,e1,e2,e3,e4,rfl,e6,e7,e8⟩:=hx;rw[hrow]at e1;injection e1 with e1;subst e1;obtain⟨g,m',d',e9,rfl⟩:=e8 (by omega);refine⟨_,key _ _ _ _ _ h1 (by omega),row,g,_,_,hrow,e9,by omega,by omega,row.t.nc_pos, ?_⟩;rw[gP,<-hnc,Int.toNat_add e2 h1,Nat.add_mul];simp
  ·cases hr
 ·cases hr
def vf{T:bc}(hT:aX P T){w0:World}{lab0:Nat->ay}{oo:Nat->Value}{n:Nat}{a:Act}(h:R w0 lab0 oo n V E a w){t e:Nat}{ti ei:TI}(ht:T t=some ti)(he:ti.el=some e)(hei:T e=some ei)
  {x i z:af}{vx vi:Value}{c:Bool} (hr:vc V e ei.zero.length x i=some (c,z)) (hc:c=true) (hx:aj V E w x vx) (hi:aj V E w i vi) :
  ∃v,(∀w',(Instr.indexAt t vx vi).run P w'=.ok v w')/\aj V E w z v:=HZ hT h ht he hei (show oZ V e ei.zero.length x.weak i=some (c,z)from hr) hc hx.weak hi
def vg{T:bc}(hT:aX P T){s f a7 n:Nat}{ag:Bool}{ti:TI}(hs:T s=some ti)(hf:ti.fields[f]? = some (a7,n,ag))
  {x z:af}{vx:Value} (hr:vd V x a7=some z) (hx:aj V E w x vx):∃v,(∀w',(Instr.fieldAt s vx f).run P w'=.ok v w')/\aj V E w z v:=by
 obtain⟨fs,fd,h1,h2,h3,h4,h5⟩:=HX hT hs hf;have key:∀ad:Addr,∀w',(Instr.fieldAt s (.pointer (some ad)) f).run P w'=.ok (.pointer (some (ad.add a7))) w':=by
  intro ad w';have:¬ (n=0):=by omega
  simp[Instr.fieldAt,run_underlying h1,h2,Instr.sureAddr,fieldPlace,(h5 w').1,this,h3]
 unfold vd at hr;split at hr
 ·rename_i b g;split at hr
  ·rename_i te cs hb;cases hq:Nat.blt (g+a7) cs.length;·rw[hq]at hr;cases hr
   ·rw[hq]at hr;simp only[cond_true,Option.some.injEq]at hr;subst hr;obtain⟨rfl,_⟩:=hx;exact⟨_,key _,by rw[gP],te,cs,hb,(by simpa using hq)⟩
  ·cases hr
 ·rename_i r i g;split at hr
  ·rename_i row hrow;cases hq:Nat.blt (g+a7) row.t.nc;·rw[hq]at hr;cases hr
   ·rw[hq]at hr;simp only[cond_true,Option.some.injEq]at hr;subst hr;obtain⟨row',g',m,d,e1,e2,e3,e4,e5,rfl⟩:=hx;rw[hrow]at e1;injection e1 with e1;subst e1;refine⟨_,key _,row,g',m,d,hrow,e2,e3,e4,(by simpa using hq), ?_⟩;rw[gP,Nat.add_assoc]
  ·cases hr
 ·rename_i t x p g;cases hq:Nat.blt (g+a7) t.nc;·rw[hq]at hr;cases hr
  ·rw[hq]at hr;simp only[cond_true,Option.some.injEq]at hr;subst hr;obtain⟨ad,cs,rfl,e1,e2⟩:=hx;exact⟨_,key _,ad,cs,by rw[o7],(by simpa using hq),e2⟩
 ·cases hr
def ai.drop_take{α β:Type}{Q:α->β->Prop}{as:List α}{bs:List β}(h:ai Q as bs)(f n:Nat):ai Q ((as.drop f).take n) ((bs.drop f).take n):=(h.drop f).take n
def lU:∀{t:Ty}{cs:List Value}{x:t.den}{p:Option Nat},Rd w (λk=>E.lab k=bh p) t cs x->ai (aj V E w) (dF t x p) cs
 |.int _,_,_,_,h=>by obtain rfl:=h;exact⟨rfl,trivial⟩
 |.bool,_,_,_,h=>by obtain rfl:=h;exact⟨rfl,trivial⟩
 |.fnc _,_,_,_,h=>by obtain rfl:=h;exact⟨⟨rfl,λp hp=>by cases hp⟩,trivial⟩
 |.str,_,_,_,h=>by obtain rfl:=h;exact⟨rfl,trivial⟩
 |.err,_,_,_,h=>by obtain⟨v,rfl,h2⟩:=h;exact⟨h2,trivial⟩
 |.sl _ _,_,_,_,h=>by obtain⟨A,n,c,rfl,h'⟩:=id h;exact⟨h,trivial⟩
 |.pair a b,_,_,_,h=>by obtain⟨c1,c2,rfl,h1,h2⟩:=h;exact(lU h1).app (lU h2)
def H0(ad:Addr)(cs:List Value)(f n:Nat)(hn:f+n<=cs.length)(h:∀(j:Nat) (u:Value),cs[j]? = some u->w.cell? (ad.add j)=some u) :
  (loadCells (ad.add f) n).run P w=.ok ((cs.drop f).take n).toArray w:=by
 have hl:((cs.drop f).take n).length=n:=by rw[List.length_take,List.length_drop];omega
 have:=run_loadCells_list (P:=P) w (ad.add f) ((cs.drop f).take n) (λj v hv=>by
  rw[o7];refine h _ _ ?_;rw[List.getElem?_take]at hv;split at hv;·rwa [List.getElem?_drop]at hv
  ·cases hv)
 rwa [hl]at this
def vh{w0:World}{lab0:Nat->ay}{oo:Nat->Value}{n:Nat}{a:Act}(h:R w0 lab0 oo n V E a w){x:af}{m:Nat}{cs:List af}{vx:Value}(hr:kC V x m=some cs)(hx:aj V E w x vx) :
  ∃(ad:Addr) (vs:List Value) (f:Nat),vx=.pointer (some (ad.add f))/\f+m<=vs.length/\(∀(j:Nat) (u:Value),vs[j]? = some u->w.cell? (ad.add j)=some u)/\ai (aj V E w) cs ((vs.drop f).take m):=by
 cases x with
 |box b f =>
  simp only[kC]at hr;split at hr
  ·rename_i te bs hb;cases hq:(Nat.blt te bV&&Nat.ble (f+m) bs.length);·rw[hq]at hr;cases hr
   ·rw[hq]at hr;simp only[cond_true,Option.some.injEq]at hr;subst hr;simp only[Bool.and_eq_true]at hq;obtain⟨rfl,_⟩:=hx;obtain⟨arr,h1,h2,h3,h4⟩:=h.boxes b te bs hb;have h1:=h1.cells (by simpa using hq.1);refine⟨⟨E.bb b,0,none⟩,arr.toList,f,by rw[gP];simp,by rw[<-h3.len];exact Nat.le_of_ble_eq_true hq.2,λj u hu=>?_,(h3.drop_take f m).weak⟩;rw[gP];simp only[World.cell?,h1,Nat.zero_add];simpa using hu
  ·cases hr
 |elt r i f =>
  simp only[kC]at hr;split at hr
  ·rename_i row hrow;cases hq:Nat.ble (f+m) row.t.nc;·rw[hq]at hr;cases hr
   ·rw[hq]at hr;simp only[cond_true,Option.some.injEq]at hr;subst hr;obtain⟨row',g,m',d,e1,e2,e3,e4,e5,rfl⟩:=hx;rw[hrow]at e1;injection e1 with e1;subst e1;obtain⟨css,ho,hl,hd,_⟩:=h.rows r row hrow;have hlt:i.toNat<row.xs.length:=by omega
    have hxi:row.xs[i.toNat]? = some (row.xs.getD i.toNat row.t.dflt):=by rw[List.getD_eq_getElem?_getD,List.getElem?_eq_getElem hlt];rfl
    have hrd:ai (λc y=>Rd w (λk=>E.lab k=bh (cond row.deep (some r) none)) row.t c y) css row.xs:=by
     cases hdp:row.deep;·rw[hdp]at hd;exact hd
     ·rw[hdp]at hd;obtain⟨Ls,k1,k2,k3⟩:=hd;exact aP.two (R:=λc y=>Rd w (λk=>E.lab k=bh (some r)) row.t c y) (λ_ _ _ h=>h) (k1.imp_mem (Q':=λ_ c y=>Rd w (λk=>E.lab k=bh (some r)) row.t c y) λl c y hl' ho'=>ho'.rd λk hk=>k3 k (List.mem_flatten.2 ⟨l,hl',hk⟩))
    obtain⟨c,k1,k2,k3⟩:=ai.flat (λc y h=>h.len) hrd hxi;refine⟨⟨g,i.toNat*row.t.nc,none⟩,c,f,by rw[gP],by rw[k2.len];exact Nat.le_of_ble_eq_true hq,λj u hu=>?_,(lU k2).drop_take f m⟩;have:=ho.cells (g:=g) (by rw[e2];rfl) _ _ (k3 j u hu);rw[gP]at this ⊢;simpa[Nat.add_assoc]using this
  ·cases hr
 |selt t x p f =>
  simp only[kC]at hr;cases hq:Nat.ble (f+m) t.nc;·rw[hq]at hr;cases hr
  ·rw[hq]at hr;simp only[cond_true,Option.some.injEq]at hr;subst hr;obtain⟨ad,vs,rfl,e1,e2,e3,e4⟩:=hx;exact⟨ad,vs,f,rfl,by rw[e3.len];exact Nat.le_of_ble_eq_true hq,e4,(lU e3).drop_take f m⟩
 |_=>cases hr
def vj{T:bc}(hT:aX P T){w0:World}{lab0:Nat->ay}{oo:Nat->Value}{n:Nat}{a:Act}(h:R w0 lab0 oo n V E a w){t:Nat}{ti:TI}(ht:T t=some ti){x:af}{z:SV}{vx:Value}
  (hr:o5 V x ti.agg ti.zero.length=some z) (hx:aj V E w x vx):∃v,(∀w',bL w w'->(Instr.loadAt t vx).run P w'=.ok v w')/\aK V E w z v:=by
 unfold o5 at hr;split at hr
 ·rename_i cs hl;obtain⟨ad,vs,f,rfl,hf,hc,hrel⟩:=vh h hl hx;have hagg:=As hT ht;have hsz:=lT hT ht;cases ha:ti.agg
  ·rw[ha]at hr hagg;simp only[cond_false]at hr;split at hr
   ·rename_i y;injection hr with hr;subst hr;have hlen:=hrel.len;have h1:(vs.drop f).take ti.zero.length=[((vs.drop f).take ti.zero.length).getD 0 undef]:=by
     cases hq:(vs.drop f).take ti.zero.length with
     |nil=>rw[hq]at hlen;simp at hlen
     |cons u us =>
      rw[hq]at hlen;cases us with
      |nil=>rfl
      |cons _ _=>simp at hlen
    have h2:ti.zero.length=1:=by have:=congrArg List.length h1;simp only[List.length_take,List.length_drop,List.length_cons,List.length_nil]at this;omega
    have h3:vs[f]? = some (((vs.drop f).take ti.zero.length).getD 0 undef):=by
     have:((vs.drop f).take ti.zero.length)[0]? = some (((vs.drop f).take ti.zero.length).getD 0 undef):=by
      conv=>lhs;rw[h1]
      rfl
     rw[<-this,List.getElem?_take,if_pos (by omega),List.getElem?_drop,Nat.add_zero]
    rw[h1]at hrel;refine⟨_,λw' hw=>?_,hrel.1⟩;have:=hw.cell (hc f _ h3);simp[Instr.loadAt,Instr.sureAddr,loadVar,hagg,this]
   ·cases hr
  ·rw[ha]at hr hagg;simp only[cond_true,Option.some.injEq]at hr;subst hr;refine⟨_,λw' hw=>?_,((vs.drop f).take ti.zero.length).toArray,rfl,by simpa using hrel⟩;simp[Instr.loadAt,Instr.sureAddr,loadVar,hagg,hsz,H0 (w:=w') ad vs f _ hf λj u hu=>hw.cell (hc j u hu)]
 ·cases hr
end
def Rd.lt{w:World}{S:Nat->Prop}:∀{t:Ty}{cs:List Value}{x:t.den},Rd w S t cs x->Rd w (λk=>S k/\k<w.heap.size) t cs x
 |.int _,_,_,h=>h
 |.bool,_,_,h=>h
 |.fnc _,_,_,h=>h
 |.str,_,_,h=>h
 |.err,_,_,h=>h
 |.pair a b,_,_,h=>by obtain⟨c1,c2,e,h1,h2⟩:=h;exact⟨c1,c2,e,h1.lt,h2.lt⟩
 |.sl _ t,_,x,h=>by
  obtain⟨A,n,c,e,h1,h2,h3,h4⟩:=h;refine⟨A,n,c,e,h1,h2,h3, ?_⟩;rcases h4 with h4|⟨ad,css,e1,h5,h6,h7⟩;·exact .inl h4
  ·by_cases hn:n=0;·exact .inl hn
   ·have hx0:0<List.length x:=by omega
    obtain⟨cs,k1,k2,k3⟩:=ai.flat (λc y h=>h.len) h6 (j:=0) (y:=List.getD x 0 t.dflt) (by rw[List.getD_eq_getElem?_getD,List.getElem?_eq_getElem hx0];rfl);have h0:0<cs.length:=by rw[k2.len];exact t.nc_pos
    have hb:=World.block_lt_of_cell? w _ (h7 _ _ (k3 0 cs[0] (by simp)));rw[rO]at hb;exact .inr ⟨ad,css,e1,⟨h5,hb⟩,h6.imp λ_ _ h=>h.lt,h7⟩
section
variable {P : Program} {V V' : St} {E E' : aM} {w w' : World} {w0 : World} {lab0 : Nat → ay} {oo : Nat → Value} {n : Nat} {a : Act} [DC]
def cq.grow(hb:∀k,k<w.heap.size->w'.heap[k]? = w.heap[k]?/\E'.lab k=E.lab k)
  (hrow:∀r row,V.row r=some row->∃row',V'.row r=some row'/\E'.rv r=E.rv r/\row'.t.nc=row.t.nc/\row.xs.length<=row'.xs.length)
  (hbox:∀b te cs,V.box b=some (te,cs)->∃te' cs',V'.box b=some (te',cs')/\E'.bb b=E.bb b/\cs'.length=cs.length):cq V E w V' E' w':=by
 refine⟨hrow,hbox,λp ad u hl hc=>?_,λp t cs x h=>?_⟩;·have hlt:=World.block_lt_of_cell? w ad hc;exact⟨by rw[(hb _ hlt).2];exact hl,by rw[World.cell?_of_block (w:=w) (hb _ hlt).1];exact hc⟩
 ·exact((h.lt.frame λk hk _=>(hb k hk.2).1)).mono λk hk=>by rw[(hb k hk.2).2];exact hk.1
def bP.grow{lab lab':Nat->ay}{r:Nat}{row:ac}{v:Value}(hb:∀k,k<w.heap.size->w'.heap[k]? = w.heap[k]?/\lab' k=lab k)(h:bP w lab r row v):bP w' lab' r row v:=by
 obtain⟨css,h1,h2,h3,h4⟩:=h;have hlt:∀k,v.ownBlock=some k->k<w.heap.size:=λk hk=>(h1.lt k hk).2;refine⟨css,lO (λk hk=>(hb k (hlt k hk)).1) h1,λk hk=>by rw[(hb k (hlt k hk)).2];exact h2 k hk, ?_,h4⟩;cases hd:row.deep;·rw[hd]at h3;exact ai.imp (λc y h=>((h.lt.frame λk hk _=>(hb k hk.2).1)).mono λk hk=>by rw[(hb k hk.2).2];exact hk.1) h3
 ·rw[hd]at h3;obtain⟨Ls,k1,k2,k3⟩:=h3;have hL:∀k∈Ls.flatten,k<w.heap.size:=λk hk=>by obtain⟨l,hl,hk⟩:=List.mem_flatten.1 hk;have:aP (λ(l:List Nat) (_:List Value) (_:row.t.den)=>∀k∈l,k<w.heap.size) Ls css row.xs:=k1.imp λ_ _ _ ho=>ho.lt;exact jM this l hl k hk
  exact⟨Ls,k1.imp_mem λl c y hl ho=>ho.frame λk hk=>(hb k (hL k (List.mem_flatten.2 ⟨l,hl,hk⟩))).1,k2,λk hk=>by rw[(hb k (hL k hk)).2];exact k3 k hk⟩
def lP.grow{lab lab':Nat->ay}(hb:∀k,k<w.heap.size->w'.heap[k]? = w.heap[k]?/\lab' k=lab k)(ho:w'.os=w.os/\Tp w w'/\w'.output=w.output)(hs:w.heap.size<=w'.heap.size)(h:lP w0 lab0 lab w):lP w0 lab0 lab' w':=by
 refine⟨ho.1.trans h.os,ho.2.1.trans h.tape,ho.2.2.trans h.output,Nat.le_trans h.size hs,λk hk hl=>?_,λk hk hl=>?_⟩;·have:=h.old k hk hl;have hk':=hb k (Nat.lt_of_lt_of_le hk h.size);exact⟨by rw[hk'.2];exact this.1,by rw[hk'.1];exact this.2⟩
 ·have:=h.gone k hk hl;have hk':=hb k (Nat.lt_of_lt_of_le hk h.size);exact⟨by rw[hk'.2];exact this.1,by rw[hk'.1];exact this.2⟩
def R.grow(h:R w0 lab0 oo n V E a w)(hb:∀k,k<w.heap.size->w'.heap[k]? = w.heap[k]?/\E'.lab k=E.lab k)(ho:w'.os=w.os/\Tp w w'/\w'.output=w.output)(hs:w.heap.size<=w'.heap.size)
  (hslot:V'.slot=V.slot)
  (hrow:∀r row,V'.row r=some row->(V.row r=some row/\E'.rv r=E.rv r)\/(V.row r=none/\bP w' E'.lab r row (E'.rv r)))
  (hrow':∀r row,V.row r=some row->V'.row r=some row)
  (hbox:∀b te cs,V'.box b=some (te,cs)->(V.box b=some (te,cs)/\E'.bb b=E.bb b)\/(V.box b=none/\ji V' E' w' b te cs))
  (hbox':∀b x,V.box b=some x->V'.box b=some x):R w0 lab0 oo n V' E' a w':=by
 have m:cq V E w V' E' w':=cq.grow hb
  (λr row hr=>⟨row,hrow' r row hr,(by
   rcases hrow r row (hrow' r row hr)with h|h;·exact h.2
   ·rw[h.1]at hr;cases hr),rfl,Nat.le_refl _⟩)
  (λb te cs hr=>⟨te,cs,hbox' b _ hr,(by
   rcases hbox b te cs (hbox' b _ hr)with h|h;·exact h.2
   ·rw[h.1]at hr;cases hr),rfl⟩)
 refine⟨h.bound,h.size,h.defers,λt=>by rw[hslot];exact(h.slots t).move m,λb te cs hq=>?_,λr row hq=>?_,h.same.grow hb ho hs⟩
 ·rcases hbox b te cs hq with⟨h1,h2⟩|⟨_,h2⟩;·obtain⟨arr,k1,k2,k3,k4⟩:=h.boxes b te cs h1;have hlt:=k1.lt;exact⟨arr,by rw[h2,(hb _ hlt).1];exact k1,by rw[h2,(hb _ hlt).2];exact k2,k3.imp λ_ _ h=>h.move m,k4⟩
  ·exact h2
 ·rcases hrow r row hq with⟨h1,h2⟩|⟨_,h2⟩;·rw[h2];exact(h.rows r row h1).grow hb
  ·exact h2
def lV(o:Obj):∀k,k<w.heap.size->(w.alloc o).heap[k]? = w.heap[k]?:=λk hk=>Below.heap_alloc w o k hk
def R.newBox(h:R w0 lab0 oo n V E a w){d te:Nat}{cs:List af}{arr:Array Value}(hte:te<bV)(hd:d<n)(hfree:V.box d=none)(hc:ai (aj V E w) cs arr.toList)(h1:∀u∈arr.toList,u.oneCell'=true)(hne:0<cs.length) :
  ∃E',R w0 lab0 oo n { slot:=am V.slot d (.c (.box d 0)),box:=am V.box d (some (te,cs)),row:=V.row } E' (a.put (some d) (.pointer (some ⟨w.heap.size,0,none⟩))) (w.alloc (.cells arr te)):=by
 let E':aM:={ lab:=am E.lab w.heap.size (.box d),rv:=E.rv,bb:=am E.bb d w.heap.size };let σ1:St:={ slot:=V.slot,box:=am V.box d (some (te,cs)),row:=V.row };have hb:∀k,k<w.heap.size->(w.alloc (.cells arr te)).heap[k]? = w.heap[k]?/\E'.lab k=E.lab k:=λk hk=>⟨lV _ k hk,ba _ _ (Nat.ne_of_lt hk)⟩;have m:cq V E w σ1 E' (w.alloc (.cells arr te)):=cq.grow hb (λr row hr=>⟨row,hr,rfl,rfl,Nat.le_refl _⟩)
  (λb te' cs' hq=>by
   have hne:b≠d:=λe=>by rw[e,hfree]at hq;cases hq
   exact⟨te',cs',(ba _ _ hne).trans hq,ba _ _ hne,rfl⟩)
 have g:R w0 lab0 oo n σ1 E' a (w.alloc (.cells arr te)):=by
  refine h.grow (E':=E') hb ⟨rfl,⟨rfl,λ_=>Nat.le_refl _⟩,rfl⟩ (by simp) rfl (λr row hr=>.inl ⟨hr,rfl⟩) (λ_ _ h=>h) (λb te' cs' hq=>?_) (λb x hq=>?_)
  ·by_cases e:b=d
   ·subst e;rw[show σ1.box b=some (te,cs)from aU _ _ _]at hq;injection hq with hq;injection hq with e1 e2;subst e1 e2;refine .inr ⟨hfree,arr, ?_, ?_,hc.imp λ_ _ h=>h.move m,h1⟩;·show jh te arr (w.alloc (.cells arr te)).heap[am E.bb b w.heap.size b]?;rw[aU];exact .inl ⟨hte,heap_alloc_new w _⟩
    ·show am E.lab w.heap.size (.box b) (am E.bb b w.heap.size b)=_;rw[aU,aU]
   ·exact .inl ⟨(ba _ _ e).symm.trans hq,ba _ _ e⟩
  ·have hne:b≠d:=λe=>by rw[e,hfree]at hq;cases hq
   exact(ba _ _ hne).trans hq
 refine⟨E',g.put hd (s:=.c (.box d 0)) ⟨?_,te,cs,aU _ _ _,hne⟩⟩;show _=Value.pointer (some ⟨am E.bb d w.heap.size d,0,none⟩);rw[aU]
def R.newMap(h:R w0 lab0 oo n V E a w){d te:Nat}{t:Ty}(hte:bV<=te)(hd:d<n)(hfree:V.box d=none) :
  ∃E',R w0 lab0 oo n { slot:=am V.slot d (.c (.mp d)),box:=am V.box d (some (te,[.mset t []])),row:=V.row } E' (a.put (some d) (.map (some w.heap.size))) (w.alloc (.map #[] 0)):=by
 let E':aM:={ lab:=am E.lab w.heap.size (.box d),rv:=E.rv,bb:=am E.bb d w.heap.size };let σ1:St:={ slot:=V.slot,box:=am V.box d (some (te,[.mset t []])),row:=V.row };have hb:∀k,k<w.heap.size->(w.alloc (.map #[] 0)).heap[k]? = w.heap[k]?/\E'.lab k=E.lab k:=λk hk=>⟨lV _ k hk,ba _ _ (Nat.ne_of_lt hk)⟩;have g:R w0 lab0 oo n σ1 E' a (w.alloc (.map #[] 0)):=by
  refine h.grow (E':=E') hb ⟨rfl,⟨rfl,λ_=>Nat.le_refl _⟩,rfl⟩ (by simp) rfl (λr row hr=>.inl ⟨hr,rfl⟩) (λ_ _ h=>h) (λb te' cs' hq=>?_) (λb x hq=>?_)
  ·by_cases e:b=d
   ·subst e;rw[show σ1.box b=some (te,[.mset t []])from aU _ _ _]at hq;injection hq with hq;injection hq with e1 e2;subst e1 e2;refine .inr ⟨hfree,#[gd []], ?_, ?_,⟨rfl,trivial⟩,λu hu=>?_⟩;·show jh te #[gd []] (w.alloc (.map #[] 0)).heap[am E.bb b w.heap.size b]?;rw[aU];exact .inr ⟨hte,#[],0,heap_alloc_new w _,rfl,λe he=>by simp at he⟩
    ·show am E.lab w.heap.size (.box b) (am E.bb b w.heap.size b)=_;rw[aU,aU]
    ·simp at hu;subst hu;rfl
   ·exact .inl ⟨(ba _ _ e).symm.trans hq,ba _ _ e⟩
  ·have hne:b≠d:=λe=>by rw[e,hfree]at hq;cases hq
   exact(ba _ _ hne).trans hq
 refine⟨E',g.put hd (s:=.c (.mp d)) ⟨?_,te,_,aU _ _ _⟩⟩;show _=Value.map (some (am E.bb d w.heap.size d));rw[aU]
def R.newRow(h:R w0 lab0 oo n V E a w){d r:Nat}{row:ac}{arr:Array Value}{v:Value}(hd:d<n)(hfree:V.row r=none)
  (hr:∀lab',(∀k,k<w.heap.size->lab' k=E.lab k)->lab' w.heap.size=.row r->bP (w.alloc (.cells arr row.e)) lab' r row v) (hv:∃A m c,v=.slice A m c) :
  ∃E',R w0 lab0 oo n { slot:=am V.slot d (.c (.own r)),box:=V.box,row:=am V.row r (some row) } E' (a.put (some d) v) (w.alloc (.cells arr row.e)):=by
 let E':aM:={ lab:=am E.lab w.heap.size (.row r),rv:=am E.rv r v,bb:=E.bb };let σ1:St:={ slot:=V.slot,box:=V.box,row:=am V.row r (some row) };have hb:∀k,k<w.heap.size->(w.alloc (.cells arr row.e)).heap[k]? = w.heap[k]?/\E'.lab k=E.lab k:=λk hk=>⟨lV _ k hk,ba _ _ (Nat.ne_of_lt hk)⟩;have g:R w0 lab0 oo n σ1 E' a (w.alloc (.cells arr row.e)):=by
  refine h.grow (E':=E') hb ⟨rfl,⟨rfl,λ_=>Nat.le_refl _⟩,rfl⟩ (by simp) rfl (λq row' hq=>?_) (λq row' hq=>?_) (λb te' cs' hq=>.inl ⟨hq,rfl⟩) (λ_ _ h=>h)
  ·by_cases e:q=r;·subst e;rw[show σ1.row q=some row from aU _ _ _]at hq;injection hq with hq;subst hq;refine .inr ⟨hfree, ?_⟩;show bP _ _ _ _ (am E.rv q v q);rw[aU];exact hr _ (λk hk=>(hb k hk).2) (aU _ _ _)
   ·exact .inl ⟨(ba _ _ e).symm.trans hq,ba _ _ e⟩
  ·have hne:q≠r:=λe=>by rw[e,hfree]at hq;cases hq
   exact(ba _ _ hne).trans hq
 refine⟨E',g.put hd (s:=.c (.own r)) ⟨?_, ?_,hv⟩⟩;·show _=am E.rv r v r;rw[aU]
 ·show(am V.row r (some row) r).isSome=true;rw[aU];rfl
def cq.write{g:Nat}(hg:∀p,E.lab g≠bh p)(hb:∀k,k≠g->w'.heap[k]? = w.heap[k]?)
  (hrow:∀r row,V.row r=some row->∃row',V'.row r=some row'/\row'.t.nc=row.t.nc/\row.xs.length<=row'.xs.length)
  (hbox:∀b te cs,V.box b=some (te,cs)->∃te' cs',V'.box b=some (te',cs')/\cs'.length=cs.length):cq V E w V' E w':=by
 refine⟨λr row hr=>?_,λb te cs hr=>?_,λp ad u hl hc=>?_,λp t cs x h=>?_⟩;·obtain⟨row',h1,h2⟩:=hrow r row hr;exact⟨row',h1,rfl,h2⟩
 ·obtain⟨te',cs',h1,h2⟩:=hbox b te cs hr;exact⟨te',cs',h1,rfl,h2⟩
 ·have hne:ad.block≠g:=λe=>hg p (e▸hl);exact⟨hl,by rw[World.cell?_of_block (w:=w) (hb _ hne)];exact hc⟩
 ·exact h.frame λk hk _=>hb k λe=>hg p (e▸hk)
def bP.write{lab:Nat->ay}{g r:Nat}{row:ac}{v:Value}(hg:∀p,lab g≠bh p)(hgr:lab g≠.row r)(hb:∀k,k≠g->w'.heap[k]? = w.heap[k]?)(h:bP w lab r row v):bP w' lab r row v:=by
 obtain⟨css,h1,h2,h3,h4⟩:=h;refine⟨css,lO (λk hk=>hb k λe=>hgr (e▸h2 k hk)) h1,h2, ?_,h4⟩;cases hd:row.deep;·rw[hd]at h3;exact ai.imp (λc y h=>h.frame λk hk _=>hb k λe=>hg none (e▸hk)) h3
 ·rw[hd]at h3;obtain⟨Ls,k1,k2,k3⟩:=h3;exact⟨Ls,k1.imp_mem λl c y hl ho=>ho.frame λk hk=>hb k λe=>hg (some r) (e▸k3 k (List.mem_flatten.2 ⟨l,hl,hk⟩)),k2,k3⟩
def lP.write{lab:Nat->ay}{g:Nat}(hg:lab g≠.st/\lab g≠.dead)(hb:∀k,k≠g->w'.heap[k]? = w.heap[k]?)(ho:w'.os=w.os/\Tp w w'/\w'.output=w.output)(hs:w'.heap.size=w.heap.size)(h:lP w0 lab0 lab w):lP w0 lab0 lab w':=by
 refine⟨ho.1.trans h.os,ho.2.1.trans h.tape,ho.2.2.trans h.output,by rw[hs];exact h.size,λk hk hl=>?_,λk hk hl=>?_⟩;·have:=h.old k hk hl;exact⟨this.1,by rw[hb k λe=>hg.1 (e▸this.1)];exact this.2⟩
 ·have:=h.gone k hk hl;exact⟨this.1,by rw[hb k λe=>hg.2 (e▸this.1)];exact this.2⟩
def ji.write{g b te:Nat}{cs:List af}(m:cq V E w V' E w')(hgb:E.lab g≠.box b)(hb:∀k,k≠g->w'.heap[k]? = w.heap[k]?)(h:ji V E w b te cs):ji V' E w' b te cs:=by obtain⟨arr,k1,k2,k3,k4⟩:=h;exact⟨arr,by rw[hb _ λe=>hgb (e▸k2)];exact k1,k2,k3.imp λ_ _ h=>h.move m,k4⟩
def R.storeBox(h:R w0 lab0 oo n V E a w){b te f:Nat}{cs vs:List af}{us:List Value}(hb:V.box b=some (te,cs))(hte:te<bV)(hf:f+vs.length<=cs.length)(hv:ai (aj V E w) vs us)(h1:∀u∈us,u.oneCell'=true) :
  (storeCells ⟨E.bb b,f,none⟩ us 0).run P w=.ok () (w.setRow (E.bb b) (((w.heap[E.bb b]?.bind λo=>match o with|.cells c _ _=>some c|_=>none).getD #[]).toList.take f++us++((w.heap[E.bb b]?.bind λo=>match o with|.cells c _ _=>some c|_=>none).getD #[]).toList.drop (f+us.length)).toArray) /\
  R w0 lab0 oo n { V with box:=am V.box b (some (te,cs.take f++vs++cs.drop (f+vs.length))) } E a (w.setRow (E.bb b) (((w.heap[E.bb b]?.bind λo=>match o with|.cells c _ _=>some c|_=>none).getD #[]).toList.take f++us++((w.heap[E.bb b]?.bind λo=>match o with|.cells c _ _=>some c|_=>none).getD #[]).toList.drop (f+us.length)).toArray):=by
 obtain⟨arr,k1,k2,k3,k4⟩:=h.boxes b te cs hb;have k1:=k1.cells hte;have hlen:=k3.len;have hvl:=hv.len;simp only[k1,Option.bind_some,Option.getD_some];have hst:=run_storeCells_at P (E.bb b) f te us 0 arr w k1 (by rw[Nat.add_zero,<-hvl,<-Array.length_toList,<-hlen];exact hf) h1;simp only[Nat.add_zero]at hst;refine⟨hst, ?_⟩;generalize hw':w.setRow (E.bb b) (arr.toList.take f++us++arr.toList.drop (f+us.length)).toArray=w' at hst ⊢;have hother:∀k,k≠E.bb b->w'.heap[k]? = w.heap[k]?:=λk hk=>by rw[<-hw'];exact setRow_other w _ k _ hk
 have hsize:w'.heap.size=w.heap.size:=by rw[<-hw'];simp
 have hos:w'.os=w.os/\Tp w w'/\w'.output=w.output:=by rw[<-hw'];exact⟨rfl,⟨rfl,λ_=>Nat.le_refl _⟩,rfl⟩
 have hlab:∀p,E.lab (E.bb b)≠bh p:=λp=>by rw[k2];cases p<;>simp[bh]
 have hl2:(cs.take f++vs++cs.drop (f+vs.length)).length=cs.length:=by simp only[List.length_append,List.length_take,List.length_drop];omega
 let σ1:St:={ V with box:=am V.box b (some (te,cs.take f++vs++cs.drop (f+vs.length))) };have m:cq V E w σ1 E w':=cq.write hlab hother (λr row hr=>⟨row,hr,rfl,Nat.le_refl _⟩) (λb' te' cs' hq=>by
  by_cases e:b'=b;·subst e;rw[hb]at hq;injection hq with hq;injection hq with e1 e2;subst e1 e2;exact⟨_,_,aU _ _ _,hl2⟩
  ·exact⟨te',cs',(ba _ _ e).trans hq,rfl⟩)
 refine⟨h.bound,h.size,h.defers,λt=>(h.slots t).move m,λb' te' cs' hq=>?_,λr row hr=>(h.rows r row hr).write hlab (by rw[k2];simp) hother,h.same.write (by rw[k2];exact⟨ay.noConfusion,ay.noConfusion⟩) hother hos hsize⟩;by_cases e:b'=b
 ·subst e;rw[show σ1.box b'=some (te,cs.take f++vs++cs.drop (f+vs.length))from aU _ _ _]at hq;injection hq with hq;injection hq with e1 e2;subst e1 e2;refine⟨_,.inl ⟨hte,by rw[<-hw'];exact setRow_heap w _ arr _ te (0,0) k1⟩,k2, ?_, ?_⟩;·have k3':=k3.imp λ_ _ h=>aj.move m h;have hv':=hv.imp λ_ _ h=>aj.move m h;rw[<-hvl];exact((k3'.take f).app hv').app (k3'.drop _)
  ·intro u hu;simp only[List.mem_append]at hu;rcases hu with(hu|hu)|hu;·exact k4 u (List.mem_of_mem_take hu)
   ·exact h1 u hu
   ·exact k4 u (List.mem_of_mem_drop hu)
 ·exact(h.boxes b' te' cs' ((ba _ _ e).symm.trans hq)).write m (by rw[k2];simp only[ne_eq,ay.box.injEq];exact λq=>e q.symm) hother
def rP{α:Type}{n:Nat}:∀{css:List (List α)}{c':List α}{i:Nat},(∀c∈css,c.length=n)->c'.length=n->i<css.length ->
  (css.set i c').flatten=css.flatten.take (i*n)++c'++css.flatten.drop (i*n+n)
 |[],_,_,_,_,h=>by simp at h
 |c::css,c',0,hl,hc,_=>by have h0:=hl c (by simp);simp only[List.set_cons_zero,List.flatten_cons,Nat.zero_mul,List.take_zero,List.nil_append,Nat.zero_add];rw[<-h0,List.drop_left]
 |c::css,c',i+1,hl,hc,h=>by
  have h0:=hl c (by simp);have ih:=rP (n:=n) (css:=css) (c':=c') (i:=i) (λc hc=>hl c (by simp[hc])) hc (by simpa using h);simp only[List.set_cons_succ,List.flatten_cons,ih];have e1:(i+1)*n=c.length+i*n:=by rw[h0,Nat.succ_mul];omega
  rw[e1,List.take_length_add_append,Nat.add_assoc,List.drop_length_add_append];simp
def H1{α:Type}{l:List α}{us:List α}{o N:Nat}(h:o+us.length<=N)(hN:N<=l.length) :
  (l.take o++us++l.drop (o+us.length)).take N=(l.take N).take o++us++(l.take N).drop (o+us.length):=by
 have ho:(l.take o).length=o:=by rw[List.length_take];omega
 rw[List.append_assoc,List.take_append,List.take_append,ho];have e1:(l.take o).take N=l.take o:=by rw[List.take_take];congr 1;omega
 have e2:us.take (N-o)=us:=List.take_of_length_le (by omega);have e3:(l.take N).take o=l.take o:=by rw[List.take_take];congr 1;omega
 rw[e1,e2,e3,List.drop_take];have e4:N-o-us.length=N-(o+us.length):=by omega
 rw[e4,List.append_assoc]
def H2{α:Type}{l us:List α}{q n f:Nat}(hf:f+us.length<=n)(hq:q+n<=l.length) :
  l.take q++(((l.drop q).take n).take f++us++((l.drop q).take n).drop (f+us.length))++l.drop (q+n)=l.take (q+f)++us++l.drop (q+f+us.length):=by
 have e1:((l.drop q).take n).take f=(l.drop q).take f:=by rw[List.take_take];congr 1;omega
 have e2:l.take (q+f)=l.take q++(l.drop q).take f:=by rw[List.take_add]
 have e3:((l.drop q).take n).drop (f+us.length)++l.drop (q+n)=l.drop (q+f+us.length):=by
  rw[List.drop_take,List.drop_drop];have:l.drop (q+n)=(l.drop (q+(f+us.length))).drop (n-(f+us.length)):=by rw[List.drop_drop];congr 1;omega
  rw[this,List.take_append_drop];congr 1;omega
 rw[e1,e2];simp only[List.append_assoc];rw[e3]
def ownsRow_over{e:TypeId}{size m:Nat}{g c:Nat}{xs us:List Value}{o:Nat}{base:Nat}(h:w.ownsRow base e size (.slice (some ⟨g,0,none⟩) m c) m xs)(ho:o+us.length<=m*size)(h1:∀u∈us,u.oneCell'=true) :
  ∃w',(storeCells ⟨g,o,none⟩ us 0).run P w=.ok () w'/\w'.ownsRow base e size (.slice (some ⟨g,0,none⟩) m c) m (xs.take o++us++xs.drop (o+us.length))/\(∀k,k≠g->w'.heap[k]? = w.heap[k]?)/\w'.heap.size=w.heap.size/\w'.os=w.os/\Tp w w'/\w'.output=w.output:=by
 rcases h.2 with⟨h0,_⟩|⟨g',cap,cur,e0,k1,k2,k3,k4,k5,k6⟩;·cases h0
 ·injection e0 with e1 e2 e3;injection e1 with e1;injection e1 with e1;subst e1 e3;have hsz:m*size<=cur.toList.length:=by rw[Array.length_toList,k5];exact Nat.mul_le_mul_right _ k3
  have hst:=run_storeCells_at P g o e us 0 cur w k2 (by rw[Nat.add_zero,<-Array.length_toList];omega) h1;simp only[Nat.add_zero]at hst;have hl:(cur.toList.take o++us++cur.toList.drop (o+us.length)).length=cur.size:=by simp only[List.length_append,List.length_take,List.length_drop,Array.length_toList]at hsz ⊢;omega
  refine⟨_,hst,⟨?_,.inr ⟨g,c,_,rfl,k1,setRow_heap w g cur _ e (0,0) k2,k3,k4, ?_, ?_⟩⟩,λk hk=>setRow_other w g k _ hk,by simp,rfl,⟨rfl,λ_=>Nat.le_refl _⟩,rfl⟩;·have:=h.1;simp only[List.length_append,List.length_take,List.length_drop];omega
  ·simpa[k5]using hl
  ·rw[<-k6];exact H1 ho hsz
def aP.set{α β γ:Type}{Q:α->β->γ->Prop}:∀{as:List α}{bs:List β}{cs:List γ}{i:Nat}{l:α}{b:β}{y:γ},aP Q as bs cs->as[i]? = some l->Q l b y->aP Q as (bs.set i b) (cs.set i y)
 |[],[],[],_,_,_,_,h,_,_=>trivial
 |_::_,_::_,_::_,0,l,b,y,h,hl,hq=>by simp at hl;subst hl;exact⟨hq,h.2⟩
 |_::_,_::_,_::_,i+1,l,b,y,h,hl,hq=>⟨h.1,h.2.set (by simpa using hl) hq⟩
def aP.mid{α β γ:Type}{Q:α->β->γ->Prop}{n:Nat}{len:β->Nat}(hn:∀a b c,Q a b c->len b=n):∀{as:List α}{bs:List β}{cs:List γ},aP Q as bs cs->∀b∈bs,len b=n
 |[],[],[],_,_,h=>by simp at h
 |_::_,_::_,_::_,h,b,hb=>by
  rcases List.mem_cons.1 hb with rfl|hb;·exact hn _ _ _ h.1
  ·exact aP.mid hn h.2 b hb
def ai.fst{α β:Type}{Q:α->β->Prop}{n:Nat}{len:α->Nat}(hn:∀a b,Q a b->len a=n):∀{as:List α}{bs:List β},ai Q as bs->∀a∈as,len a=n
 |[],[],_,_,h=>by simp at h
 |_::_,_::_,h,a,ha=>by
  rcases List.mem_cons.1 ha with rfl|ha;·exact hn _ _ h.1
  ·exact ai.fst hn h.2 a ha
def R.storeElt(h:R w0 lab0 oo n V E a w){r g m c:Nat}{row:ac}(hrow:V.row r=some row)(hrv:E.rv r=.slice (some ⟨g,0,none⟩) m c){i f:Nat}(hi:i<row.xs.length){us:List Value}(hf:f+us.length<=row.t.nc)
  (h1:∀u∈us,u.oneCell'=true) {y:row.t.den}
  (hR:∀(S:Nat->Prop) (w1:World) (cs:List Value),Rd w1 S row.t cs (row.xs.getD i row.t.dflt)->Rd w1 S row.t (dm cs f us) y)
  (hO:∀(l:List Nat) (w1:World) (cs:List Value),aE w1 row.t l cs (row.xs.getD i row.t.dflt)->aE w1 row.t l (dm cs f us) y) :
  ∃w',(storeCells ⟨g,i*row.t.nc+f,none⟩ us 0).run P w=.ok () w'/\R w0 lab0 oo n { V with row:=am V.row r (some { row with xs:=row.xs.set i y }) } E a w':=by
 obtain⟨css,ho,hl,hd,hnil⟩:=h.rows r row hrow;rw[hrv]at ho hl;have hmlen:m=row.xs.length:=by
  rcases ho.2 with⟨h0,_⟩|⟨_,_,_,e0,_⟩;·cases h0
  ·injection e0
 subst hmlen;have hlens:(∀b∈css,b.length=row.t.nc)/\css.length=row.xs.length:=by
  cases hdp:row.deep;·rw[hdp]at hd;exact⟨ai.fst (len:=List.length) (λ_ _ h=>Rd.len h) hd,ai.len hd⟩
  ·rw[hdp]at hd;obtain⟨Ls,k1,_⟩:=hd;exact⟨aP.mid (len:=List.length) (λ_ _ _ h=>aE.len h) k1,k1.len2⟩
 obtain⟨hcl,hcn⟩:=hlens;have hxi:row.xs[i]? = some (row.xs.getD i row.t.dflt):=by rw[List.getD_eq_getElem?_getD,List.getElem?_eq_getElem hi];rfl
 have hlab:=hl g rfl;have hlab':∀p,E.lab g≠bh p:=λp=>by rw[hlab];cases p<;>simp[bh]
 have htot:css.flatten.length=row.xs.length*row.t.nc:=by rw[ho.1]
 have hbnd:i*row.t.nc+row.t.nc<=row.xs.length*row.t.nc:=by rw[<-Nat.succ_mul];exact Nat.mul_le_mul_right _ hi
 obtain⟨w',hst,ho',hother,hsize,hos⟩:=ownsRow_over (P:=P) (w:=w) (us:=us) (o:=i*row.t.nc+f) ho (by omega) h1;refine⟨w',hst, ?_⟩;let row':ac:={ row with xs:=row.xs.set i y };let σ1:St:={ V with row:=am V.row r (some row') };have m:cq V E w σ1 E w':=cq.write hlab' hother (λq row2 hq=>by
  by_cases e:q=r;·subst e;rw[hrow]at hq;injection hq with hq;subst hq;exact⟨row',aU _ _ _,rfl,by simp[row']⟩
  ·exact⟨row2,(ba _ _ e).trans hq,rfl,Nat.le_refl _⟩) (λb te cs hq=>⟨te,cs,hq,rfl⟩)
 refine⟨h.bound,h.size,h.defers,λt=>(h.slots t).move m,λb te cs hq=>(h.boxes b te cs hq).write m (by rw[hlab];simp) hother,λq row2 hq=>?_,h.same.write (by rw[hlab];exact⟨ay.noConfusion,ay.noConfusion⟩) hother ⟨hos.1,hos.2.1,hos.2.2⟩ hsize⟩;by_cases e:q=r
 ·subst e;rw[show σ1.row q=some row' from aU _ _ _]at hq;injection hq with hq;subst hq;have hci:i<css.length:=by omega
  have hcell:css[i]=(css.flatten.drop (i*row.t.nc)).take row.t.nc:=by
   have:=rP (n:=row.t.nc) (css:=css) (c':=css[i]) (i:=i) hcl (hcl _ (List.getElem_mem _)) hci;rw[List.set_getElem_self]at this;conv=>rhs;rw[this]
   have e1:(css.flatten.take (i*row.t.nc)).length=i*row.t.nc:=by rw[List.length_take];omega
   rw[List.append_assoc,List.drop_left' e1,List.take_left' (hcl _ (List.getElem_mem _))]
  have hfl:(css.set i (dm css[i] f us)).flatten=css.flatten.take (i*row.t.nc+f)++us++css.flatten.drop (i*row.t.nc+f+us.length):=by
   have hln:(dm css[i] f us).length=row.t.nc:=by have:=hcl _ (List.getElem_mem (l:=css) (n:=i) (h:=hci));simp only[dm,List.length_append,List.length_take,List.length_drop];omega
   rw[rP hcl hln hci,dm,hcell,H2 hf (by omega)]
  refine⟨css.set i (dm css[i] f us), ?_,by rw[hrv];exact hl, ?_,λhn hz=>?_⟩;·show World.ownsRow w' 0 row.e row.t.nc (E.rv q) (row.xs.set i y).length _;rw[hrv,List.length_set,hfl];exact ho'
  ·show cond row.deep _ _;cases hdp:row.deep;·rw[hdp]at hd;have hd':ai (λc y=>Rd w (λk=>E.lab k=.st) row.t c y) css row.xs:=hd;have hx:=hd'.get hxi;rw[List.getElem?_eq_getElem hci]at hx;obtain⟨c0,e0,hc0⟩:=hx;injection e0 with e0;subst e0;have hfr:∀{c:List Value}{z:row.t.den},Rd w (λk=>E.lab k=.st) row.t c z->Rd w' (λk=>E.lab k=.st) row.t c z:=λh=>h.frame λk hk _=>hother k λe=>hlab' none (e▸hk);exact(hd'.imp λ_ _ h=>hfr h).set (hR _ _ _ (hfr hc0))
   ·rw[hdp]at hd;obtain⟨Ls,k1,k2,k3⟩:=hd;obtain⟨l,c0,e1,e2,hc0⟩:=k1.get hxi;rw[List.getElem?_eq_getElem hci]at e2;injection e2 with e2;subst e2;have hfr:∀{l:List Nat}{c:List Value}{z:row.t.den},l∈Ls->aE w row.t l c z->aE w' row.t l c z:=λhl' h=>h.frame λk hk=>hother k λe=>hlab' (some q) (e▸k3 k (List.mem_flatten.2 ⟨_,hl',hk⟩));exact⟨Ls,(k1.imp_mem λ_ _ _ hl' h=>hfr hl' h).set e1 (hO _ _ _ (hfr (List.mem_of_getElem? e1) hc0)),k2,k3⟩
  ·have:row.xs.length=0:=by simpa[row']using hz
   omega
 ·exact(h.rows q row2 ((ba _ _ e).symm.trans hq)).write hlab' (by rw[hlab];simp only[ne_eq,ay.row.injEq];exact λe'=>e e'.symm) hother
end
def jj(q:Nat):Nat.beq q q=true:=Nat.beq_refl q
def kD{q r:Nat}(h:q≠r):Nat.beq q r=false:=by
 cases hb:Nat.beq q r;·rfl
 ·exact absurd (Nat.eq_of_beq_eq_true hb) h
section
variable {P : Program} {V V' : St} {E E' : aM} {w w' : World} {w0 : World} {lab0 : Nat → ay} {oo : Nat → Value} {n : Nat} {a : Act} [DC]
def bP.rd{lab:Nat->ay}{q:Nat}{row:ac}{v:Value}{S:Nat->Prop}(h:bP w lab q row v)(h1:∀k,lab k=.row q->S k)(h2:∀k,lab k=cond row.deep (.inn q) .st->S k):Rd w S (.sl row.e row.t) [v] row.xs:=by
 obtain⟨css,ho,hl,hd,_⟩:=h;obtain⟨A,c,hv,hc1,hc2⟩:=gM ho;have hall:ai (λc y=>Rd w S row.t c y) css row.xs:=by
  cases hdp:row.deep;·rw[hdp]at hd h2;exact ai.imp (λ_ _ h=>Rd.mono (λk hk=>h2 k hk) h) (show ai (λc y=>Rd w (λk=>lab k=.st) row.t c y) css row.xs from hd)
  ·rw[hdp]at hd h2;obtain⟨Ls,k1,k2,k3⟩:=hd;exact aP.two (R:=λc y=>Rd w S row.t c y) (λ_ _ _ h=>h) (k1.imp_mem (Q':=λ_ c y=>Rd w S row.t c y) λl c y hl' ho'=>ho'.rd λk hk=>h2 k (k3 k (List.mem_flatten.2 ⟨l,hl',hk⟩)))
 refine⟨A,_,c,by rw[hv],rfl,hc1,hc2, ?_⟩;rcases ho.2 with⟨_,h0⟩|⟨g,cap,cur,e,_⟩;·exact .inl h0
 ·rw[hv]at e;injection e with e1 e2 e3;subst e1;exact .inr ⟨⟨g,0,none⟩,css,rfl,h1 _ (hl g (by rw[hv];rfl)),hall,ho.cells (by rw[hv];rfl)⟩
def cK(lab:Nat->ay)(q:Nat)(p:Option Nat):Nat->ay:=λk=>if lab k=.row q\/lab k=.inn q then bh p else lab k
def gh{lab:Nat->ay}{q:Nat}{p:Option Nat}{k:Nat}(h1:lab k≠.row q)(h2:lab k≠.inn q):cK lab q p k=lab k:=by unfold cK;rw[if_neg (by simp[h1,h2])]
def jQ{lab:Nat->ay}{q:Nat}{p:Option Nat}{k:Nat}(h:lab k=.row q\/lab k=.inn q):cK lab q p k=bh p:=by unfold cK;rw[if_pos h]
def lW{lab:Nat->ay}{q:Nat}{p p':Option Nat}{t:Ty}{cs:List Value}{x:t.den}(h:Rd w (λk=>lab k=bh p') t cs x):Rd w (λk=>cK lab q p k=bh (if p'=some q then p else p')) t cs x:=by
 refine h.mono λk hk=>?_;by_cases e:p'=some q;·subst e;rw[if_pos rfl];exact jQ (.inr hk)
 ·rw[if_neg e,gh (by rw[hk];cases p'<;>simp[bh]) (by
   rw[hk];cases p' with
   |none=>simp[bh]
   |some z=>simp only[bh,ne_eq,ay.inn.injEq];exact λe'=>e (by rw[e']))]
  exact hk
def vk(q r:Nat)(p:Option Nat):(cond (Nat.beq r q) p (some r))=if(some r:Option Nat)=some q then p else some r:=by
 by_cases e:r=q;·subst e;rw[jj,if_pos rfl];rfl
 ·rw[kD e,if_neg (by simpa using e)];rfl
def aj.absorb{q:Nat}{p:Option Nat}{row:ac}(hq:V.row q=some row)(hdp:row.deep=true\/p=none)(hr:bP w E.lab q row (E.rv q))
  (hrow:∀r,r≠q->V'.row r=V.row r) (hbox:∀b te cs,V.box b=some (te,cs)->∃cs',V'.box b=some (te,cs')/\cs'.length=cs.length) :
  ∀{c:af}{v:Value},aj V E w c v->aj V' { E with lab:=cK E.lab q p } w (gN q row p c) v
 |.undef,_,_=>trivial
 |.int _ _,_,h=>h
 |.bool _,_,h=>h
 |.str _,_,h=>h
 |.err _,_,h=>h
 |.bor _ _ _ _,_,h=>⟨h.1,lW (p':=none) h.2⟩
 |.nil,_,h=>h
 |.sn e t xs none,v,h=>lW (p':=none) h
 |.sn e t xs (some r),v,h=>by have:=lW (q:=q) (p:=p) (p':=some r) h;rw[<-vk]at this;exact this
 |.full e t xs none,v,h=>⟨lW (p':=none) h.1,h.2⟩
 |.full e t xs (some r),v,h=>by have:=lW (q:=q) (p:=p) (p':=some r) h.1;rw[<-vk]at this;exact⟨this,h.2⟩
 |.own r,v,h=>by
  obtain⟨rfl,h1,h2⟩:=h;by_cases e:r=q
  ·subst e;simp only[gN,jj,cond_true];refine bP.rd hr (λk hk=>jQ (.inl hk)) λk hk=>?_;rcases hdp with hd|rfl;·rw[hd]at hk;exact jQ (.inr hk)
   ·cases hdd:row.deep;·rw[hdd]at hk;have hk':E.lab k=.st:=hk;exact(gh (by rw[hk'];simp) (by rw[hk'];simp)).trans hk'
    ·rw[hdd]at hk;exact jQ (.inr hk)
  ·simp only[gN,kD e,cond_false];exact⟨rfl,by rw[hrow r e];exact h1,h2⟩
 |.part r lo m,v,h=>by
  by_cases e:r=q;·subst e;simp only[gN,jj,cond_true];trivial
  ·simp only[gN,kD e,cond_false];obtain⟨row',A,c,h1,h2⟩:=h;exact⟨row',A,c,by rw[hrow r e];exact h1,h2⟩
 |.box b f,v,h=>by obtain⟨rfl,te,cs,h1,h2⟩:=h;obtain⟨cs',g1,g2⟩:=hbox b te cs h1;exact⟨rfl,te,cs',g1,by omega⟩
 |.mp b,v,h=>by obtain⟨rfl,te,cs,h1⟩:=h;obtain⟨cs',g1,_⟩:=hbox b te cs h1;exact⟨rfl,te,cs',g1⟩
 |.mset _ _,_,h=>h
 |.elt r i f,v,h=>by
  by_cases e:r=q;·subst e;simp only[gN,jj,cond_true];trivial
  ·simp only[gN,kD e,cond_false];obtain⟨row',g,m,c,h1,h2⟩:=h;exact⟨row',g,m,c,by rw[hrow r e];exact h1,h2⟩
 |.selt t x none f,v,h=>by obtain⟨ad,cs,h1,h2,h3,h4,h5⟩:=h;refine⟨ad,cs,h1,h2, ?_,lW (p':=none) h4,h5⟩;have h3':E.lab ad.block=.st:=h3;exact(gh (by rw[h3'];simp) (by rw[h3'];simp)).trans h3'
 |.selt t x (some r) f,v,h=>by
  obtain⟨ad,cs,h1,h2,h3,h4,h5⟩:=h;have h4':=lW (q:=q) (p:=p) (p':=some r) h4;rw[<-vk]at h4';refine⟨ad,cs,h1,h2, ?_,h4',h5⟩;have h3':E.lab ad.block=.inn r:=h3;show cK E.lab q p ad.block=_;by_cases e:r=q;·subst e;rw[jj];exact jQ (.inr h3')
  ·rw[kD e];exact(gh (by rw[h3'];simp) (by rw[h3'];simpa using e)).trans h3'
 |.fn f caps,v,h=>by obtain⟨rfl,h⟩:=h;refine⟨rfl,λx hx=>?_⟩;obtain⟨te,cs,h1,h2⟩:=h x hx;obtain⟨cs',g1,g2⟩:=hbox _ _ _ h1;exact⟨te,cs',g1,by omega⟩
def lX{α β γ:Type}{Q:α->β->Prop}{Q':γ->β->Prop}(f:α->γ)(hf:∀a b,Q a b->Q' (f a) b):∀{as:List α}{bs:List β},ai Q as bs->ai Q' (as.map f) bs
 |[],[],_=>trivial
 |_::_,_::_,h=>⟨hf _ _ h.1,lX f hf h.2⟩
def aK.map{f:af->af}(hf:∀{c:af}{v:Value},aj V E w c v->aj V' E' w' (f c) v):∀{s:SV}{v:Value},aK V E w s v->aK V' E' w' (s.map f) v
 |.c _,_,h=>hf h
 |.agg l,_,h=>by obtain⟨arr,e,h⟩:=h;exact⟨arr,e,lX f (λ_ _ h=>hf h) h⟩
 |.tup l,_,h=>by
  obtain⟨arr,e,h⟩:=h;refine⟨arr,e,lX _ (λp u h=>?_) h⟩;rcases p with⟨b,l⟩;cases b;·exact lX f (λ_ _ h=>hf h) (show ai (aj V E w) l [u]from h)
  ·obtain⟨ar,e,h⟩:∃ar:Array Value,u=.agg ar/\ai (aj V E w) l ar.toList:=h;exact(⟨ar,e,lX f (λ_ _ h=>hf h) h⟩:∃ar:Array Value,u=.agg ar/\ai (aj V' E' w') (l.map f) ar.toList)
def R.absorb(h:R w0 lab0 oo n V E a w){q:Nat}{p:Option Nat}{V':St}(hs:Fw.absorb q p V=some V') :
  R w0 lab0 oo n V' { E with lab:=cK E.lab q p } a w/\∃row,V.row q=some row/\(row.deep=true\/p=none)/\V'={ (V.mapc (gN q row p))with row:=am V.row q none }:=by
 unfold Fw.absorb at hs;split at hs
 ·rename_i row hq;cases hdp:(row.deep||p.isNone);·rw[hdp]at hs;cases hs
  ·rw[hdp]at hs;simp only[cond_true,Option.some.injEq]at hs;subst hs;have hd:row.deep=true\/p=none:=by simpa using hdp
   refine⟨?_,row,hq,hd,rfl⟩;have hc:∀{c:af}{v:Value},aj V E w c v->aj ({ (V.mapc (gN q row p))with row:=am V.row q none }:St) { E with lab:=cK E.lab q p } w (gN q row p c) v :=
    aj.absorb hq hd (h.rows q row hq) (λr e=>ba _ _ e) (λb te cs hb=>⟨cs.map (gN q row p),by simp only[St.mapc,hb],by simp⟩)
   refine⟨h.bound,h.size,h.defers,λt=>(h.slots t).map hc,λb te cs hb=>?_,λr row' hr=>?_, ?_⟩
   ·simp only[St.mapc]at hb;split at hb;·rename_i te' cs' hb';injection hb with hb;injection hb with e1 e2;subst e1 e2;obtain⟨arr,k1,k2,k3,k4⟩:=h.boxes b _ _ hb';exact⟨arr,k1,(gh (by rw[k2];simp) (by rw[k2];simp)).trans k2,lX _ (λ_ _ h=>hc h) k3,k4⟩
    ·cases hb
   ·by_cases e:r=q;·subst e;have:(am V.row r none) r=some row':=hr;rw[aU]at this;cases this
    ·have hr':V.row r=some row':=(ba _ _ e).symm.trans hr;obtain⟨css,k1,k2,k3,k4⟩:=h.rows r row' hr';have hne:∀k,E.lab k=.row r->cK E.lab q p k=.row r:=λk hk=>(gh (by rw[hk];simpa using e) (by rw[hk];simp)).trans hk;have hne2:∀k,E.lab k=.inn r->cK E.lab q p k=.inn r:=λk hk=>(gh (by rw[hk];simp) (by rw[hk];simpa using e)).trans hk;have hne3:∀k,E.lab k=.st->cK E.lab q p k=.st:=λk hk=>(gh (by rw[hk];simp) (by rw[hk];simp)).trans hk;refine⟨css,k1,λk hk=>hne k (k2 k hk), ?_,k4⟩;cases hdd:row'.deep;·rw[hdd]at k3;exact ai.imp (λ_ _ h=>Rd.mono (λk hk=>hne3 k hk) h) (show ai (λc y=>Rd w (λk=>E.lab k=.st) row'.t c y) css row'.xs from k3)
     ·rw[hdd]at k3;obtain⟨Ls,j1,j2,j3⟩:=k3;exact⟨Ls,j1,j2,λk hk=>hne2 k (j3 k hk)⟩
   ·exact⟨h.same.os,h.same.tape,h.same.output,h.same.size,λk hk hl=>⟨(gh (by rw[(h.same.old k hk hl).1];simp) (by rw[(h.same.old k hk hl).1];simp)).trans (h.same.old k hk hl).1,(h.same.old k hk hl).2⟩,λk hk hl=>⟨(gh (by rw[(h.same.gone k hk hl).1];simp) (by rw[(h.same.gone k hk hl).1];simp)).trans (h.same.gone k hk hl).1,(h.same.gone k hk hl).2⟩⟩
 ·cases hs
end
def gi:∀{x:Nat}{l:List Nat},bq x l=true↔x∈l
 |_,[]=>by simp[bq]
 |x,y::ys=>by simp[bq,gi (x:=x) (l:=ys)]
def iw:∀{l:List Nat},dq l=true->l.Nodup
 |[],_=>List.nodup_nil
 |x::xs,h=>by simp only[dq,Bool.and_eq_true,Bool.not_eq_true']at h;refine List.nodup_cons.2 ⟨λhm=>?_,iw h.2⟩;rw[gi.2 hm]at h;cases h.1
section
variable {P : Program} {V V' : St} {E E' : aM} {w w' : World} {w0 : World} {lab0 : Nat → ay} {oo : Nat → Value} {n : Nat} {a : Act} [DC]
def H3{c:af}{v:Value}(h:zc c v=true):aj V E w c v:=by
 unfold zc at h;split at h;·simp only[Bool.and_eq_true,decide_eq_true_eq]at h;obtain⟨rfl,rfl⟩:=h;rfl
 ·simp only[beq_iff_eq]at h;subst h;rfl
 ·rename_i s s';simp only[Bool.and_eq_true]at h;have h1:s=ByteArray.empty:=ByteArray.ext (Array.eq_empty_of_size_eq_zero (Nat.eq_of_beq_eq_true h.1));have h2:s'=ByteArray.empty:=ByteArray.ext (Array.eq_empty_of_size_eq_zero (Nat.eq_of_beq_eq_true h.2));subst h1 h2;rfl
 ·rfl
 ·rename_i b;exact .inl ⟨rfl,by simpa using h⟩
 ·trivial
 ·cases h
def lY:∀{cs:List af}{vs:List Value},oV cs vs=true->ai (aj V E w) cs vs/\∀u∈vs,u.oneCell'=true
 |[],[],_=>⟨trivial,λu hu=>by simp at hu⟩
 |[],_::_,h=>by cases h
 |_::_,[],h=>by cases h
 |c::cs,v::vs,h=>by
  simp only[oV,Bool.and_eq_true]at h;obtain⟨h1,h2⟩:=lY (cs:=cs) (vs:=vs) h.2.2;exact⟨⟨H3 h.1,h1⟩,λu hu=>by
   rcases List.mem_cons.1 hu with rfl|hu;·exact h.2.1
   ·exact h2 u hu⟩
def o8{s:SV}{cs:List af}{v:Value}(h:s.cells=some cs)(hs:aK V E w s v):ai (aj V E w) cs v.cells.toList:=by
 cases s with
 |c x =>
  have hx:x≠.undef:=λe=>by subst e;cases h
  have h':cs=[x]:=by cases x<;>first|exact absurd rfl hx | (simp only[SV.cells,Option.some.injEq]at h;exact h.symm)
  subst h';have hp:=aj.noagg hx hs;have:v.cells=#[v]:=by cases v<;>first|rfl|exact absurd rfl (hp _)
  rw[this];exact⟨hs,trivial⟩
 |agg l =>simp only[SV.cells,Option.some.injEq]at h;subst h;obtain⟨arr,rfl,hs⟩:=hs;exact hs
 |tup l=>cases h
def Au(a7:Nat):∀(vs:List Value) (i:Nat) (cells:Array Value),a7+i+vs.length<=cells.size ->
  ((vs.zipIdx i).foldl (λcs (p:Value×Nat)=>cs.setIfInBounds (a7+p.2) p.1) cells).toList=dm cells.toList (a7+i) vs
 |[],i,cells,h=>by simp[dm]
 |v::vs,i,cells,h=>by simp only[List.length_cons]at h;have ih:=Au a7 vs (i+1) (cells.setIfInBounds (a7+i) v) (by simp;omega);simp only[List.zipIdx_cons,List.foldl_cons,ih,Array.toList_setIfInBounds,dm];have e:=list_seg_step cells.toList (a7+i) v vs (by simp;omega);simp only[List.length_cons];rw[<-Nat.add_assoc a7 i 1];simpa[Nat.add_assoc,Nat.add_comm,Nat.add_left_comm]using e
def ai.over{α β:Type}{Q:α->β->Prop}{as us:List α}{bs vs:List β}(h:ai Q as bs)(h':ai Q us vs)(f:Nat):ai Q (dm as f us) (dm bs f vs):=by unfold dm;rw[h'.len];exact((h.take f).app h').app (h.drop _)
def vl{place:Nat->Option (Nat×Nat)}:∀{ps:List (Nat×List af)}{vs:List (Nat×Value)}{cs cs':List af}{arr:Array Value},
  jP place cs ps=some cs'->ai (λ(p:Nat×List af) (q:Nat×Value)=>p.1=q.1/\ai (aj V E w) p.2 q.2.cells.toList) ps vs->ai (aj V E w) cs arr.toList ->
  ∃arr',Instr.fill place arr vs=some arr'/\ai (aj V E w) cs' arr'.toList
 |[],[],cs,cs',arr,h,_,hc=>by simp only[jP,Option.some.injEq]at h;subst h;exact⟨arr,rfl,hc⟩
 |[],_::_,_,_,_,_,h,_=>h.elim
 |_::_,[],_,_,_,_,h,_=>h.elim
 | (i,x)::ps,(i',v)::vs,cs,cs',arr,h,hp,hc=>by
  obtain⟨⟨e,hx⟩,hp⟩:=hp;have e':i=i':=e;subst e';have hx':ai (aj V E w) x v.cells.toList:=hx;simp only[jP]at h;split at h
  ·rename_i a7 sz hpl;cases hq:(Nat.beq x.length sz&&Nat.ble (a7+x.length) cs.length);·rw[hq]at h;cases h
   ·rw[hq]at h;simp only[Bool.and_eq_true]at hq;have h1:=Nat.eq_of_beq_eq_true hq.1;have h2:=Nat.le_of_ble_eq_true hq.2;have hl:x.length=v.cells.size:=by rw[hx'.len,Array.length_toList]
    have hl2:cs.length=arr.size:=by rw[hc.len,Array.length_toList]
    have hf:=Au a7 v.cells.toList 0 arr (by rw[Array.length_toList];omega);have hcond:(v.cells.size≠sz||a7+v.cells.size > arr.size)=false:=by simp only[ne_eq,Bool.or_eq_false_iff,decide_eq_false_iff_not];exact⟨by omega,by omega⟩
    simp only[cond_true]at h;have hfold:(v.cells.zipIdx.foldl (λcs (p:Value×Nat)=>cs.setIfInBounds (a7+p.2) p.1) arr).toList=dm arr.toList a7 v.cells.toList:=by rw[<-Array.foldl_toList,Array.toList_zipIdx];exact hf
    obtain⟨arr',k1,k2⟩:=vl (arr:=v.cells.zipIdx.foldl (λcs (p:Value×Nat)=>cs.setIfInBounds (a7+p.2) p.1) arr) h hp (by rw[hfold];exact hc.over hx' a7);refine⟨arr', ?_,k2⟩;simp only[Instr.fill,hpl];rw[if_neg (by simpa using hcond)];exact k1
  ·cases h
def vm(h:R w0 lab0 oo n V E a w):∀{parts:List (Nat×Operand)}{ps:List (Nat×List af)},nh V parts=some ps ->
  ai (λ(p:Nat×List af) (q:Nat×Value)=>p.1=q.1/\ai (aj V E w) p.2 q.2.cells.toList) ps (parts.map λq=>(q.1,a.eval q.2))
 |[],ps,e=>by simp only[nh,Option.some.injEq]at e;subst e;trivial
 | (i,x)::ej,ps,e=>by
  simp only[nh]at e;split at e;·rename_i cs ps' h1 h2;injection e with e;subst e;exact⟨⟨rfl,o8 h1 (a6 h x)⟩,vm h h2⟩
  ·cases e
def vn{α:Type}{m:Nat}:∀{k:Nat}{l:List α},l.length=k*m->(d6 m k l).flatten=l
 |0,l,h=>by have:l=[]:=List.eq_nil_of_length_eq_zero (by omega);subst this;rfl
 |k+1,l,h=>by simp only[d6,List.flatten_cons];rw[vn (by rw[List.length_drop,h,Nat.succ_mul];omega),List.take_append_drop]
def Av{α β:Type}{Q:α->β->Prop}{m:Nat}:∀{k:Nat}{l:List α}{l':List β},ai Q l l'->ai (ai Q) (d6 m k l) (d6 m k l')
 |0,_,_,_=>trivial
 |k+1,_,_,h=>⟨h.take m,Av (h.drop m)⟩
def gj:∀{l l':List af},aF (l++l')=aF l++aF l'
 |[],_=>rfl
 |c::l,l'=>by cases c<;>simp[aF,gj (l:=l) (l':=l')]
def gk{t t':Ty}{x:List t.den}{y:List t'.den}(h:dj t t' x=some y):∃e:t=t',e▸x=y:=by
 unfold dj at h;split at h;·rename_i e;exact⟨e,Option.some.inj h⟩
 ·cases h
def dr(lab:Nat->ay)(q k:Nat):Prop:=lab k=.row q\/lab k=.inn q
def bP.own{lab:Nat->ay}{q:Nat}{row:ac}{v:Value}(h:bP w lab q row v)(hd:row.deep=true) :
  ∃L:List Nat,aE w (.sl row.e row.t) L [v] row.xs/\L.Nodup/\∀k∈L,dr lab q k:=by
 obtain⟨css,ho,hl,hdp,_⟩:=h;rw[hd]at hdp;obtain⟨Ls,k1,k2,k3⟩:=hdp;refine⟨v.ownBlock.toList++Ls.flatten,⟨v,css,Ls,rfl,ho,rfl,k1⟩, ?_,λk hk=>?_⟩;·refine List.nodup_append.2 ⟨by cases v.ownBlock<;>simp,k2,λx hx y hy e=>?_⟩;subst e;have h1:=hl x (by simpa using hx);have h2:=k3 x hy;rw[h1]at h2;cases h2
 ·rcases List.mem_append.1 hk with hk|hk;·exact .inl (hl k (by simpa using hk))
  ·exact .inr (k3 k hk)
def lZ{k:IntKind}{cs:List af}{y:Int}(h:kA k cs=some y):cs=[.int k y]:=by
 unfold kA at h;split at h
 ·rename_i k' n';cases hk:jO k k';·rw[hk]at h;cases h
  ·rw[hk]at h;obtain rfl:=o6 hk;injection h with h;subst h;rfl
 ·cases h
def o9{g:Nat}{cs:List af}{y:Unit}(h:oW g cs=some y):cs=[.fn g []]:=by
 unfold oW at h;split at h
 ·rename_i g';cases hb:Nat.beq g' g;·rw[hb]at h;cases h
  ·rw[Nat.eq_of_beq_eq_true hb]
 ·cases h
def nk{cs:List af}{y:Bool}(h:lR cs=some y):cs=[.bool y]:=by
 unfold lR at h;split at h;·injection h with h;subst h;rfl
 ·cases h
def l5{cs:List af}{y:ByteArray}(h:kB cs=some y):cs=[.str y]:=by
 unfold kB at h;split at h;·injection h with h;subst h;rfl
 ·cases h
def rQ{cs:List af}{y:Bool}(h:oX cs=some y):cs=[.err y]:=by
 unfold oX at h;split at h;·injection h with h;subst h;rfl
 ·cases h
def cb{c:af}{us:List Value}(h:ai (aj V E w) [c] us):∃u,us=[u]/\aj V E w c u:=by
 cases us with
 |nil=>exact h.elim
 |cons u us=>cases us with
  |nil=>exact⟨u,rfl,h.1⟩
  |cons _ _=>exact h.2.elim
def vo{e:Nat}{t:Ty}{cs:List af}{y:List t.den}(h:iv V.row e t cs=some y):(cs=[.nil]/\y=[])\/∃r row,cs=[.own r]/\V.row r=some row/\row.e=e/\row.deep=true/\∃e:row.t=t,e▸row.xs=y:=by
 unfold iv at h;split at h;·injection h with h;exact .inl ⟨rfl,h.symm⟩
 ·rename_i r;split at h
  ·rename_i row hr;cases hq:(Nat.beq row.e e&&row.deep);·rw[hq]at h;cases h
   ·rw[hq]at h;simp only[Bool.and_eq_true]at hq;exact .inr ⟨r,row,rfl,hr,Nat.eq_of_beq_eq_true hq.1,hq.2,gk h⟩
  ·cases h
 ·cases h
def dK{α β:Type}{x:Option α}{y:Option β}{z:α×β}(h:dJ x y=some z):x=some z.1/\y=some z.2:=by
 unfold dJ at h;split at h;·injection h with h;subst h;exact⟨rfl,rfl⟩
 ·cases h
def gl(h:R w0 lab0 oo n V E a w):∀{t:Ty}{cs:List af}{us:List Value}{y:t.den},dk V.row t cs=some y->ai (aj V E w) cs us->(aF cs).Nodup ->
  ∃L:List Nat,aE w t L us y/\L.Nodup/\∀k∈L,∃q∈aF cs,dr E.lab q k
 |.int k,cs,us,y,e,hc,_=>by obtain rfl:=lZ e;obtain⟨u,rfl,hu⟩:=cb hc;obtain rfl:u=_:=hu;exact⟨[],⟨rfl,rfl⟩,List.nodup_nil,λk hk=>by simp at hk⟩
 |.bool,cs,us,y,e,hc,_=>by obtain rfl:=nk e;obtain⟨u,rfl,hu⟩:=cb hc;obtain rfl:u=_:=hu;exact⟨[],⟨rfl,rfl⟩,List.nodup_nil,λk hk=>by simp at hk⟩
 |.fnc _,cs,us,y,e,hc,_=>by obtain rfl:=o9 e;obtain⟨u,rfl,hu⟩:=cb hc;obtain⟨rfl,_⟩:=hu;exact⟨[],⟨rfl,rfl⟩,List.nodup_nil,λk hk=>by simp at hk⟩
 |.err,cs,us,y,e,hc,_=>by obtain rfl:=rQ e;obtain⟨u,rfl,hu⟩:=cb hc;exact⟨[],⟨⟨u,rfl,hu⟩,rfl⟩,List.nodup_nil,λk hk=>by simp at hk⟩
 |.str,cs,us,y,e,hc,_=>by obtain rfl:=l5 e;obtain⟨u,rfl,hu⟩:=cb hc;obtain rfl:u=_:=hu;exact⟨[],⟨rfl,rfl⟩,List.nodup_nil,λk hk=>by simp at hk⟩
 |.sl e' t,cs,us,y,e,hc,_=>by
  rcases vo (show iv V.row e' t cs=some y from e)with⟨rfl,rfl⟩|⟨r,row,rfl,hr,rfl,hd,rfl,rfl⟩;·obtain⟨u,rfl,hu⟩:=cb hc;obtain rfl:u=_:=hu;exact⟨[],⟨_,[],[],rfl,World.ownsRow_nil w 0 e' t.nc,rfl,trivial⟩,List.nodup_nil,λk hk=>by simp at hk⟩
  ·obtain⟨u,rfl,hu⟩:=cb hc;obtain⟨rfl,_⟩:=hu;obtain⟨L,k1,k2,k3⟩:=(h.rows r row hr).own hd;exact⟨L,k1,k2,λk hk=>⟨r,by simp[aF],k3 k hk⟩⟩
 |.pair t1 t2,cs,us,y,e,hc,hn=>by
  obtain⟨e1,e2⟩:=dK e;have hown:aF cs=aF (cs.take t1.nc)++aF (cs.drop t1.nc):=by rw[<-gj,List.take_append_drop]
  rw[hown]at hn;have hn':=List.nodup_append.1 hn;obtain⟨L1,j1,j2,j3⟩:=gl h e1 (hc.take t1.nc) hn'.1;obtain⟨L2,i1,i2,i3⟩:=gl h e2 (hc.drop t1.nc) hn'.2.1;refine⟨L1++L2,⟨us.take t1.nc,us.drop t1.nc,L1,L2,(List.take_append_drop _ _).symm,rfl,j1,i1⟩,List.nodup_append.2 ⟨j2,i2,λx hx z hz e=>?_⟩,λk hk=>?_⟩
  ·subst e;obtain⟨q,hq,hq'⟩:=j3 x hx;obtain⟨r,hr,hr'⟩:=i3 x hz;have:q=r:=by
    rcases hq' with hq'|hq'<;>rcases hr' with hr'|hr'<;>rw[hq']at hr'<;>first|cases hr' | (injection hr')
    all_goals rfl
   subst this;exact hn'.2.2 q hq q hr rfl
  ·rw[hown];rcases List.mem_append.1 hk with hk|hk;·obtain⟨q,hq,hq'⟩:=j3 k hk;exact⟨q,List.mem_append.2 (.inl hq),hq'⟩
   ·obtain⟨q,hq,hq'⟩:=i3 k hk;exact⟨q,List.mem_append.2 (.inr hq),hq'⟩
def H4{look:Nat->Option ac}{t:Ty}:∀{cs:List af}{us:List Value}{y:t.den},dk look t cs=some y->ai (aj V E w) cs us->aF cs=[]->(∀w',aE w' t [] us y):=by
 induction t with
 |int k =>intro cs us y e hc _ w';obtain rfl:=lZ e;obtain⟨u,rfl,hu⟩:=cb hc;obtain rfl:u=_:=hu;exact⟨rfl,rfl⟩
 |bool =>intro cs us y e hc _ w';obtain rfl:=nk e;obtain⟨u,rfl,hu⟩:=cb hc;obtain rfl:u=_:=hu;exact⟨rfl,rfl⟩
 |fnc g =>intro cs us y e hc _ w';obtain rfl:=o9 e;obtain⟨u,rfl,hu⟩:=cb hc;obtain⟨rfl,_⟩:=hu;exact⟨rfl,rfl⟩
 |err =>intro cs us y e hc _ w';obtain rfl:=rQ e;obtain⟨u,rfl,hu⟩:=cb hc;exact⟨⟨u,rfl,hu⟩,rfl⟩
 |str =>intro cs us y e hc _ w';obtain rfl:=l5 e;obtain⟨u,rfl,hu⟩:=cb hc;obtain rfl:u=_:=hu;exact⟨rfl,rfl⟩
 |sl e' t _ =>
  intro cs us y e hc ho w';have e:iv look e' t cs=some y:=e;unfold iv at e;split at e;·injection e with e;subst e;obtain⟨u,rfl,hu⟩:=cb hc;obtain rfl:u=_:=hu;exact⟨_,[],[],rfl,World.ownsRow_nil w' 0 e' t.nc,rfl,trivial⟩
  ·simp[aF]at ho
  ·cases e
 |pair t1 t2 ih1 ih2 =>
  intro cs us y e hc ho w';obtain⟨e1,e2⟩:=dK e;have hown:aF cs=aF (cs.take t1.nc)++aF (cs.drop t1.nc):=by rw[<-gj,List.take_append_drop]
  rw[hown]at ho;have ho':=List.append_eq_nil_iff.1 ho;exact⟨us.take t1.nc,us.drop t1.nc,[],[],(List.take_append_drop _ _).symm,rfl,ih1 e1 (hc.take t1.nc) ho'.1 w',ih2 e2 (hc.drop t1.nc) ho'.2 w'⟩
def pf:∀{t:Ty}{cs:List af}{us:List Value}{y:t.den},ge t cs=some y->ai (aj V E w) cs us->Rd w (λk=>E.lab k=.st) t us y
 |.int k,cs,us,y,e,hc=>by obtain rfl:=lZ e;obtain⟨u,rfl,hu⟩:=cb hc;obtain rfl:u=_:=hu;rfl
 |.bool,cs,us,y,e,hc=>by obtain rfl:=nk e;obtain⟨u,rfl,hu⟩:=cb hc;obtain rfl:u=_:=hu;rfl
 |.fnc _,cs,us,y,e,hc=>by obtain rfl:=o9 e;obtain⟨u,rfl,hu⟩:=cb hc;obtain⟨rfl,_⟩:=hu;rfl
 |.err,cs,us,y,e,hc=>by obtain rfl:=rQ e;obtain⟨u,rfl,hu⟩:=cb hc;exact⟨u,rfl,hu⟩
 |.str,cs,us,y,e,hc=>by obtain rfl:=l5 e;obtain⟨u,rfl,hu⟩:=cb hc;obtain rfl:u=_:=hu;rfl
 |.sl e' t,cs,us,y,e,hc=>by
  have e:u5 e' t cs=some y:=e;unfold u5 at e;split at e;·injection e with e;subst e;obtain⟨u,rfl,hu⟩:=cb hc;obtain rfl:u=_:=hu;exact⟨none,0,0,rfl,rfl,Nat.le_refl _,Nat.zero_le _,.inl rfl⟩
  ·rename_i e1 t' xs e0;cases hq:Nat.beq e1 e';·rw[hq]at e;cases e
   ·rw[hq]at e;obtain⟨rfl,rfl⟩:=gk e;obtain rfl:=Nat.eq_of_beq_eq_true hq;obtain⟨u,rfl,hu⟩:=cb hc;exact hu
  ·cases e
 |.pair t1 t2,cs,us,y,e,hc=>by obtain⟨e1,e2⟩:=dK e;exact⟨us.take t1.nc,us.drop t1.nc,(List.take_append_drop _ _).symm,pf e1 (hc.take t1.nc),pf e2 (hc.drop t1.nc)⟩
def vq:∀{t:Ty}{x:t.den}{f:Nat}{c:af}{y:t.den}{u:Value},ne t x f c=some y->aj V E w c u->f<t.nc/\u.oneCell'=true /\
  (∀(S:Nat->Prop) (w1:World) (cs:List Value),Rd w1 S t cs x->Rd w1 S t (dm cs f [u]) y)/\(∀(l:List Nat) (w1:World) (cs:List Value),aE w1 t l cs x->aE w1 t l (dm cs f [u]) y)
 |.int k,x,f,c,y,u,e,hc=>by
  have e:cond (Nat.beq f 0) (kA k [c]) none=some y:=e;cases hq:Nat.beq f 0;·rw[hq]at e;cases e
  ·rw[hq]at e;obtain rfl:=Nat.eq_of_beq_eq_true hq;have:=lZ e;injection this with this;subst this;obtain rfl:u=_:=hc;refine⟨Nat.one_pos,rfl,λS w1 cs h=>?_,λl w1 cs h=>?_⟩;·obtain rfl:=h;rfl
   ·obtain⟨rfl,rfl⟩:=h;exact⟨rfl,rfl⟩
 |.fnc _,x,f,c,y,u,e,hc=>by cases e
 |.err,x,f,c,y,u,e,hc=>by cases e
 |.bool,x,f,c,y,u,e,hc=>by
  have e:cond (Nat.beq f 0) (lR [c]) none=some y:=e;cases hq:Nat.beq f 0;·rw[hq]at e;cases e
  ·rw[hq]at e;obtain rfl:=Nat.eq_of_beq_eq_true hq;have:=nk e;injection this with this;subst this;obtain rfl:u=_:=hc;refine⟨Nat.one_pos,rfl,λS w1 cs h=>?_,λl w1 cs h=>?_⟩;·obtain rfl:=h;rfl
   ·obtain⟨rfl,rfl⟩:=h;exact⟨rfl,rfl⟩
 |.str,x,f,c,y,u,e,hc=>by
  have e:cond (Nat.beq f 0) (kB [c]) none=some y:=e;cases hq:Nat.beq f 0;·rw[hq]at e;cases e
  ·rw[hq]at e;obtain rfl:=Nat.eq_of_beq_eq_true hq;have:=l5 e;injection this with this;subst this;obtain rfl:u=_:=hc;refine⟨Nat.one_pos,rfl,λS w1 cs h=>?_,λl w1 cs h=>?_⟩;·obtain rfl:=h;rfl
   ·obtain⟨rfl,rfl⟩:=h;exact⟨rfl,rfl⟩
 |.sl _ _,_,_,_,_,_,e,_=>by cases e
 |.pair t1 t2,x,f,c,y,u,e,hc=>by
  have e:cond (Nat.blt f t1.nc) (match ne t1 x.1 f c with|some y=>some (y,x.2)|none=>none) (match ne t2 x.2 (f-t1.nc) c with|some y=>some (x.1,y)|none=>none)=some y:=e;cases hq:Nat.blt f t1.nc
  ·rw[hq]at e;simp only[cond_false]at e;split at e
   ·rename_i z hz;injection e with e;subst e;have hq':¬ f<t1.nc:=by intro hlt;rw[show Nat.blt f t1.nc=true from by simpa using hlt]at hq;cases hq
    obtain⟨h1,h2,h3,h4⟩:=vq hz hc;have key:∀(c1 c2:List Value),c1.length=t1.nc->dm (c1++c2) f [u]=c1++dm c2 (f-t1.nc) [u]:=by
     intro c1 c2 hl;have e1:f=c1.length+(f-t1.nc):=by omega
     unfold dm;conv=>lhs;rw[e1]
     rw[List.take_length_add_append,Nat.add_assoc,List.drop_length_add_append];simp
    refine⟨by simp only[Ty.nc];omega,h2,λS w1 cs h=>?_,λl w1 cs h=>?_⟩;·obtain⟨c1,c2,rfl,k1,k2⟩:=h;rw[key c1 c2 k1.len];exact⟨c1,_,rfl,k1,h3 S w1 c2 k2⟩
    ·obtain⟨c1,c2,L1,L2,rfl,rfl,k1,k2⟩:=h;rw[key c1 c2 k1.len];exact⟨c1,_,L1,L2,rfl,rfl,k1,h4 _ w1 c2 k2⟩
   ·cases e
  ·rw[hq]at e;simp only[cond_true]at e;have hlt:f<t1.nc:=by simpa using hq
   split at e
   ·rename_i z hz;injection e with e;subst e;obtain⟨h1,h2,h3,h4⟩:=vq hz hc;have key:∀(c1 c2:List Value),c1.length=t1.nc->dm (c1++c2) f [u]=dm c1 f [u]++c2:=by intro c1 c2 hl;unfold dm;simp only[List.length_cons,List.length_nil];rw[List.take_append_of_le_length (by omega),List.drop_append_of_le_length (by omega)];simp
    refine⟨by simp only[Ty.nc];omega,h2,λS w1 cs h=>?_,λl w1 cs h=>?_⟩;·obtain⟨c1,c2,rfl,k1,k2⟩:=h;rw[key c1 c2 k1.len];exact⟨_,c2,rfl,h3 S w1 c1 k1,k2⟩
    ·obtain⟨c1,c2,L1,L2,rfl,rfl,k1,k2⟩:=h;rw[key c1 c2 k1.len];exact⟨_,c2,L1,L2,rfl,rfl,h4 _ w1 c1 k1,k2⟩
   ·cases e
end
def vr{α:Type}:∀(s:Ask α) (w:World),w.drawn<=(w.ask s).2.drawn
 |.done a,w=>Nat.le_refl _
 |.ask what range k,w=>by
  unfold World.ask;simp only;split;·exact vr (k 0) w
  ·exact Nat.le_trans (Nat.le_succ _) (vr (k _) { w with drawn:=w.drawn+1 })
def H5(w:World)(c:Sys):w.drawn<=(w.sys c).2.drawn:=by
 have h:=vr (Kernel.perform c w.os) w;unfold World.sys;split;·exact Nat.le_refl _
 ·rename_i hq;rw[hq]at h;exact h
def H6{P:Program}{w:World}{a:Addr}{v:Value}{b:Bool}{r:World×List Addr}(h:w.farStore P a v b=.ok r):r.1.drawn=w.drawn:=by
 unfold World.farStore at h;split at h
 ·split at h
  ·rename_i r' hr;injection h with h;subst h;unfold World.viewStore at hr;simp only[bind,Except.bind,pure,Except.pure]at hr;repeat' split at hr
   all_goals first | (injection hr with hr;subst hr;rfl)|cases hr
  ·cases h
 ·cases h
def eS{P:Program}{α:Type}:∀(s:Sem α) {w w':World}{v:α},s.run P w=.ok v w'->w.drawn<=w'.drawn
 |.pure a,w,w',v,h=>by injection h with _ h;rw[h];exact Nat.le_refl _
 |.load m a k,w,w',v,h=>by
  simp only[Sem.run]at h;split at h;·exact eS _ h
  ·split at h;·exact eS _ h
   ·cases h
 |.store m a u k,w,w',v,h=>by
  have key:(match w.cell? a with
   | some _ => if w.frozen? a then .halt (.unsupported (.unsafePointer "a write to bytes that a string shares")) w else k.run P (w.setCell a u)
   |none=>match w.farStore P a u (m == .atomic)with
    |.ok (w,_)=>k.run P w
    |.error h=>.halt h w)=Result.ok v w':=by
   cases u<;>first|exact h|cases h
  split at key
  ·split at key;·cases key
   ·exact eS k (w:=w.setCell a u) key
  ·split at key;·rename_i hq;have:=H6 hq;have h2:=eS k key;simp only at this;omega
   ·cases key
 |.new o k,w,w',v,h=>eS (k w.heap.size) (w:={ w with heap:=w.heap.push o }) h
 |.shape r k,w,w',v,h=>eS (k (w.shape? r)) (w:=w) h
 |.freeze a n k,w,w',v,h=>by
  have:=eS k (w:=w.freeze a n) h;have e:(w.freeze a n).drawn=w.drawn:=by unfold World.freeze;repeat' split<;>rfl
  omega
 |.frozen a k,w,w',v,h=>eS (k (w.frozen? a)) (w:=w) h
 |.getObj r k,w,w',v,h=>by
  simp only[Sem.run]at h;split at h;·cases h
  ·exact eS _ h
  ·cases h
 |.setObj r o k,w,w',v,h=>by
  simp only[Sem.run]at h;split at h;·cases h
  ·exact eS k (w:={ w with heap:=w.heap.setIfInBounds r o }) h
  ·cases h
 |.choose q k,w,w',v,h=>by
  simp only[Sem.run]at h;split at h;·exact eS _ h
  ·exact Nat.le_trans (Nat.le_succ _) (eS _ (w:={ w with drawn:=w.drawn+1 }) h)
 |.sys c k,w,w',v,h=>by simp only[Sem.run]at h;exact Nat.le_trans (H5 w c) (eS _ h)
 |.program k,w,w',v,h=>eS (k P) (w:=w) h
 |.mark m k,w,w',v,h=>eS k (w:=w) h
 |.halt e,w,w',v,h=>by cases h
end Go.Fw
namespace Go.Fw
open Go.RowKit
section
variable {P : Program} {V V' : St} {E E' : aM} {w w' : World} {w0 : World} {lab0 : Nat → ay} {oo : Nat → Value} {n : Nat} {a : Act} [DC]
def jR{lab:Nat->ay}{q r k:Nat}(h:dr lab q k)(h':dr lab r k):q=r:=by
 rcases h with h|h<;>rcases h' with h'|h'<;>rw[h]at h'<;>first|cases h' | (injection h')
 all_goals rfl
def R.absorbs{p:Option Nat}:∀{qs:List Nat}{V V':St}{E:aM},R w0 lab0 oo n V E a w->Fw.absorbs p qs V=some V'->(∀r,p=some r->r∉qs) ->
  ∃lab',R w0 lab0 oo n V' { E with lab:=lab' } a w/\(∀k q,q∈qs->dr E.lab q k->lab' k=bh p)/\(∀k,(∀q∈qs,¬ dr E.lab q k)->lab' k=E.lab k)/\(∀r,r∉qs->V'.row r=V.row r) /\
   (∀q∈qs,∃row,V.row q=some row)
 |[],V,V',E,h,hs,_=>by simp only[Fw.absorbs,Option.some.injEq]at hs;subst hs;exact⟨E.lab,h,λ_ _ h=>by simp at h,λ_ _=>rfl,λ_ _=>rfl,λ_ h=>by simp at h⟩
 |q::qs,V,V',E,h,hs,hp=>by
  simp only[Fw.absorbs]at hs;split at hs
  ·rename_i σ1 h1;obtain⟨g,row,hrow,_,e1⟩:=h.absorb h1;obtain⟨lab',k1,k2,k3,k4,k5⟩:=R.absorbs g hs (λr hr hm=>hp r hr (by simp[hm]));have hrow1:∀r,r≠q->σ1.row r=V.row r:=λr hr=>by rw[e1];exact ba _ _ hr
   refine⟨lab',k1,λk r hr ho=>?_,λk hk=>?_,λr hr=>?_,λr hr=>?_⟩
   ·rcases List.mem_cons.1 hr with rfl|hr
    ·have e2:cK E.lab r p k=bh p:=jQ ho;rw[k3 k (λq' hq' hof=>?_)];·exact e2
     ·have hof':cK E.lab r p k=.row q'\/cK E.lab r p k=.inn q':=hof;rw[e2]at hof';cases p with
      |none=>rcases hof' with hof'|hof'<;>cases hof'
      |some z =>
       rcases hof' with hof'|hof';·cases hof'
       ·injection hof' with hof';subst hof';exact hp z rfl (by simp[hq'])
    ·by_cases hq:dr E.lab q k
     ·have:=jR hq ho;subst this;by_cases hqq:q∈qs
      · -- q was absorbed fN: no such row any more
       obtain⟨row',hr'⟩:=k5 q hqq;rw[e1]at hr';have:am V.row q none q=some row':=hr';rw[aU]at this;cases this
      ·exact absurd hr hqq
     ·refine k2 k r hr ?_;have:cK E.lab q p k=E.lab k:=gh (λe=>hq (.inl e)) (λe=>hq (.inr e));unfold dr;show cK E.lab q p k=_\/cK E.lab q p k=_;rw[this];exact ho
   ·have hq:=hk q (by simp);have:cK E.lab q p k=E.lab k:=gh (λe=>hq (.inl e)) (λe=>hq (.inr e));rw[k3 k (λq' hq' hof=>?_)];·exact this
    ·have hof':cK E.lab q p k=.row q'\/cK E.lab q p k=.inn q':=hof;rw[this]at hof';exact hk q' (by simp[hq']) hof'
   ·simp only[List.mem_cons,not_or]at hr;rw[k4 r hr.2,hrow1 r hr.1]
   ·rcases List.mem_cons.1 hr with rfl|hr;·exact⟨row,hrow⟩
    ·obtain⟨row',hr'⟩:=k5 r hr;by_cases e:r=q;·subst e;exact⟨row,hrow⟩
     ·exact⟨row',by rw[<-hrow1 r e];exact hr'⟩
  ·cases hs
def rR(w:World)(lab:Nat->ay)(r:Nat)(deep:Bool)(t:Ty)(css:List (List Value))(ys:List t.den):Prop :=
 cond deep (∃Ls:List (List Nat),aP (λl c y=>aE w t l c y) Ls css ys/\Ls.flatten.Nodup/\∀k∈Ls.flatten,lab k=.inn r) (ai (λc y=>Rd w (λk=>lab k=.st) t c y) css ys)
def rR.lens{lab:Nat->ay}{r:Nat}{deep:Bool}{t:Ty}{css:List (List Value)}{ys:List t.den}(h:rR w lab r deep t css ys):(∀b∈css,b.length=t.nc)/\css.length=ys.length/\∀b∈css,∀u∈b,u.oneCell'=true:=by
 cases deep
 ·have h':ai (λc y=>Rd w (λk=>lab k=.st) t c y) css ys:=h;refine⟨ai.fst (len:=List.length) (λ_ _ h=>Rd.len h) h',h'.len, ?_⟩;have:=ai.fst (len:=λc:List Value=>if ∀u∈c,u.oneCell'=true then 0 else 1) (n:=0) (λc y h=>if_pos (Rd.one h)) h';intro b hb;have:=this b hb;by_cases hq:∀u∈b,u.oneCell'=true;·exact hq
  ·rw[if_neg hq]at this;cases this
 ·obtain⟨Ls,h',_⟩:=h;refine⟨aP.mid (len:=List.length) (λ_ _ _ h=>aE.len h) h',h'.len2, ?_⟩;have:=aP.mid (len:=λc:List Value=>if ∀u∈c,u.oneCell'=true then 0 else 1) (n:=0) (λl c y h=>if_pos (aE.one h)) h';intro b hb;have:=this b hb;by_cases hq:∀u∈b,u.oneCell'=true;·exact hq
  ·rw[if_neg hq]at this;cases this
def nn{α:Type}{m:Nat}:∀{css:List (List α)},(∀c∈css,c.length=m)->css.flatten.length=css.length*m
 |[],_=>by simp
 |c::css,h=>by rw[List.flatten_cons,List.length_append,h c (by simp),nn (λc hc=>h c (by simp[hc])),List.length_cons,Nat.succ_mul];omega
def H7{t e:TypeId}{ty:TypeId}{i:TypeInfo}{z:Value}{size bytes:Nat}(ht:P.underlying t=some (.slice e))(hi:P.info? e=some i)(hz:i.zero=some z)(hsize:i.size=size)(hby:i.bytes=bytes)(hzs:z.cells.size=size)(hsz:0<size)
  {v:Value}{m:Nat}{xs:List Value} (hown:w.ownsRow 0 e size v m xs) {A:Option Addr}{k c:Nat}{news:List Value} (hl:news.length=k*size) (hA:k=0\/∃ad,A=some ad/\∀(j:Nat) (u:Value),news[j]? = some u->w.cell? (ad.add j)=some u) (h1:∀u∈news,u.oneCell'=true)
  (h63:m+k<=maxLen) (hbytes:(m+k)*bytes<=140737488355328) :
  ∃v' w',(Builtin.append_ #[t,t] ty #[v,.slice A k c]).run P w=.ok v' w'/\w'.ownsRow 0 e size v' (m+k) (xs++news)/\w.grownBy w' v.ownBlock/\(v'.ownBlock=v.ownBlock\/v'.ownBlock=some w.heap.size)/\(m+k=0->v=.slice none 0 0->v'=.slice none 0 0):=by
 by_cases hk:k=0;·subst hk;have hn:news=[]:=List.eq_nil_of_length_eq_zero (by omega);subst hn;obtain⟨A',c',rfl,hc1,hc2⟩:=gM hown;refine⟨.slice A' m c',w, ?_,by simpa using hown,⟨rfl,rfl,rfl,Nat.le_refl _,λ_ _ _=>rfl⟩,.inl rfl,λ_ h=>h⟩;cases A<;>cases A'<;>simp[Builtin.append_,run_underlying ht,sizeOf,typeInfo,hi,Builtin.lenOf,Builtin.firstCells,hc1,loadCells,loadCellsFrom,storeCells]
 ·rcases hA with hA|⟨ad,rfl,hA⟩;·exact absurd hA hk
  ·obtain⟨v',w',r1,r2,r3,r4,r5⟩:=run_append_own_at (P:=P) w 0 t ty e i z size bytes ht hi hz hsize hby hzs hsz v m xs hown ad k c news hl hA h1 h63 hbytes (Nat.zero_le _);exact⟨v',w',r1,r2,r3,r5,λh=>by omega⟩
def aj.kill{r:Nat}(hrow:∀q,q≠r->∀row,V.row q=some row->V'.row q=some row/\E'.rv q=E.rv q)
  (hbox:∀b te cs,V.box b=some (te,cs)->E'.bb b=E.bb b/\∃cs',V'.box b=some (te,cs')/\cs'.length=cs.length)
  (cell:∀(p:Option Nat) (ad:Addr) (u:Value),E.lab ad.block=bh p->w.cell? ad=some u->E'.lab ad.block=bh p/\w'.cell? ad=some u)
  (rd:∀(p:Option Nat) (t:Ty) (cs:List Value) (x:t.den),Rd w (λk=>E.lab k=bh p) t cs x->Rd w' (λk=>E'.lab k=bh p) t cs x) :
  ∀{c:af}{v:Value},aj V E w c v->aj V' E' w' (dG r c) v
 |.undef,_,_=>trivial
 |.int _ _,_,h=>h
 |.bool _,_,h=>h
 |.str _,_,h=>h
 |.err _,_,h=>h
 |.bor _ _ _ _,_,h=>⟨h.1,rd none _ _ _ h.2⟩
 |.nil,_,h=>h
 |.sn e t xs p,v,h=>rd p _ _ _ h
 |.full e t xs p,v,h=>⟨rd p _ _ _ h.1,h.2⟩
 |.own q,v,h=>by
  by_cases e:q=r;·subst e;simp only[dG,jj,cond_true];trivial
  ·simp only[dG,kD e,cond_false];obtain⟨rfl,h,hv⟩:=h;obtain⟨row,hr⟩:=Option.isSome_iff_exists.1 h;obtain⟨g1,g2⟩:=hrow q e row hr;exact⟨g2.symm,by rw[g1];rfl,hv⟩
 |.part q lo m,v,h=>by
  by_cases e:q=r;·subst e;simp only[dG,jj,cond_true];trivial
  ·simp only[dG,kD e,cond_false];obtain⟨row,A,c,h1,h2,h3,h4,h5,h6,h7,h8⟩:=h;obtain⟨g1,g2⟩:=hrow q e row h1;exact⟨row,A,c,g1,h2,h3,h4,h5,h6,h7,by rw[g2];exact h8⟩
 |.box b f,v,h=>by obtain⟨rfl,te,cs,h1,h2⟩:=h;obtain⟨g1,cs',g2,g3⟩:=hbox b te cs h1;exact⟨by rw[g1],te,cs',g2,by omega⟩
 |.mp b,v,h=>by obtain⟨rfl,te,cs,h1⟩:=h;obtain⟨g1,cs',g2,_⟩:=hbox b te cs h1;exact⟨by rw[g1],te,cs',g2⟩
 |.mset _ _,_,h=>h
 |.elt q i f,v,h=>by
  by_cases e:q=r;·subst e;simp only[dG,jj,cond_true];trivial
  ·simp only[dG,kD e,cond_false];obtain⟨row,g,m,c,h1,h2,h3⟩:=h;obtain⟨g1,g2⟩:=hrow q e row h1;exact⟨row,g,m,c,g1,by rw[g2];exact h2,h3⟩
 |.selt t x p f,v,h=>by
  obtain⟨ad,cs,h1,h2,h3,h4,h5⟩:=h;have h0:0<cs.length:=by rw[h4.len];exact t.nc_pos
  have hc:=cell p (ad.add 0) _ (by simpa[Addr.add]using h3) (h5 0 cs[0] (by simp));refine⟨ad,cs,h1,h2,by simpa[Addr.add]using hc.1,rd p _ _ _ h4,λj u hu=>?_⟩;exact(cell p (ad.add j) u (by rw[rO];exact h3) (h5 j u hu)).2
 |.fn f caps,v,h=>by
  obtain⟨rfl,h⟩:=h;refine⟨?_,λp hp=>?_⟩;·congr 2;refine List.map_congr_left λp hp=>?_;obtain⟨te,cs,h1,_⟩:=h p hp;rw[(hbox _ _ _ h1).1]
  ·obtain⟨te,cs,h1,h2⟩:=h p hp;obtain⟨_,cs',g1,g3⟩:=hbox _ _ _ h1;exact⟨te,cs',g1,by omega⟩
def Aw{L1 L2:List Nat}(h1:L1.Nodup)(h2:L2.Nodup)(h:∀k∈L1,k∉L2):(L1++L2).Nodup :=
 List.nodup_append.2 ⟨h1,h2,λx hx y hy e=>h x hx (e▸hy)⟩
def R.append{T:bc}(hT:aX P T)(h:R w0 lab0 oo n V E a w){r:Nat}{row:ac}(hrow:V.row r=some row){t:Nat}{ti ei:TI}(ht:T t=some ti)(he:ti.el=some row.e)(hei:T row.e=some ei)(hnc:ei.zero.length=row.t.nc)(hbytes:ei.bytes<=128)
  {A:Option Addr}{k c:Nat}{css2:List (List Value)}{ys:List row.t.den} (hk:ys.length=k) (hA:k=0\/∃ad,A=some ad/\∀(j:Nat) (u:Value),css2.flatten[j]? = some u->w.cell? (ad.add j)=some u)
  (hel:rR w E.lab r row.deep row.t css2 ys) (hdisj:row.deep=true->∀Ls css,aP (λl c y=>aE w row.t l c y) Ls css row.xs->Ls.flatten.Nodup->(∀k∈Ls.flatten,E.lab k=.inn r)->w.ownsRow 0 row.e row.t.nc (E.rv r) row.xs.length css.flatten ->
   ∃Ls2,aP (λl c y=>aE w row.t l c y) Ls2 css2 ys/\(Ls++Ls2).flatten.Nodup/\∀k∈Ls2.flatten,E.lab k=.inn r)
  (hlen:row.xs.length+ys.length<1099511627776) (ty:TypeId) :
  ∃v' w' E',(Builtin.append_ #[t,t] ty #[E.rv r,.slice A k c]).run P w=.ok v' w'/\(∃A m c,v'=.slice A m c)/\v'=E'.rv r /\
   R w0 lab0 oo n { (V.mapc (dG r))with row:=am V.row r (some { row with xs:=row.xs++ys }) } E' a w':=by
 obtain⟨css,ho,hl,hd,hnil⟩:=h.rows r row hrow;obtain⟨inf,d,z,i1,i2,i3,i4,i5,i6,i7,i8⟩:=fc hT hei;have hu:=gO hT ht he;have hz:=lY (V:=V) (E:=E) (w:=w) i6;have hlens:=hel.lens;have hfl2:css2.flatten.length=k*row.t.nc:=by rw[nn hlens.1,hlens.2.1,hk]
 have h1:∀u∈css2.flatten,u.oneCell'=true:=λu hu=>by obtain⟨b,hb,hu⟩:=List.mem_flatten.1 hu;exact hlens.2.2 b hb u hu
 have hzc:z.cells.size=row.t.nc:=by rw[<-Array.length_toList,<-hz.1.len,hnc]
 have hbnd:(row.xs.length+k)*ei.bytes<=140737488355328:=by have:(row.xs.length+k)*ei.bytes<=1099511627776*128:=Nat.mul_le_mul (by omega) hbytes;omega
 obtain⟨v',w',r1,r2,r3,r4,r5⟩:=H7 (P:=P) (ty:=ty) hu i1 i5 (i3.trans hnc) i4 hzc row.t.nc_pos ho (c:=c) hfl2 hA h1 (by simp only[maxLen];omega) hbnd;let E':aM:={ lab:=λq=>if v'.ownBlock=some q then .row r else E.lab q,rv:=am E.rv r v',bb:=E.bb };let row':ac:={ row with xs:=row.xs++ys };let σ1:St:={ (V.mapc (dG r))with row:=am V.row r (some row') };have hlab:∀q,q<w.heap.size->E'.lab q=E.lab q:=λq hq=>by
  show(if v'.ownBlock=some q then ay.row r else E.lab q)=_;by_cases e:v'.ownBlock=some q
  ·rw[if_pos e];rcases r4 with r4|r4;·exact(hl q (r4▸e)).symm
   ·rw[r4]at e;injection e with e;omega
  ·rw[if_neg e]
 have hother:∀q,q<w.heap.size->E.lab q≠.row r->w'.heap[q]? = w.heap[q]?:=λq hq hn=>r3.block q hq λe=>hn (hl q e.symm);have cell:∀(p:Option Nat) (ad:Addr) (u:Value),E.lab ad.block=bh p->w.cell? ad=some u->E'.lab ad.block=bh p/\w'.cell? ad=some u:=λp ad u hp hc=>by have hlt:=World.block_lt_of_cell? w ad hc;refine⟨(hlab _ hlt).trans hp, ?_⟩;rw[World.cell?_of_block (w:=w) (hother _ hlt (by rw[hp];cases p<;>simp[bh]))];exact hc
 have rd:∀(p:Option Nat) (t:Ty) (cs:List Value) (x:t.den),Rd w (λk=>E.lab k=bh p) t cs x->Rd w' (λk=>E'.lab k=bh p) t cs x:=λp t cs x hx =>(hx.lt.frame λq hq _=>hother q hq.2 (by rw[hq.1];cases p<;>simp[bh])).mono λq hq=>(hlab q hq.2).trans hq.1;have own:∀(q:Nat) (t:Ty) (l:List Nat) (cs:List Value) (x:t.den),(∀k∈l,E.lab k=.inn q)->aE w t l cs x->aE w' t l cs x:=λq t l cs x hk hx=>hx.frame λk hk'=>hother k (hx.lt k hk') (by rw[hk k hk'];simp);have hc:∀{c:af}{v:Value},aj V E w c v->aj σ1 E' w' (dG r c) v:=aj.kill (V:=V) (V':=σ1) (E:=E) (E':=E') (w:=w) (w':=w') (r:=r)
  (λq hq row2 h2=>⟨(ba _ _ hq).trans h2,ba _ _ hq⟩)
  (λb te cs hb=>⟨rfl,cs.map (dG r),(show(V.mapc (dG r)).box b=some (te,cs.map (dG r)) by simp only[St.mapc,hb]),by simp⟩) cell rd
 refine⟨v',w',E',r1, ?_,(aU _ _ _).symm,h.bound,h.size,h.defers,λt=>(h.slots t).map hc,λb te cs hb=>?_,λq row2 hq=>?_, ?_⟩;·obtain⟨A',c',e,_⟩:=gM r2;exact⟨A',_,c',e⟩
 ·have hb':(V.mapc (dG r)).box b=some (te,cs):=hb;simp only[St.mapc]at hb';split at hb';·rename_i te' cs' hb2;injection hb' with hb';injection hb' with e1 e2;subst e1 e2;obtain⟨arr,k1,k2,k3,k4⟩:=h.boxes b _ _ hb2;have hlt:=k1.lt;exact⟨arr,(by rw[show w'.heap[E'.bb b]? = w.heap[E.bb b]? from hother _ hlt (by rw[k2];simp)];exact k1),(hlab _ hlt).trans k2,lX _ (λ_ _ h=>hc h) k3,k4⟩
  ·cases hb'
 ·by_cases e:q=r
  ·subst e;rw[show σ1.row q=some row' from aU _ _ _]at hq;injection hq with hq;subst hq;show bP w' E'.lab q row' (am E.rv q v' q);rw[aU];refine⟨css++css2, ?_,λg hg=>if_pos hg, ?_,λhn hz=>?_⟩;·show w'.ownsRow 0 row.e row.t.nc v' (row.xs++ys).length (css++css2).flatten;rw[List.length_append,List.flatten_append,hk];exact r2
   ·show cond row.deep _ _;cases hdp:row.deep;·rw[hdp]at hd hel;have hd':ai (λc y=>Rd w (λk=>E.lab k=.st) row.t c y) css row.xs:=hd;have hel':ai (λc y=>Rd w (λk=>E.lab k=.st) row.t c y) css2 ys:=hel;exact(hd'.app hel').imp λ_ _ h=>rd none _ _ _ h
    ·rw[hdp]at hd;obtain⟨Ls,k1,k2,k3⟩:=hd;obtain⟨Ls2,j1,j2,j3⟩:=hdisj hdp Ls css k1 k2 k3 ho;have hall:∀k∈(Ls++Ls2).flatten,E.lab k=.inn q:=λk hk=>by
      rw[List.flatten_append]at hk;rcases List.mem_append.1 hk with hk|hk;·exact k3 k hk
      ·exact j3 k hk
     have happ:=k1.app j1;refine⟨Ls++Ls2,happ.imp_mem λl c y hl' ho'=>own q _ _ _ _ (λk hk=>hall k (List.mem_flatten.2 ⟨l,hl',hk⟩)) ho',j2,λk hk=>?_⟩;have hlt:k<w.heap.size:=by obtain⟨l,hl',hk'⟩:=List.mem_flatten.1 hk;have:aP (λ(l:List Nat) (_:List Value) (_:row.t.den)=>∀k∈l,k<w.heap.size) (Ls++Ls2) (css++css2) (row.xs++ys):=happ.imp λ_ _ _ ho=>ho.lt;exact jM this l hl' k hk'
     exact(hlab k hlt).trans (hall k hk)
   ·have hz':(row.xs++ys).length=0:=hz;rw[List.length_append]at hz';exact r5 (by omega) (hnil hn (by omega))
  ·have hq':V.row q=some row2:=(ba _ _ e).symm.trans hq;show bP w' E'.lab q row2 (am E.rv r v' q);rw[ba _ _ e];obtain⟨cs2,k1,k2,k3,k4⟩:=h.rows q row2 hq';have hlt:∀g,(E.rv q).ownBlock=some g->g<w.heap.size:=λg hg=>(k1.lt g hg).2;refine⟨cs2,lO (λg hg=>hother g (hlt g hg) (by rw[k2 g hg];simpa using e)) k1,λg hg=>(hlab g (hlt g hg)).trans (k2 g hg), ?_,k4⟩;cases hdp:row2.deep;·rw[hdp]at k3;exact ai.imp (λ_ _ h=>rd none _ _ _ h) (show ai (λc y=>Rd w (λk=>E.lab k=.st) row2.t c y) cs2 row2.xs from k3)
   ·rw[hdp]at k3;obtain⟨Ls,j1,j2,j3⟩:=k3;refine⟨Ls,j1.imp_mem λl c y hl' ho'=>own q _ _ _ _ (λk hk=>j3 k (List.mem_flatten.2 ⟨l,hl',hk⟩)) ho',j2,λk hk=>?_⟩;have hlt:k<w.heap.size:=by obtain⟨l,hl',hk'⟩:=List.mem_flatten.1 hk;have:aP (λ(l:List Nat) (_:List Value) (_:row2.t.den)=>∀k∈l,k<w.heap.size) Ls cs2 row2.xs:=j1.imp λ_ _ _ ho=>ho.lt;exact jM this l hl' k hk'
    exact(hlab k hlt).trans (j3 k hk)
 ·refine⟨r3.os.trans h.same.os,(Tp.mk r3.tape (λ_=>eS _ r1)).trans h.same.tape,r3.output.trans h.same.output,Nat.le_trans h.same.size r3.size,λq hq hl0=>?_,λq hq hl0=>?_⟩;·have:=h.same.old q hq hl0;have hlt:=Nat.lt_of_lt_of_le hq h.same.size;exact⟨(hlab q hlt).trans this.1,by rw[hother q hlt (by rw[this.1];simp)];exact this.2⟩
  ·have:=h.same.gone q hq hl0;have hlt:=Nat.lt_of_lt_of_le hq h.same.size;exact⟨(hlab q hlt).trans this.1,by rw[hother q hlt (by rw[this.1];simp)];exact this.2⟩
end
end Go.Fw
namespace Go.Fw
open Go.RowKit
def H8{α:Type}{l:List α}{n j i:Nat}(hj:j<n)(hi:i<l.length):((List.replicate n l).flatten)[j*l.length+i]? = l[i]?:=by obtain⟨c,h1,h2,h3⟩:=ai.flat (R:=λ(c:List α) (y:Unit)=>c=l) (n:=l.length) (λc y h=>by rw[h]) (css:=List.replicate n l) (xs:=List.replicate n ()) (ai.rep (R:=λ(c:List α) (y:Unit)=>c=l) rfl n) (j:=j) (y:=()) (by rw[List.getElem?_replicate,if_pos hj]);subst h2;rw[h3 i _ (List.getElem?_eq_getElem hi),List.getElem?_eq_getElem hi]
def Ax(z:Array Value)(n:Nat)(hz:0<z.size):(madeCells z (n*z.size)).toList=(List.replicate n z.toList).flatten:=by
 have hl:(List.replicate n z.toList).flatten.length=n*z.size:=by rw[nn (m:=z.size) (λc hc=>by rw[(List.mem_replicate.1 hc).2,Array.length_toList]),List.length_replicate]
 apply List.ext_getElem?;intro k;by_cases hk:k<n*z.size
 ·have hd:k / z.size<n:=Nat.div_lt_of_lt_mul (by rwa [Nat.mul_comm]);have hm:k%z.size<z.toList.length:=by rw[Array.length_toList];exact Nat.mod_lt _ hz
  have e:=H8 (l:=z.toList) hd hm;rw[Array.length_toList,Nat.mul_comm,Nat.div_add_mod]at e;rw[e];have hm':k%z.size<z.size:=Nat.mod_lt _ hz;simp[madeCells,hk,hm']
 ·rw[List.getElem?_eq_none (by simp[madeCells];omega),List.getElem?_eq_none (by omega)]
section
variable {P : Program} {V V' : St} {E E' : aM} {w w' : World} {w0 : World} {lab0 : Nat → ay} {oo : Nat → Value} {n : Nat} {a : Act} [DC]
def aP.rep{α β γ:Type}{Q:α->β->γ->Prop}{x:α}{b:β}{y:γ}(h:Q x b y):∀m,aP Q (List.replicate m x) (List.replicate m b) (List.replicate m y)
 |0=>trivial
 |m+1=>⟨h,aP.rep h m⟩
def R.make{T:bc}(hT:aX P T)(h:R w0 lab0 oo n V E a w){t e:Nat}{ti ei:TI}(ht:T t=some ti)(he:ti.el=some e)(hei:T e=some ei)(hnc:ei.zero.length=ei.ty.nc)(hbytes:ei.bytes<=128)
  {z:ei.ty.den} (hz:dk (λ_=>none) ei.ty ei.zero=some z) (ho:aF ei.zero=[]) {m:Int} (h0:0<=m) (hm:m<1099511627776) (k:IntKind) {d r:Nat} (hd:d<n) (hfree:V.row r=none) :
  ∃v w' E',(Instr.makeSlice t (.int k m) (.int k m)).run P w=.ok v w'/\bL w w' /\
   R w0 lab0 oo n { slot:=am V.slot d (.c (.own r)),box:=V.box,row:=am V.row r (some ⟨e,ei.ty,List.replicate m.toNat z,true,false⟩) } E' (a.put (some d) v) w':=by
 obtain⟨inf,dd,zv,i1,i2,i3,i4,i5,i6,i7,i8⟩:=fc hT hei;have hu:=gO hT ht he;have hzr:=lY (V:=V) (E:=E) (w:=w) i6;have hown:=H4 hz hzr.1 ho;have hzs:zv.cells.size=ei.ty.nc:=by rw[<-Array.length_toList,<-hzr.1.len,hnc]
 have hb:(inf.bytes:Int)*m<=281474976710656:=by rw[i4];have:(ei.bytes:Int)*m<=128*1099511627776:=Int.mul_le_mul (by omega) (by omega) h0 (by omega);omega
 have hr:=run_make (P:=P) w t e inf zv hu i1 i5 k k m m h0 (Int.le_refl _) hb (by omega);rw[i3,hnc,<-hzs]at hr;have hw:∀lab',(∀k,k<w.heap.size->lab' k=E.lab k)->lab' w.heap.size=.row r ->
   bP (w.alloc (.cells (madeCells zv.cells (m.toNat*zv.cells.size)) e)) lab' r ⟨e,ei.ty,List.replicate m.toNat z,true,false⟩ (.slice (some ⟨w.heap.size,0,none⟩) m.toNat m.toNat):=by
  intro lab' hl hl';refine⟨List.replicate m.toNat zv.cells.toList, ?_,λk hk=>?_,⟨List.replicate m.toNat [],aP.rep (hown _) _, ?_,λk hk=>?_⟩,λhq=>by cases hq⟩;·have:=World.ownsRow_lit (base:=0) (e:=e) (size:=ei.ty.nc) w (madeCells zv.cells (m.toNat*zv.cells.size)) m.toNat (Nat.zero_le _) (by simp only[maxLen];omega) (by rw[size_madeCells,hzs]);rw[Ax _ _ (by rw[hzs];exact ei.ty.nc_pos)]at this;show World.ownsRow _ 0 e ei.ty.nc _ (List.replicate m.toNat z).length _;rw[List.length_replicate];exact this
  ·have:w.heap.size=k:=by simpa[Value.ownBlock]using hk
   rw[<-this];exact hl'
  ·have:(List.replicate m.toNat ([]:List Nat)).flatten=[]:=by rw[List.flatten_eq_nil_iff];exact λl hl=>(List.mem_replicate.1 hl).2
   rw[this];exact List.nodup_nil
  ·obtain⟨l,hl,hk⟩:=List.mem_flatten.1 hk;rw[(List.mem_replicate.1 hl).2]at hk;simp at hk
 obtain⟨E',g⟩:=h.newRow (d:=d) (r:=r) (row:=⟨e,ei.ty,List.replicate m.toNat z,true,false⟩) (arr:=madeCells zv.cells (m.toNat*zv.cells.size)) (v:=.slice (some ⟨w.heap.size,0,none⟩) m.toNat m.toNat) hd hfree hw ⟨_,_,_,rfl⟩;exact⟨_,_,E',hr,⟨rfl,⟨rfl,λ_=>Nat.le_refl _⟩,rfl,by simp,lV _⟩,g⟩
def Ay(h:R w0 lab0 oo n V E a w){t:Ty}:∀{ccs:List (List af)}{css:List (List Value)}{ys:List t.den},ni V.row t ccs=some ys->ai (ai (aj V E w)) ccs css->(aF ccs.flatten).Nodup ->
  ∃Ls:List (List Nat),aP (λl c y=>aE w t l c y) Ls css ys/\Ls.flatten.Nodup/\∀k∈Ls.flatten,∃q∈aF ccs.flatten,dr E.lab q k
 |[],[],ys,e,_,_=>by simp only[ni,Option.some.injEq]at e;subst e;exact⟨[],trivial,List.nodup_nil,λk hk=>by simp at hk⟩
 |[],_::_,_,_,h,_=>h.elim
 |_::_,[],_,_,h,_=>h.elim
 |cc::ccs,cs::css,ys,e,hc,hn=>by
  simp only[ni]at e;split at e
  ·rename_i y ys' e1 e2;injection e with e;subst e;rw[List.flatten_cons,gj]at hn;have hn':=List.nodup_append.1 hn;obtain⟨L,j1,j2,j3⟩:=gl h e1 hc.1 hn'.1;obtain⟨Ls,k1,k2,k3⟩:=Ay h e2 hc.2 hn'.2.1;refine⟨L::Ls,⟨j1,k1⟩, ?_,λk hk=>?_⟩;·rw[List.flatten_cons];refine List.nodup_append.2 ⟨j2,k2,λx hx z hz e=>?_⟩;subst e;obtain⟨q,hq,hq'⟩:=j3 x hx;obtain⟨r,hr,hr'⟩:=k3 x hz;have:=jR hq' hr';subst this;exact hn'.2.2 q hq q hr rfl
   ·rw[List.flatten_cons,gj];rw[List.flatten_cons]at hk;rcases List.mem_append.1 hk with hk|hk;·obtain⟨q,hq,hq'⟩:=j3 k hk;exact⟨q,List.mem_append.2 (.inl hq),hq'⟩
    ·obtain⟨q,hq,hq'⟩:=k3 k hk;exact⟨q,List.mem_append.2 (.inr hq),hq'⟩
  ·cases e
def Az{t:Ty}:∀{ccs:List (List af)}{css:List (List Value)}{ys:List t.den},nj t ccs=some ys->ai (ai (aj V E w)) ccs css ->
  ai (λc y=>Rd w (λk=>E.lab k=.st) t c y) css ys
 |[],[],ys,e,_=>by simp only[nj,Option.some.injEq]at e;subst e;exact trivial
 |[],_::_,_,_,h=>h.elim
 |_::_,[],_,_,h=>h.elim
 |cc::ccs,cs::css,ys,e,hc=>by
  simp only[nj]at e;split at e;·rename_i y ys' e1 e2;injection e with e;subst e;exact⟨pf e1 hc.1,Az e2 hc.2⟩
  ·cases e
def R.litD(h:R w0 lab0 oo n V E a w){d r e:Nat}{t:Ty}{ccs:List (List af)}{arr:Array Value}{ys:List t.den}{σ1:St}(hd:d<n)
  (hp:ni V.row t ccs=some ys) (hc:ai (ai (aj V E w)) ccs (d6 t.nc ccs.length arr.toList)) (hsz:arr.size=ccs.length*t.nc) (hlen:ccs.length<1099511627776)
  (hn:(aF ccs.flatten).Nodup) (hr:r∉aF ccs.flatten) (hab:Fw.absorbs (some r) (aF ccs.flatten) V=some σ1) (hfree:σ1.row r=none) :
  ∃E',R w0 lab0 oo n { slot:=am σ1.slot d (.c (.own r)),box:=σ1.box,row:=am σ1.row r (some ⟨e,t,ys,true,false⟩) } E' (a.put (some d) (.slice (some ⟨w.heap.size,0,none⟩) ccs.length ccs.length)) (w.alloc (.cells arr e)):=by
 obtain⟨Ls,k1,k2,k3⟩:=Ay h hp hc hn;obtain⟨lab',g,g1,g2,g3,g4⟩:=h.absorbs hab (λq hq=>by injection hq with hq;subst hq;exact hr);have hlen':=k1.len2;have hcl:(d6 t.nc ccs.length arr.toList).flatten=arr.toList:=vn (by rw[Array.length_toList];exact hsz);have hyl:ys.length=ccs.length:=by rw[<-k1.len2];exact hc.len.symm
 refine g.newRow (d:=d) (r:=r) (row:=⟨e,t,ys,true,false⟩) hd hfree (λlab2 hl hl'=>?_) ⟨_,_,_,rfl⟩;have hLlt:∀k∈Ls.flatten,k<w.heap.size:=λk hk=>by obtain⟨l,hl,hk⟩:=List.mem_flatten.1 hk;have:aP (λ(l:List Nat) (_:List Value) (_:t.den)=>∀k∈l,k<w.heap.size) Ls _ ys:=k1.imp λ_ _ _ ho=>ho.lt;exact jM this l hl k hk
 refine⟨d6 t.nc ccs.length arr.toList, ?_,λk hk=>?_,⟨Ls,k1.imp λ_ _ _ ho=>ho.frame λk hk=>lV _ k (ho.lt k hk),k2,λk hk=>?_⟩,λhq=>by cases hq⟩;·have:=World.ownsRow_lit (base:=0) (e:=e) (size:=t.nc) w arr ccs.length (Nat.zero_le _) (by simp only[maxLen];omega) hsz;rw[hcl];show World.ownsRow _ 0 e t.nc _ ys.length _;rw[hyl];exact this
 ·have:w.heap.size=k:=by simpa[Value.ownBlock]using hk
  rw[<-this];exact hl'
 ·obtain⟨q,hq,hq'⟩:=k3 k hk;rw[hl k (hLlt k hk)];exact g1 k q hq hq'
def R.litS(h:R w0 lab0 oo n V E a w){d r e:Nat}{t:Ty}{ccs:List (List af)}{arr:Array Value}{ys:List t.den}(hd:d<n)
  (hp:nj t ccs=some ys) (hc:ai (ai (aj V E w)) ccs (d6 t.nc ccs.length arr.toList)) (hsz:arr.size=ccs.length*t.nc) (hlen:ccs.length<1099511627776) (hfree:V.row r=none) :
  ∃E',R w0 lab0 oo n { slot:=am V.slot d (.c (.own r)),box:=V.box,row:=am V.row r (some ⟨e,t,ys,false,false⟩) } E' (a.put (some d) (.slice (some ⟨w.heap.size,0,none⟩) ccs.length ccs.length)) (w.alloc (.cells arr e)):=by
 have k1:=Az hp hc;have hcl:(d6 t.nc ccs.length arr.toList).flatten=arr.toList:=vn (by rw[Array.length_toList];exact hsz);have hyl:ys.length=ccs.length:=by rw[<-k1.len];exact hc.len.symm
 refine h.newRow (d:=d) (r:=r) (row:=⟨e,t,ys,false,false⟩) hd hfree (λlab2 hl hl'=>?_) ⟨_,_,_,rfl⟩;refine⟨d6 t.nc ccs.length arr.toList, ?_,λk hk=>?_, ?_,λhq=>by cases hq⟩;·have:=World.ownsRow_lit (base:=0) (e:=e) (size:=t.nc) w arr ccs.length (Nat.zero_le _) (by simp only[maxLen];omega) hsz;rw[hcl];show World.ownsRow _ 0 e t.nc _ ys.length _;rw[hyl];exact this
 ·have:w.heap.size=k:=by simpa[Value.ownBlock]using hk
  rw[<-this];exact hl'
 ·exact ai.imp (λ_ _ h=>((h.lt.frame λk hk _=>lV _ k hk.2)).mono λk hk=>(hl k hk.2).trans hk.1) k1
end
def vt{α:Type}{m:Nat}(hm:0<m):∀{css css':List (List α)},(∀c∈css,c.length=m)->(∀c∈css',c.length=m)->css.flatten=css'.flatten->css=css'
 |[],[],_,_,_=>rfl
 |[],c::css',_,h',e=>by have:=congrArg List.length e;rw[List.flatten_cons,List.length_append,h' c (by simp)]at this;simp at this;omega
 |c::css,[],h,_,e=>by have:=congrArg List.length e;rw[List.flatten_cons,List.length_append,h c (by simp)]at this;simp at this;omega
 |c::css,c'::css',h,h',e=>by
  simp only[List.flatten_cons]at e;have hl:c.length=c'.length:=by rw[h c (by simp),h' c' (by simp)]
  obtain⟨e1,e2⟩:=List.append_inj e hl;rw[e1,vt hm (λc hc=>h c (by simp[hc])) (λc hc=>h' c (by simp[hc])) e2]
def AA{w:World}{e:TypeId}{size m:Nat}{v:Value}{xs xs':List Value}(h:w.ownsRow 0 e size v m xs)(h':w.ownsRow 0 e size v m xs'):xs=xs':=by
 rcases h.2 with⟨rfl,rfl⟩|⟨g,cap,cur,rfl,_,k2,_,_,_,k6⟩;·have a:=h.1;have b:=h'.1;simp only[Nat.zero_mul]at a b;rw[List.eq_nil_of_length_eq_zero a,List.eq_nil_of_length_eq_zero b]
 ·rcases h'.2 with⟨h0,_⟩|⟨g',cap',cur',e0,_,j2,_,_,_,j6⟩;·cases h0
  ·injection e0 with e1 _ _;injection e1 with e1;injection e1 with e1;subst e1;rw[k2]at j2;injection j2 with j2;injection j2 with j2;subst j2;rw[<-k6,<-j6]
def vu{α β γ:Type}{Q:α->β->γ->Prop}(hu:∀a a' b c,Q a b c->Q a' b c->a=a'):∀{as as':List α}{bs:List β}{cs:List γ},aP Q as bs cs->aP Q as' bs cs->as=as'
 |[],[],_,_,_,_=>rfl
 |[],_::_,[],[],_,h=>h.elim
 |[],_::_,[],_::_,_,h=>h.elim
 |[],_::_,_::_,[],_,h=>h.elim
 |[],_::_,_::_,_::_,h,_=>h.elim
 |_::_,[],[],[],h,_=>h.elim
 |_::_,[],[],_::_,h,_=>h.elim
 |_::_,[],_::_,[],h,_=>h.elim
 |_::_,[],_::_,_::_,_,h=>h.elim
 |_::_,_::_,[],[],h,_=>h.elim
 |_::_,_::_,[],_::_,h,_=>h.elim
 |_::_,_::_,_::_,[],h,_=>h.elim
 |_::_,_::_,_::_,_::_,h,h'=>by rw[hu _ _ _ _ h.1 h'.1,vu hu h.2 h'.2]
def aE.uniq{w:World}:∀{t:Ty}{L L':List Nat}{cs:List Value}{x:t.den},aE w t L cs x->aE w t L' cs x->L=L'
 |.int _,_,_,_,_,h,h'=>by rw[h.2,h'.2]
 |.bool,_,_,_,_,h,h'=>by rw[h.2,h'.2]
 |.fnc _,_,_,_,_,h,h'=>by rw[h.2,h'.2]
 |.str,_,_,_,_,h,h'=>by rw[h.2,h'.2]
 |.err,_,_,_,_,h,h'=>by rw[h.2,h'.2]
 |.pair a b,_,_,_,_,h,h'=>by obtain⟨c1,c2,L1,L2,rfl,rfl,h1,h2⟩:=h;obtain⟨d1,d2,M1,M2,e,rfl,j1,j2⟩:=h';obtain⟨rfl,rfl⟩:=List.append_inj e (by rw[h1.len,j1.len]);rw[h1.uniq j1,h2.uniq j2]
 |.sl e t,_,_,_,x,h,h'=>by obtain⟨v,css,Ls,rfl,h1,rfl,h2⟩:=h;obtain⟨v',css',Ls',e',j1,rfl,j2⟩:=h';injection e' with e';subst e';obtain rfl:=vt t.nc_pos (aP.mid (len:=List.length) (λ_ _ _ h=>aE.len h) h2) (aP.mid (len:=List.length) (λ_ _ _ h=>aE.len h) j2) (AA h1 j1);have e3:=vu (Q:=λl c y=>aE w t l c y) (λ_ _ _ _ h h'=>aE.uniq h h') h2 j2;rw[e3]
def aE.uniqs{w:World}{t:Ty}{Ls Ls':List (List Nat)}{css:List (List Value)}{xs:List t.den}(h:aP (λl c y=>aE w t l c y) Ls css xs)(h':aP (λl c y=>aE w t l c y) Ls' css xs):Ls=Ls' :=
 vu (Q:=λl c y=>aE w t l c y) (λ_ _ _ _ h h'=>aE.uniq h h') h h'
def vv{w:World}{S:Nat->Prop}:∀{t:Ty}{cs:List Value}{x:t.den},t.flat=true->Rd w S t cs x->∀w',aE w' t [] cs x
 |.int _,_,_,_,h,_=>⟨h,rfl⟩
 |.bool,_,_,_,h,_=>⟨h,rfl⟩
 |.fnc _,_,_,_,h,_=>⟨h,rfl⟩
 |.str,_,_,_,h,_=>⟨h,rfl⟩
 |.err,_,_,_,h,_=>⟨h,rfl⟩
 |.pair a b,_,_,hf,h,w'=>by simp only[Ty.flat,Bool.and_eq_true]at hf;obtain⟨c1,c2,rfl,h1,h2⟩:=h;exact⟨c1,c2,[],[],rfl,rfl,vv hf.1 h1 w',vv hf.2 h2 w'⟩
 |.sl _ _,_,_,hf,_,_=>by cases hf
section
variable {P : Program} {V V' : St} {E E' : aM} {w w' : World} {w0 : World} {lab0 : Nat → ay} {oo : Nat → Value} {n : Nat} {a : Act} [DC]
def H9{t:Ty}{S:Nat->Prop}{css:List (List Value)}{ys:List t.den}(hf:t.flat=true)(h:ai (λc y=>Rd w S t c y) css ys):aP (λl c y=>aE w t l c y) (List.replicate ys.length []) css ys:=by
 have key:∀{css:List (List Value)}{ys:List t.den},ai (λc y=>Rd w S t c y) css ys->aP (λl c y=>aE w t l c y) (List.replicate ys.length []) css ys:=by
  intro css;induction css with
  |nil=>intro ys h;cases ys with
   |nil=>trivial
   |cons _ _=>exact h.elim
  |cons c css ih=>intro ys h;cases ys with
   |nil=>exact h.elim
   |cons y ys=>exact⟨vv hf h.1 w,ih h.2⟩
 exact key h
def rS(m:Nat):(List.replicate m ([]:List Nat)).flatten=[]:=by rw[List.flatten_eq_nil_iff];exact λl hl=>(List.mem_replicate.1 hl).2
def R.nilRow(h:R w0 lab0 oo n V E a w){r e:Nat}{t:Ty}{deep:Bool}(hfree:V.row r=none) :
  R w0 lab0 oo n { V with row:=am V.row r (some ⟨e,t,[],deep,true⟩) } { E with rv:=am E.rv r (.slice none 0 0) } a w:=by
 refine h.grow (E':={ E with rv:=am E.rv r (.slice none 0 0) }) (λk hk=>⟨rfl,rfl⟩) ⟨rfl,⟨rfl,λ_=>Nat.le_refl _⟩,rfl⟩ (Nat.le_refl _) rfl (λq row2 hq=>?_) (λq row2 hq=>?_) (λb te cs hq=>.inl ⟨hq,rfl⟩) (λ_ _ h=>h)
 ·by_cases e':q=r
  ·subst e';have hq':am V.row q (some ⟨e,t,[],deep,true⟩) q=some row2:=hq;rw[aU]at hq';injection hq' with hq';subst hq';refine .inr ⟨hfree, ?_⟩;show bP w E.lab q _ (am E.rv q (.slice none 0 0) q);rw[aU];refine⟨[],World.ownsRow_nil w 0 e t.nc,λk hk=>by simp[Value.ownBlock]at hk, ?_,λ_ _=>rfl⟩;cases deep;·exact trivial
   ·exact⟨[],trivial,List.nodup_nil,λk hk=>by simp at hk⟩
  ·exact .inl ⟨(ba _ _ e').symm.trans hq,ba _ _ e'⟩
 ·have hne:q≠r:=λe'=>by rw[e',hfree]at hq;cases hq
  exact(ba _ _ hne).trans hq
structure fe(w:World)(lab:Nat->ay)(e:Nat)(t:Ty)(ys:List t.den)(S:Nat->Prop)(A:Option Addr)(k:Nat)(css:List (List Value)):Prop where
 len:ys.length=k
 cells:k=0\/∃ad:Addr,A=some ad/\∀(j:Nat) (u:Value),css.flatten[j]? = some u->w.cell? (ad.add j)=some u
 rd:ai (λc y=>Rd w S t c y) css ys
def fe.of_rd{lab:Nat->ay}{e:Nat}{t:Ty}{ys:List t.den}{S:Nat->Prop}{v:Value}(h:Rd w S (.sl e t) [v] ys):∃A k c css,v=.slice A k c/\fe w lab e t ys S A k css:=by
 obtain⟨A,k,c,e1,h1,h2,h3,h4⟩:=h;injection e1 with e1;rcases h4 with h4|⟨ad,css,e2,h5,h6,h7⟩;·subst h4;have:ys=[]:=List.eq_nil_of_length_eq_zero h1;subst this;exact⟨A,0,c,[],e1,rfl,.inl rfl,trivial⟩
 ·exact⟨A,k,c,css,e1,h1,.inr ⟨ad,e2,h7⟩,h6⟩
def R.appendFlat{T:bc}(hT:aX P T)(h:R w0 lab0 oo n V E a w){r:Nat}{row:ac}(hrow:V.row r=some row){t:Nat}{ti ei:TI}(ht:T t=some ti)(he:ti.el=some row.e)(hei:T row.e=some ei)(hnc:ei.zero.length=row.t.nc)(hbytes:ei.bytes<=128)
  (hf:row.t.flat=true) {A:Option Addr}{k c:Nat}{css2:List (List Value)}{ys:List row.t.den}{S:Nat->Prop} (hs:fe w E.lab row.e row.t ys S A k css2) (hlen:row.xs.length+ys.length<1099511627776) (ty:TypeId) :
  ∃v' w' E',(Builtin.append_ #[t,t] ty #[E.rv r,.slice A k c]).run P w=.ok v' w'/\(∃A m c,v'=.slice A m c)/\v'=E'.rv r /\
   R w0 lab0 oo n { (V.mapc (dG r))with row:=am V.row r (some { row with xs:=row.xs++ys }) } E' a w':=by
 have hE:=H9 hf hs.rd;refine h.append hT hrow ht he hei hnc hbytes hs.len hs.cells ?_ (λ_ Ls css k1 k2 k3 k4=>⟨_,hE, ?_,λk hk=>?_⟩) hlen ty
 ·cases hd:row.deep;·refine(show ai (λc y=>Rd w (λk=>E.lab k=.st) row.t c y) css2 ys from ?_);exact aP.two (R:=λc y=>Rd w (λk=>E.lab k=.st) row.t c y) (λ_ _ _ h=>h) (hE.imp_mem (Q':=λ_ c y=>Rd w (λk=>E.lab k=.st) row.t c y) λl c y hl ho=>ho.rd λk hk=>by rw[(List.mem_replicate.1 hl).2]at hk;simp at hk)
  ·exact⟨_,hE,by rw[rS];exact List.nodup_nil,λk hk=>by rw[rS]at hk;simp at hk⟩
 ·rw[List.flatten_append,rS,List.append_nil];exact k2
 ·rw[rS]at hk;simp at hk
def R.appendDeep{T:bc}(hT:aX P T)(h:R w0 lab0 oo n V E a w){r r2:Nat}{row row2:ac}(hne:r2≠r)(hrow:V.row r=some row)(hrow2:V.row r2=some row2)(hd:row.deep=true)(hd2:row2.deep=true)
  {t:Nat}{ti ei:TI} (ht:T t=some ti) (he:ti.el=some row.e) (hei:T row.e=some ei) (hnc:ei.zero.length=row.t.nc) (hbytes:ei.bytes<=128)
  (htt:row2.t=row.t) {ys:List row.t.den} (hys:htt▸row2.xs=ys) {σ1:St} (hab:Fw.absorb r2 (some r) V=some σ1) (hlen:row.xs.length+ys.length<1099511627776) (ty:TypeId) :
  ∃v' w' E',(Builtin.append_ #[t,t] ty #[E.rv r,E.rv r2]).run P w=.ok v' w'/\(∃A m c,v'=.slice A m c)/\v'=E'.rv r /\
   R w0 lab0 oo n { (σ1.mapc (dG r))with row:=am σ1.row r (some { row with xs:=row.xs++ys }) } E' a w':=by
 obtain⟨css,ho,hl,hdd,_⟩:=h.rows r row hrow;rw[hd]at hdd;obtain⟨Ls,k1,k2,k3⟩:=hdd;obtain⟨css2,ho2,hl2,hdd2,_⟩:=h.rows r2 row2 hrow2;rw[hd2]at hdd2;obtain⟨Ls2,j1,j2,j3⟩:=hdd2;obtain⟨e2,t2,xs2,dp2,nl2⟩:=row2;have htt':t2=row.t:=htt;subst htt';have hys':xs2=ys:=hys;subst hys';obtain⟨g,row2',hq,_,hσ1⟩:=h.absorb hab;have hr1:σ1.row r=some row:=by rw[hσ1];exact(ba _ _ (Ne.symm hne)).trans hrow
 obtain⟨A,c,hv,hc1,hc2⟩:=gM ho2;have hin:∀k∈Ls2.flatten,cK E.lab r2 (some r) k=.inn r:=λk hk=>jQ (.inr (j3 k hk));have hcells:xs2.length=0\/∃ad:Addr,A=some ad/\∀(j:Nat) (u:Value),css2.flatten[j]? = some u->w.cell? (ad.add j)=some u:=by
  rcases ho2.2 with⟨_,h0⟩|⟨g,cap,cur,e,_⟩;·exact .inl h0
  ·refine .inr ⟨⟨g,0,none⟩, ?_,ho2.cells (by rw[e];rfl)⟩;rw[hv]at e;injection e with e
 rw[hv];refine g.append (E:={ E with lab:=cK E.lab r2 (some r) }) hT hr1 ht he hei hnc hbytes (k:=xs2.length) (c:=c) (css2:=css2) rfl hcells ?_ (λ_ Ls' css' q1 q2 q3 q4=>?_) hlen ty;·rw[hd];exact⟨Ls2,j1,j2,hin⟩
 · -- the row's own blocks are the same qA
  have hcss:css'=css:=vt row.t.nc_pos (aP.mid (len:=List.length) (λ_ _ _ h=>aE.len h) q1) (aP.mid (len:=List.length) (λ_ _ _ h=>aE.len h) k1) (AA q4 ho);subst hcss;have hLs:Ls'=Ls:=aE.uniqs q1 k1;subst hLs;refine⟨Ls2,j1, ?_,hin⟩;rw[List.flatten_append];refine List.nodup_append.2 ⟨k2,j2,λx hx y hy e=>?_⟩;subst e;have e1:=k3 x hx;rw[j3 x hy]at e1;injection e1 with e1;exact hne e1
def R.appendShallow{T:bc}(hT:aX P T)(h:R w0 lab0 oo n V E a w){r:Nat}{row:ac}(hrow:V.row r=some row)(hd:row.deep=false){t:Nat}{ti ei:TI}(ht:T t=some ti)(he:ti.el=some row.e)(hei:T row.e=some ei)(hnc:ei.zero.length=row.t.nc)(hbytes:ei.bytes<=128)
  {A:Option Addr}{k c:Nat}{css2:List (List Value)}{ys:List row.t.den} (hs:fe w E.lab row.e row.t ys (λk=>E.lab k=.st) A k css2) (hlen:row.xs.length+ys.length<1099511627776) (ty:TypeId) :
  ∃v' w' E',(Builtin.append_ #[t,t] ty #[E.rv r,.slice A k c]).run P w=.ok v' w'/\(∃A m c,v'=.slice A m c)/\v'=E'.rv r /\
   R w0 lab0 oo n { (V.mapc (dG r))with row:=am V.row r (some { row with xs:=row.xs++ys }) } E' a w':=by
 refine h.append hT hrow ht he hei hnc hbytes hs.len hs.cells ?_ (λhd'=>by rw[hd]at hd';cases hd') hlen ty;rw[hd];exact hs.rd
def AB{L:List Nat}:∀{Ls:List (List Nat)}{i:Nat},Ls.flatten.Nodup->L.Nodup->(∀k∈L,k∉Ls.flatten)->(Ls.set i L).flatten.Nodup/\∀k∈(Ls.set i L).flatten,k∈L\/k∈Ls.flatten
 |[],_,h,_,_=>⟨h,λk hk=>.inr hk⟩
 |l::Ls,0,h,hL,hd=>by simp only[List.set_cons_zero,List.flatten_cons]at h hd ⊢;have h':=List.nodup_append.1 h;exact⟨Aw hL h'.2.1 λk hk hm=>hd k hk (List.mem_append.2 (.inr hm)),λk hk=>(List.mem_append.1 hk).imp id λh=>List.mem_append.2 (.inr h)⟩
 |l::Ls,i+1,h,hL,hd=>by
  simp only[List.set_cons_succ,List.flatten_cons]at h hd ⊢;have h':=List.nodup_append.1 h;obtain⟨g1,g2⟩:=AB (Ls:=Ls) (i:=i) h'.2.1 hL λk hk hm=>hd k hk (List.mem_append.2 (.inr hm));refine⟨Aw h'.1 g1 λk hk hm=>?_,λk hk=>?_⟩
  ·rcases g2 k hm with hm|hm;·exact hd k hm (List.mem_append.2 (.inl hk))
   ·exact h'.2.2 k hk k hm rfl
  ·rcases List.mem_append.1 hk with hk|hk;·exact .inr (List.mem_append.2 (.inl hk))
   ·rcases g2 k hk with hk|hk;·exact .inl hk
    ·exact .inr (List.mem_append.2 (.inr hk))
def aP.set3{α β γ:Type}{Q:α->β->γ->Prop}:∀{as:List α}{bs:List β}{cs:List γ}{i:Nat}{l:α}{b:β}{y:γ},aP Q as bs cs->Q l b y->aP Q (as.set i l) (bs.set i b) (cs.set i y)
 |[],[],[],_,_,_,_,h,_=>trivial
 |_::_,_::_,_::_,0,l,b,y,h,hq=>⟨hq,h.2⟩
 |_::_,_::_,_::_,i+1,l,b,y,h,hq=>⟨h.1,h.2.set3 hq⟩
def R.storeEltW(h:R w0 lab0 oo n V E a w){r g m c:Nat}{row:ac}(hrow:V.row r=some row)(hdeep:row.deep=true)(hrv:E.rv r=.slice (some ⟨g,0,none⟩) m c){i:Nat}(hi:i<row.xs.length){cs:List af}{us:List Value}(hc:ai (aj V E w) cs us)
  (hn:(aF cs).Nodup) (hr:r∉aF cs) {y:row.t.den} (hp:dk V.row row.t cs=some y) {σ1:St} (hab:Fw.absorbs (some r) (aF cs) V=some σ1) :
  ∃w' E',(storeCells ⟨g,i*row.t.nc,none⟩ us 0).run P w=.ok () w'/\R w0 lab0 oo n { σ1 with row:=am σ1.row r (some { row with xs:=row.xs.set i y }) } E' a w':=by
 obtain⟨css,ho,hl,hd,hnil⟩:=h.rows r row hrow;rw[hrv]at ho hl;rw[hdeep]at hd;obtain⟨Ls,k1,k2,k3⟩:=hd;obtain⟨L,j1,j2,j3⟩:=gl h hp hc hn;obtain⟨lab',G,g1,g2,g3,g4⟩:=h.absorbs hab (λq hq=>by injection hq with hq;subst hq;exact hr);have hmlen:m=row.xs.length:=by
  rcases ho.2 with⟨h0,_⟩|⟨_,_,_,e0,_⟩;·cases h0
  ·injection e0
 subst hmlen;have hcl:=aP.mid (len:=List.length) (λ_ _ _ h=>aE.len h) k1;have hcn:=k1.len2;have hci:i<css.length:=by omega
 have hus:us.length=row.t.nc:=j1.len;have h1:∀u∈us,u.oneCell'=true:=j1.one;have hlabg:E.lab g=.row r:=hl g rfl;have hnotin:∀k,E.lab k=.row r\/E.lab k=.inn r\/E.lab k=.st\/(∃b,E.lab k=.box b)\/E.lab k=.dead->lab' k=E.lab k:=λk hk=>g2 k λq hq hof=>by have hqr:q≠r:=λe=>hr (e▸hq);rcases hof with hof|hof<;>rw[hof]at hk<;>simp[hqr]at hk
 have hlab:=(hnotin g (.inl hlabg)).trans hlabg;have hlab':∀p,lab' g≠bh p:=λp=>by rw[hlab];cases p<;>simp[bh]
 have htot:css.flatten.length=row.xs.length*row.t.nc:=by rw[ho.1]
 have hbnd:i*row.t.nc+row.t.nc<=row.xs.length*row.t.nc:=by rw[<-Nat.succ_mul];exact Nat.mul_le_mul_right _ hi
 obtain⟨w',hst,ho',hother,hsize,hos⟩:=ownsRow_over (P:=P) (w:=w) (us:=us) (o:=i*row.t.nc) ho (by omega) h1;refine⟨w',{ E with lab:=lab' },hst, ?_⟩;let row':ac:={ row with xs:=row.xs.set i y };let σ2:St:={ σ1 with row:=am σ1.row r (some row') };have hr1:σ1.row r=some row:=(g3 r hr).trans hrow;have m:cq σ1 { E with lab:=lab' } w σ2 { E with lab:=lab' } w':=cq.write (E:={ E with lab:=lab' }) hlab' hother (λq row2 hq=>by
  by_cases e:q=r;·subst e;rw[hr1]at hq;injection hq with hq;subst hq;exact⟨row',aU _ _ _,rfl,by simp[row']⟩
  ·exact⟨row2,(ba _ _ e).trans hq,rfl,Nat.le_refl _⟩) (λb te cs hq=>⟨te,cs,hq,rfl⟩)
 refine⟨G.bound,G.size,G.defers,λt=>(G.slots t).move m,λb te cs hq=>(G.boxes b te cs hq).write m (by show lab' g≠_;rw[hlab];simp) hother,λq row2 hq=>?_,G.same.write (show lab' g≠.st/\lab' g≠.dead by rw[hlab];exact⟨ay.noConfusion,ay.noConfusion⟩) hother ⟨hos.1,hos.2.1,hos.2.2⟩ hsize⟩;by_cases e:q=r
 ·subst e;rw[show σ2.row q=some row' from aU _ _ _]at hq;injection hq with hq;subst hq;have hfl:(css.set i us).flatten=css.flatten.take (i*row.t.nc)++us++css.flatten.drop (i*row.t.nc+us.length):=by rw[rP hcl hus hci,hus]
  have hdis:∀k∈L,k∉Ls.flatten:=λk hk hm=>by
   obtain⟨q',hq',hof⟩:=j3 k hk;have:=k3 k hm;rcases hof with hof|hof;·rw[hof]at this;cases this
   ·rw[hof]at this;injection this with this;exact hr (this▸hq')
  obtain⟨n1,n2⟩:=AB (i:=i) k2 j2 hdis;have hLg:∀k,k∈L\/k∈Ls.flatten->k≠g:=λk hk e=>by
   subst e;rcases hk with hk|hk
   ·obtain⟨q',hq',hof⟩:=j3 k hk;rcases hof with hof|hof;·rw[hlabg]at hof;injection hof with hof;exact hr (hof▸hq')
    ·rw[hlabg]at hof;cases hof
   ·have:=k3 k hk;rw[hlabg]at this;cases this
  refine⟨css.set i us, ?_,λk hk=>by rw[hrv]at hk;exact(hnotin k (.inl (hl k hk))).trans (hl k hk), ?_,λhn hz=>?_⟩;·show World.ownsRow w' 0 row.e row.t.nc (E.rv q) (row.xs.set i y).length _;rw[hrv,List.length_set,hfl];exact ho'
  ·show cond row.deep _ _;rw[hdeep];refine⟨Ls.set i L, ?_,n1,λk hk=>?_⟩;·have k1':aP (λl c y=>aE w' row.t l c y) Ls css row.xs:=k1.imp_mem λl c y hl' h=>h.frame λk hk=>hother k (hLg k (.inr (List.mem_flatten.2 ⟨l,hl',hk⟩)));exact k1'.set3 (j1.frame λk hk=>hother k (hLg k (.inl hk)))
   ·rcases n2 k hk with hk|hk;·obtain⟨q',hq',hof⟩:=j3 k hk;exact g1 k q' hq' hof
    ·exact(hnotin k (.inr (.inl (k3 k hk)))).trans (k3 k hk)
  ·have:row.xs.length=0:=by simpa[row']using hz
   omega
 ·exact(G.rows q row2 ((ba _ _ e).symm.trans hq)).write hlab' (show lab' g≠_ by rw[hlab];simp only[ne_eq,ay.row.injEq];exact λe'=>e e'.symm) hother
end
end Go.Fw
set_option linter.unusedSimpArgs false
namespace Go.Fw
open Go.RowKit Go.MapKept
def gm{α:Type}[DecidableEq α](xs:List α)(y:α):Bool:=decide (y∈xs)
def l6{α:Type}[DecidableEq α](xs:List α)(y:α):List α:=xs.eraseP λx=>decide (x=y)
def np{α:Type}[DecidableEq α](xs:List α)(y:α):List α:=cond (gm xs y) xs (xs++[y])
def kE:(t:Ty)->List t.den->t.den->Bool
 |.int _,xs,y=>gm (α:=Int) xs y
 |.str,xs,y=>gm (α:=ByteArray) xs y
 |_,_,_=>false
def rT:(t:Ty)->List t.den->t.den->List t.den
 |.int _,xs,y=>l6 (α:=Int) xs y
 |.str,xs,y=>l6 (α:=ByteArray) xs y
 |_,xs,_=>xs
def jS:(t:Ty)->List t.den->t.den->List t.den
 |.int _,xs,y=>np (α:=Int) xs y
 |.str,xs,y=>np (α:=ByteArray) xs y
 |_,xs,_=>xs
def fA(ti:TI)(t:Ty):Bool:=!ti.agg&&(ti.el.isNone&&decide (ti.ty=.pair t (.sl 0 .bool)))
def AC{α:Type}[DecidableEq α]{xs:List α}{y:α}(h:y∉xs):l6 xs y=xs:=by unfold l6;refine List.eraseP_of_forall_not λx hx=>?_;simp only[decide_eq_true_eq];exact λe=>h (e▸hx)
section
variable {P : Program} {V : St} {E : aM} {w : World} {w0 : World} {lab0 : Nat → ay} {oo : Nat → Value} {n : Nat} {a : Act} {T : bc} [DC]
def rU(hT:aX P T){t:Nat}{ti:TI}{kt:Ty}(ht:T t=some ti)(hm:fA ti kt=true) :
  ∃k e d i,P.underlying t=some (.map k e)/\P.underlying k=some d/\P.info? e=some i/\i.zero=some (.bool false)/\((∃q,d=.int q/\kt=.int q)\/(d=.string/\kt=.str)):=by
 unfold fA at hm;simp only[Bool.and_eq_true,Bool.not_eq_true',Option.isNone_iff_eq_none,decide_eq_true_eq]at hm;obtain⟨h1,h2,h3⟩:=hm;obtain⟨inf,d,z,_,hu,_,_,_,_,_,g⟩:=fc hT ht;cases d<;>simp[fM,h1,h2,h3]at g;rename_i k e;obtain⟨_,g⟩:=g;simp only[nb,Bool.and_eq_true]at g;obtain⟨g1,g2⟩:=g;split at g2
 ·rename_i i hi;split at g2
  ·rename_i hz;split at g1;·rename_i q q' hk;simp only[decide_eq_true_eq]at g1;subst g1;exact⟨k,e,_,i,hu,hk,hi,hz,.inl ⟨q,rfl,rfl⟩⟩
   ·rename_i hk;exact⟨k,e,_,i,hu,hk,hi,hz,.inr ⟨rfl,rfl⟩⟩
   ·cases g1
  ·cases g2
 ·cases g2
def vw{d:TypeDesc}{kt:Ty}(hd:(∃q,d=.int q/\kt=.int q)\/(d=.string/\kt=.str))(y:kt.den):IsKey d (eC kt y):=by
 rcases hd with⟨q,rfl,rfl⟩|⟨rfl,rfl⟩;·exact rfl
 ·exact trivial
def vz{α:Type}[DecidableEq α]{d:TypeDesc}{f:α->Value}(hk:∀y,IsKey d (f y))(hinj:∀x y,f x=f y->x=y)(y:α):∀(xs:List α) (l:List MapEntry) (i:Nat),l.map (·.key)=xs.map f ->
  (Instr.findNow d (f y) l i=some none/\y∉xs)\/∃j e,Instr.findNow d (f y) l i=some (some (i+j,e.val))/\l[j]? = some e/\e.key=f y/\y∈xs/\l6 xs y=xs.eraseIdx j
 |[],[],_,_=>.inl ⟨rfl,by simp⟩
 |[],_::_,_,h=>by simp at h
 |_::_,[],_,h=>by simp at h
 |x::xs,e::l,i,h=>by
  simp only[List.map_cons,List.cons.injEq]at h;obtain⟨r,hr,hiff⟩:=sameNow_of_keys (hk y) (show IsKey d e.key by rw[h.1];exact hk x);cases r with
  |true =>have e1:f y=e.key:=hiff.1 rfl;have:x=y:=hinj _ _ (by rw[<-h.1,e1]);subst this;exact .inr ⟨0,e,by simp[Instr.findNow,hr],rfl,e1.symm,by simp,by simp[l6]⟩
  |false =>
   have hne:x≠y:=λq=>by have:=hiff.2 (by rw[h.1,q]);cases this
   rcases vz hk hinj y xs l (i+1) h.2 with⟨h1,h2⟩|⟨j,e',h1,h2,h3,h4,h5⟩;·exact .inl ⟨by simp[Instr.findNow,hr,h1],by simp[h2,Ne.symm hne]⟩
   ·refine .inr ⟨j+1,e',by simp[Instr.findNow,hr,h1];omega,by simpa using h2,h3,by simp[h4], ?_⟩;unfold l6 at h5 ⊢;rw[List.eraseP_cons_of_neg (by simpa using hne),h5];rfl
def vA{d:TypeDesc}{kt:Ty}(hd:(∃q,d=.int q/\kt=.int q)\/(d=.string/\kt=.str))(xs:List kt.den)(y:kt.den)(l:List MapEntry)(h:l.map (·.key)=xs.map (eC kt)) :
  (Instr.findNow d (eC kt y) l 0=some none/\kE kt xs y=false/\jS kt xs y=xs++[y]/\rT kt xs y=xs) \/
  ∃j e,Instr.findNow d (eC kt y) l 0=some (some (j,e.val))/\l[j]? = some e/\e.key=eC kt y/\kE kt xs y=true/\jS kt xs y=xs/\rT kt xs y=xs.eraseIdx j:=by
 rcases hd with⟨q,rfl,rfl⟩|⟨rfl,rfl⟩
 ·rcases vz (d:=.int q) (f:=eC (.int q)) (α:=Int) (λ_=>rfl) (λx y h=>by injection h) y xs l 0 h with⟨h1,h2⟩|⟨j,e,h1,h2,h3,h4,h5⟩;·exact .inl ⟨h1,by simp[kE,gm,h2],by simp[jS,np,gm,h2],AC h2⟩
  ·exact .inr ⟨j,e,by simpa using h1,h2,h3,by simp[kE,gm,h4],by simp[jS,np,gm,h4],h5⟩
 ·rcases vz (d:=.string) (f:=eC .str) (α:=ByteArray) (λ_=>trivial) (λx y h=>by injection h) y xs l 0 h with⟨h1,h2⟩|⟨j,e,h1,h2,h3,h4,h5⟩;·exact .inl ⟨h1,by simp[kE,gm,h2],by simp[jS,np,gm,h2],AC h2⟩
  ·exact .inr ⟨j,e,by simpa using h1,h2,h3,by simp[kE,gm,h4],by simp[jS,np,gm,h4],h5⟩
def R.mapBox(h:R w0 lab0 oo n V E a w){b te:Nat}{kt:Ty}{xs:List kt.den}(hb:V.box b=some (te,[.mset kt xs]))(hte:bV<=te) :
  ∃es clock,w.heap[E.bb b]? = some (.map es clock)/\es.toList.map (·.key)=xs.map (eC kt)/\(∀e∈es.toList,e.val=.bool true)/\E.lab (E.bb b)=.box b:=by
 obtain⟨arr,h1,h2,h3,h4⟩:=h.boxes b te _ hb;obtain⟨es,clock,k1,k2,k3⟩:=h1.map hte;rw[k2]at h3;exact⟨es,clock,k1,HR (h3.1:gd _=gd _),k3,h2⟩
def R.setMap(h:R w0 lab0 oo n V E a w){b te:Nat}{kt:Ty}{xs ys:List kt.den}(hb:V.box b=some (te,[.mset kt xs]))(hte:bV<=te){es:Array MapEntry}{clock:Nat}
  (hk:es.toList.map (·.key)=ys.map (eC kt)) (hv:∀e∈es.toList,e.val=.bool true) :
  R w0 lab0 oo n { V with box:=am V.box b (some (te,[.mset kt ys])) } E a { w with heap:=w.heap.setIfInBounds (E.bb b) (.map es clock) }:=by
 obtain⟨es0,clock0,k1,_,_,k2⟩:=h.mapBox hb hte;have hset:=heap_set (o':=.map es clock) k1;generalize hw':({ w with heap:=w.heap.setIfInBounds (E.bb b) (.map es clock) }:World)=w';have hother:∀k,k≠E.bb b->w'.heap[k]? = w.heap[k]?:=λk hk=>by rw[<-hw'];exact hset.2 k hk
 have hsize:w'.heap.size=w.heap.size:=by rw[<-hw'];simp
 have hos:w'.os=w.os/\Tp w w'/\w'.output=w.output:=by rw[<-hw'];exact⟨rfl,⟨rfl,λ_=>Nat.le_refl _⟩,rfl⟩
 have hlab:∀p,E.lab (E.bb b)≠bh p:=λp=>by rw[k2];cases p<;>simp[bh]
 let σ1:St:={ V with box:=am V.box b (some (te,[.mset kt ys])) };have m:cq V E w σ1 E w':=cq.write hlab hother (λr row hr=>⟨row,hr,rfl,Nat.le_refl _⟩) (λb' te' cs' hq=>by
  by_cases e:b'=b;·subst e;rw[hb]at hq;injection hq with hq;injection hq with e1 e2;subst e1 e2;exact⟨_,_,aU _ _ _,rfl⟩
  ·exact⟨te',cs',(ba _ _ e).trans hq,rfl⟩)
 refine⟨h.bound,h.size,h.defers,λt=>(h.slots t).move m,λb' te' cs' hq=>?_,λr row hr=>(h.rows r row hr).write hlab (by rw[k2];simp) hother,h.same.write (by rw[k2];exact⟨ay.noConfusion,ay.noConfusion⟩) hother hos hsize⟩;by_cases e:b'=b
 ·subst e;rw[show σ1.box b'=some (te,[.mset kt ys])from aU _ _ _]at hq;injection hq with hq;injection hq with e1 e2;subst e1 e2;refine⟨#[gd (es.toList.map (·.key))],.inr ⟨hte,es,clock,by rw[<-hw'];exact hset.1,rfl,hv⟩,k2,⟨?_,trivial⟩,λu hu=>by simp at hu;subst hu;rfl⟩
  show gd _=gd _;rw[hk]
 ·exact(h.boxes b' te' cs' ((ba _ _ e).symm.trans hq)).write m (by rw[k2];simp only[ne_eq,ay.box.injEq];exact λq=>e q.symm) hother
def vC{d:TypeDesc}{kt:Ty}(hd:(∃q,d=.int q/\kt=.int q)\/(d=.string/\kt=.str)){c:af}{y:kt.den}{v:Value}(hp:ge kt [c]=some y)(hv:aj V E w c v):v=eC kt y:=by
 rcases hd with⟨q,rfl,rfl⟩|⟨rfl,rfl⟩;·have:=lZ (show kA q [c]=some y from hp);injection this with this;subst this;exact hv
 ·have:=l5 (show kB [c]=some y from hp);injection this with this;subst this;exact hv
def Ia(hT:aX P T)(h:R w0 lab0 oo n V E a w){t:Nat}{ti:TI}{kt:Ty}(ht:T t=some ti)(hm:fA ti kt=true){b te:Nat}{xs:List kt.den}(hb:V.box b=some (te,[.mset kt xs]))(hte:bV<=te)
  {c:af}{y:kt.den}{v:Value} (hp:ge kt [c]=some y) (hv:aj V E w c v):(Instr.lookup t (.map (some (E.bb b))) v false).run P w=.ok (.bool (kE kt xs y)) w:=by
 obtain⟨k,e,d,i,h1,h2,h3,h4,hd⟩:=rU hT ht hm;obtain⟨es,clock,k1,k2,k3,_⟩:=h.mapBox hb hte;obtain rfl:=vC hd hp hv;have hk:=vw hd y;have hz:(zeroValue e).run P w=.ok (.bool false) w:=by simp[zeroValue,typeInfo,h3,h4]
 rcases vA hd xs y es.toList k2 with⟨f1,f2,_⟩|⟨j,e0,f1,f2,f3,f4,_⟩;·rw[f2];simp[Instr.lookup,run_underlying h1,Go.MapKept.run_getObj_map k1,run_checkKey h2 hk,run_findKey h2 f1,hz,Result.andThen]
 ·rw[f4];have hval:e0.val=.bool true:=k3 e0 (List.mem_of_getElem? f2);simp[Instr.lookup,run_underlying h1,Go.MapKept.run_getObj_map k1,run_checkKey h2 hk,run_findKey h2 f1,hval,Result.andThen]
def Ib(hT:aX P T)(h:R w0 lab0 oo n V E a w){t:Nat}{ti:TI}{kt:Ty}(ht:T t=some ti)(hm:fA ti kt=true){b te:Nat}{xs:List kt.den}(hb:V.box b=some (te,[.mset kt xs]))(hte:bV<=te)(ty:TypeId) :
  (Builtin.len_ #[t] ty #[.map (some (E.bb b))]).run P w=.ok (.int .i64 xs.length) w:=by
 obtain⟨k,e,d,i,h1,h2,h3,h4,hd⟩:=rU hT ht hm;obtain⟨es,clock,k1,k2,k3,_⟩:=h.mapBox hb hte;have hl:es.size=xs.length:=by have:=congrArg List.length k2;simpa using this
 simp[Builtin.len_,run_underlying h1,Go.MapKept.run_getObj_map k1,Result.andThen,hl,goInt]
def AD(hT:aX P T)(h:R w0 lab0 oo n V E a w){t:Nat}{ti:TI}{kt:Ty}(ht:T t=some ti)(hm:fA ti kt=true){b te:Nat}{xs:List kt.den}(hb:V.box b=some (te,[.mset kt xs]))(hte:bV<=te)
  {c:af}{y:kt.den}{v:Value} (hp:ge kt [c]=some y) (hv:aj V E w c v) :
  ∃w',(Instr.mapUpdate t (.map (some (E.bb b))) v (.bool true)).run P w=.ok () w'/\R w0 lab0 oo n { V with box:=am V.box b (some (te,[.mset kt (jS kt xs y)])) } E a w':=by
 obtain⟨k,e,d,i,h1,h2,h3,h4,hd⟩:=rU hT ht hm;obtain⟨es,clock,k1,k2,k3,_⟩:=h.mapBox hb hte;obtain rfl:=vC hd hp hv;have hk:=vw hd y;rcases vA hd xs y es.toList k2 with⟨f1,_,f2,_⟩|⟨j,e0,f1,f2,f3,_,f4,_⟩
 ·rw[f2];refine⟨_, ?_,h.setMap hb hte (es:=es.push { key:=eC kt y,val:=.bool true,born:=clock }) (clock:=clock+1) (by simp[k2]) λx hx=>?_⟩;·simp[Instr.mapUpdate,run_underlying h1,Go.MapKept.run_getObj_map k1,run_checkKey h2 hk,run_findKey h2 f1,Go.MapKept.run_setObj_map _ k1,Result.andThen]
  ·simp only[Array.toList_push,List.mem_append,List.mem_singleton]at hx;rcases hx with hx|rfl;·exact k3 x hx
   ·rfl
 ·rw[f4];have hj:es[j]? = some e0:=by simpa using f2
  have hkey:∀e',es[j]? = some e'->({ e' with key:=eC kt y,val:=.bool true }:MapEntry).key=e'.key:=λe' he'=>by rw[hj]at he';cases he';exact f3.symm
  refine⟨_, ?_,h.setMap hb hte (es:=es.modify j λe=>{ e with key:=eC kt y,val:=.bool true }) (clock:=clock) (by rw[modify_keys j _ hkey,k2]) λx hx=>?_⟩;·simp[Instr.mapUpdate,run_underlying h1,Go.MapKept.run_getObj_map k1,run_checkKey h2 hk,run_findKey h2 f1,hj,f3,run_keyThatStays hk,Go.MapKept.run_setObj_map _ k1,Result.andThen]
  ·obtain⟨q,hq⟩:=List.mem_iff_getElem?.1 hx;simp only[Array.getElem?_toList,Array.getElem?_modify]at hq;split at hq;·simp only[Option.map_eq_some_iff]at hq;obtain⟨_,_,rfl⟩:=hq;rfl
   ·exact k3 x (List.mem_iff_getElem?.2 ⟨q,by simpa using hq⟩)
def Ic(hT:aX P T)(h:R w0 lab0 oo n V E a w){t t':Nat}{ti:TI}{kt:Ty}(ht:T t=some ti)(hm:fA ti kt=true){b te:Nat}{xs:List kt.den}(hb:V.box b=some (te,[.mset kt xs]))(hte:bV<=te)
  {c:af}{y:kt.den}{v:Value} (hp:ge kt [c]=some y) (hv:aj V E w c v) (ty:TypeId) :
  ∃w',(Builtin.delete_ #[t,t'] ty #[.map (some (E.bb b)),v]).run P w=.ok (.tuple #[]) w'/\R w0 lab0 oo n { V with box:=am V.box b (some (te,[.mset kt (rT kt xs y)])) } E a w':=by
 obtain⟨k,e,d,i,h1,h2,h3,h4,hd⟩:=rU hT ht hm;obtain⟨es,clock,k1,k2,k3,_⟩:=h.mapBox hb hte;obtain rfl:=vC hd hp hv;have hk:=vw hd y;rcases vA hd xs y es.toList k2 with⟨f1,_,_,f2⟩|⟨j,e0,f1,f2,f3,_,_,f4⟩;·rw[f2];refine⟨_, ?_,h.setMap hb hte (es:=es) (clock:=clock) k2 k3⟩;simp[Builtin.delete_,run_underlying h1,Go.MapKept.run_getObj_map k1,run_checkKey h2 hk,run_findKey h2 f1,Go.MapKept.run_setObj_map _ k1,Result.andThen]
 ·rw[f4];have hj:j<es.size:=by have:=(List.getElem?_eq_some_iff.1 f2).1;simpa using this
  have he:(es.eraseIdxIfInBounds j).toList=es.toList.eraseIdx j:=by unfold Array.eraseIdxIfInBounds;rw[dif_pos hj,Array.toList_eraseIdx]
  have em:∀(l:List MapEntry) (i:Nat),(l.eraseIdx i).map (·.key)=(l.map (·.key)).eraseIdx i:=by
   intro l;induction l with
   |nil=>intro i;rfl
   |cons x l ih=>intro i;cases i with
    |zero=>rfl
    |succ i=>simp[ih i]
  have em2:∀(l:List kt.den) (i:Nat),(l.eraseIdx i).map (eC kt)=(l.map (eC kt)).eraseIdx i:=by
   intro l;induction l with
   |nil=>intro i;rfl
   |cons x l ih=>intro i;cases i with
    |zero=>rfl
    |succ i=>simp[ih i]
  refine⟨_, ?_,h.setMap hb hte (es:=es.eraseIdxIfInBounds j) (clock:=clock) (by rw[he,em,k2,em2]) λx hx=>?_⟩;·simp[Builtin.delete_,run_underlying h1,Go.MapKept.run_getObj_map k1,run_checkKey h2 hk,run_findKey h2 f1,Go.MapKept.run_setObj_map _ k1,Result.andThen]
  ·rw[he]at hx;exact k3 x (List.mem_of_mem_eraseIdx hx)
end
end Go.Fw
namespace Go.Fw
open Go.RowKit
def bE(a b:Int):Bool:=decide (a<=b)
def jT(V:St)(x:af)(lo hi mx:Option Int):Option (Bool×af) :=
 match x,lo,hi,mx with
 |.str s,none,none,none=>some (true,.str (s.extract 0 s.size))
 |.str s,some l,none,none=>some (bE 0 l&&bE l s.size,.str (s.extract l.toNat s.size))
 |.str s,none,some h,none=>some (bE 0 h&&bE h s.size,.str (s.extract 0 h.toNat))
 |.str s,some l,some h,none=>some (bE 0 l&&(bE l h&&bE h s.size),.str (s.extract l.toNat h.toNat))
 |.sn e t xs p,some l,none,none=>some (bE 0 l&&bE l xs.length,.sn e t (xs.drop l.toNat) p)
 |.sn e t xs p,none,some h,none=>some (bE 0 h&&bE h xs.length,.sn e t (xs.take h.toNat) p)
 |.sn e t xs p,some l,some h,none=>some (bE 0 l&&(bE l h&&bE h xs.length),.sn e t ((xs.drop l.toNat).take (h-l).toNat) p)
 |.sn e t xs p,none,some h,some m=>some (bE 0 h&&(bE h xs.length&&decide (m=h)),.full e t (xs.take h.toNat) p)
 |.own r,some l,none,none=>match V.row r with
  |some row=>some (bE 0 l&&bE l row.xs.length,.part r l (row.xs.length-l))
  |none=>none
 |.own r,none,some h,none=>match V.row r with
  |some row=>some (bE 0 h&&bE h row.xs.length,.part r 0 h)
  |none=>none
 |.own r,some l,some h,none=>match V.row r with
  |some row=>some (bE 0 l&&(bE l h&&bE h row.xs.length),.part r l (h-l))
  |none=>none
 |_,_,_,_=>none
def ph(V:St)(x:Operand):Option Int:=match ev V x with
 |.c (.int _ n)=>some n
 |_=>none
def nq(V:St):Option Operand->Option (Option Int)
 |none=>some none
 |some x=>match ph V x with
  |some n=>some (some n)
  |none=>none
def rV(V:St)(x:af):Option Int :=
 match x with
 |.sn _ _ xs _=>some xs.length
 |.full _ _ xs _=>some xs.length
 |.nil=>some 0
 |.own r=>match V.row r with
  |some row=>some row.xs.length
  |none=>none
 |.part _ _ n=>some n
 |_=>none
def AE(V:St)(x:af):Option Int:=rV V x.weak
def AF:af->Option ByteArray
 |.str s=>some s
 |_=>none
def rW(ti:TI)(i:Nat):Option (Nat×Nat):=match ti.fields[i]? with
 |some (a7,n,_)=>some (a7,n)
 |none=>none
def vD(V:St)(x:af):Option ByteArray :=
 match x with
 |.own r=>match V.row r with
  |some row=>match dj row.t (.int .u8) row.xs with
   |some ys=>some (strOfNums ys)
   |none=>none
  |none=>none
 |.nil=>some ByteArray.empty
 |_=>none
def pi(V:St):List Operand->Option (List (Nat×Nat))
 |[]=>some []
 |x::xs=>match ev V x,pi V xs with
  |.c (.box b f),some l=>some ((b,f)::l)
  |_,_=>none
def vE(V:St)(ti:TI):af->Option (Bool×SV)
 |.mp b=>match V.box b with
  |some (te,[.mset t xs])=>cond (fA ti t&&Nat.ble bV te) (some (true,.c (.int .i64 xs.length))) none
  |_=>none
 |_=>none
def vF(V:St)(ti:TI)(c:af):af->Option (Bool×SV)
 |.mp b=>match V.box b with
  |some (te,[.mset t xs])=>cond (fA ti t&&Nat.ble bV te) (match ge t [c]with
   |some y=>some (true,.c (.bool (kE t xs y)))
   |none=>none) none
  |_=>none
 |_=>none
def vG(V:St)(x y:Operand):Option Bool :=
 match ev V x,y with
 |.c (.err b),.const .nilIface=>some b
 |_,_=>none
def rX:af->Bool
 |.box _ _=>true
 |.elt _ _ _=>true
 |.selt _ _ _ _=>true
 |_=>false
def cd(T:bc)(V:St):Op->Option (Bool×SV)
  |.move x=>some (true,ev V x)
  |.assign x=>some (true,ev V x)
  |.load t x=>match T t,ev V x with
    |some i,.c c=>match o5 V c i.agg i.zero.length with
      |some v=>some (true,v)
      |none=>none
    |_,_=>none
  |.binOp op t x y _=>match vG V x y with
   |some b=>match T t with
    |some i=>cond (decide (i.ty=.err)&&(!i.agg&&i.el.isNone)) (match op with
      |.eql=>some (true,.c (.bool (!b)))
      |.neq=>some (true,.c (.bool b))
      |_=>none) none
    |none=>none
   |none=>match ev V x,ev V y with
    |.c u,.c v=>match oY op u v with
      |some (c,z)=>some (c,.c z)
      |none=>match T t with
        |some i=>match lS V i u v with
          |some (c,z)=>match op with
            |.eql=>some (c,.c (.bool z))
            |.neq=>some (c,.c (.bool (!z)))
            |_=>none
          |none=>none
        |none=>none
    |_,_=>none
  |.unOp op _ x=>match ev V x with
    |.c u=>match vb op u with
      |some z=>some (true,.c z)
      |none=>none
    |_=>none
  |.fieldAddr s x f=>match T s,ev V x with
    |some i,.c u=>match i.fields[f]? with
      |some (a7,_,_)=>match vd V u a7 with
        |some z=>some (true,.c z)
        |none=>none
      |none=>none
    |_,_=>none
  |.indexAddr t x i=>match T t,ev V x,ev V i with
    |some ti,.c u,.c v=>match ti.el with
      |some e=>match T e with
        |some ei=>match vc V e ei.zero.length u v with
          |some (c,z)=>some (c,.c z)
          |none=>none
        |none=>none
      |none=>none
    |_,_,_=>none
  |.index t x i=>match T t,ev V x,ev V i with
    |some ti,.c (.str s),.c (.int _ n)=>cond (decide (ti.ty=.str)&&(!ti.agg&&ti.el.isNone)) (some (decide (0<=n)&&decide (n<(s.size:Int)),.c (.int .u8 (bt s n)))) none
    |_,_,_=>none
  |.lookup t x i false=>match T t,ev V x,ev V i with
    |some ti,.c u,.c v=>vF V ti v u
    |_,_,_=>none
  |.slice t x lo hi mx=>match T t,ev V x,nq V lo,nq V hi,nq V mx with
    |some ti,.c u,some l,some h,some m=>match u with
      |.str _=>cond (decide (ti.ty=.str)&&(!ti.agg&&ti.el.isNone)) (match jT V u l h m with
        |some (c,z)=>some (c,.c z)
        |none=>none) none
      |.sn _ ty _ _=>match ti.el with
        |some e=>match T e with
          |some ei=>cond (Nat.beq ei.zero.length ty.nc) (match jT V u l h m with
            |some (c,z)=>some (c,.c z)
            |none=>none) none
          |none=>none
        |none=>none
      |.own r=>match ti.el,V.row r with
        |some e,some row=>match T e with
          |some ei=>cond (Nat.beq ei.zero.length row.t.nc) (match jT V u l h m with
            |some (c,z)=>some (c,.c z)
            |none=>none) none
          |none=>none
        |_,_=>none
      |_=>none
    |_,_,_,_,_=>none
  |.nilCheck x=>match ev V x with
    |.c u=>cond (rX u) (some (true,.c u)) none
    |_=>none
  |.extract x i=>match ev V x with
    |.tup l=>match l[i]? with
      |some (true,cs)=>some (true,.agg cs)
      |some (false,[c])=>some (true,.c c)
      |_=>none
    |_=>none
  |.convert s d x=>match T s,T d,ev V x with
    |some si,some di,.c u=>match u with
      |.int _ n=>match di.ty with
        |.int k=>cond (!di.agg&&di.el.isNone) (some (true,.c (.int k (k.wrap n)))) none
        |_=>none
      |.str s=>cond (decide (si.ty=.str)&&(decide (di.ty=.str)&&(!di.agg&&(di.el.isNone&&(!si.agg&&si.el.isNone))))) (some (true,.c (.str s))) none
      |u=>match si.el with
        |some e=>match T e with
          |some ei=>cond (decide (di.ty=.str)&&(!di.agg&&(di.el.isNone&&(decide (ei.ty=.int .u8)&&(!ei.agg&&ei.el.isNone))))) (match vD V u with
            |some s=>some (true,.c (.str s))
            |none=>none) none
          |none=>none
        |none=>none
    |_,_,_=>none
  |.makeFunc (.func f) first captured=>cond (Nat.beq first.size 0) (match pi V captured.toList with
    |some l=>some (true,.c (.fn f l))
    |none=>none) none
  |.build t parts=>match T t,nh V parts.toList with
    |some ti,some ps=>cond ti.agg (match jP (rW ti) ti.zero ps with
      |some cs=>some (true,.agg cs)
      |none=>none) none
    |_,_=>none
  |.call { callee:=.builtin .len,args:=args,argTypes:=ts }=>match args.toList,ts.toList with
    |[x],[t]=>match T t,ev V x with
      |some ti,.c u=>match AF u with
        |some s=>cond (decide (ti.ty=.str)&&(!ti.agg&&ti.el.isNone)) (some (true,.c (.int .i64 s.size))) none
        |none=>cond ti.el.isSome (match AE V u with
          |some n=>some (true,.c (.int .i64 n))
          |none=>none) (vE V ti u)
      |_,_=>none
    |_,_=>none
  |.call { callee:=.builtin .max,args:=args,argTypes:=_ }=>match args.toList with
    |[x,y]=>match ev V x,ev V y with
      |.c (.int k a),.c (.int _ b)=>some (true,.c (.int k (mx a b)))
      |_,_=>none
    |_=>none
  |.call { callee:=.builtin .min,args:=args,argTypes:=_ }=>match args.toList with
    |[x,y]=>match ev V x,ev V y with
      |.c (.int k a),.c (.int _ b)=>some (true,.c (.int k (mn a b)))
      |_,_=>none
    |_=>none
  |_=>none
section
variable {P : Program} {V : St} {E : aM} {w : World} {w0 : World} {lab0 : Nat → ay} {oo : Nat → Value} {n : Nat} {a : Act} {T : bc} [DC]
def nr(hT:aX P T){t:Nat}{i:TI}(hi:T t=some i)(h1:i.ty=.str)(h2:i.agg=false)(h3:i.el=none):P.underlying t=some .string:=by obtain⟨inf,d,z,_,hu,_,_,_,_,_,g⟩:=fc hT hi;cases d<;>simp[fM,nb,h1,h2,h3]at g;exact hu
def AG(hT:aX P T){t:Nat}{i:TI}{k:IntKind}(hi:T t=some i)(h1:i.ty=.int k)(h2:i.agg=false)(h3:i.el=none):P.underlying t=some (.int k):=by obtain⟨inf,d,z,_,hu,_,_,_,_,_,g⟩:=fc hT hi;cases d<;>simp[fM,nb,h1,h2,h3]at g;obtain⟨_,rfl⟩:=g;exact hu
def Id(hT:aX P T){t:Nat}{i:TI}(hi:T t=some i)(h1:i.ty=.bool)(h2:i.agg=false)(h3:i.el=none):P.underlying t=some .bool:=by obtain⟨inf,d,z,_,hu,_,_,_,_,_,g⟩:=fc hT hi;cases d<;>simp[fM,nb,h1,h2,h3]at g;exact hu
def Ie(hT:aX P T){t:Nat}{i:TI}(hi:T t=some i)(h1:i.ty=.err)(h2:i.agg=false)(h3:i.el=none):∃ms,P.underlying t=some (.interface ms):=by obtain⟨inf,d,z,_,hu,_,_,_,_,_,g⟩:=fc hT hi;cases d<;>simp[fM,nb,h1,h2,h3]at g;exact⟨_,hu⟩
def If{t:Nat}{ms}(hu:P.underlying t=some (.interface ms)){v:Value}{b:Bool}(hv:jN v b):(Op.equal t v .nilIface).run P w=.ok (!b) w:=by
 have key:∀d,(Op.equalIn (d+1) t v .nilIface).run P w=.ok (!b) w:=λd=>by rcases hv with⟨rfl,rfl⟩|⟨u,p,rfl,rfl⟩<;>simp[Op.equalIn,run_underlying hu]
 exact key 9999
def Ig{x y:Operand}{b:Bool}(h:vG V x y=some b):ev V x=.c (.err b)/\y=.const .nilIface:=by
 unfold vG at h;split at h;·rename_i b' hx;injection h with h;subst h;exact⟨hx,rfl⟩
 ·cases h
def Ih{op:BinOp}{t:TypeId}{x:Operand}{v:Value}{b:Bool}(hv:jN v b):(eqGuard op t x (.const .nilIface) v .nilIface).run P w=.ok () w:=by
 rcases hv with⟨rfl,_⟩|⟨u,p,rfl,_⟩;·cases op<;>cases x<;>rfl
 ·cases op<;>rfl
def Ii(hT:aX P T){t:Nat}{i:TI}(hi:T t=some i):∃d,P.underlying t=some d:=by obtain⟨inf,d,z,_,hu,_⟩:=fc hT hi;exact⟨d,hu⟩
def rY{x y:Int}:bE x y=true↔x<=y:=by simp[bE]
def Rd.sub{S:Nat->Prop}{e:Nat}{t:Ty}{A:Option Addr}{m c:Nat}{xs:List t.den}(h:Rd w S (.sl e t) [.slice A m c] xs){l k q:Nat}(h1:l<=k)(h2:k<=xs.length)(h3:k<=q)(h4:q<=c) :
  Rd w S (.sl e t) [sliced A l k q t.nc] ((xs.drop l).take (k-l)):=by
 obtain⟨A',n,c',e1,g1,g2,g3,g4⟩:=h;injection e1 with e1;injection e1 with a1 a2 a3;subst a1 a2 a3;have hlen:((xs.drop l).take (k-l)).length=k-l:=by rw[List.length_take,List.length_drop];omega
 refine⟨_,_,_,rfl,hlen,by omega,by simp only[maxLen]at g3 ⊢;omega, ?_⟩;by_cases hk:k-l=0;·exact .inl hk
 ·rcases g4 with g4|⟨ad,css,rfl,g5,g6,g7⟩;·omega
  ·have hne:¬ q=l:=by omega
   refine .inr ⟨ad.add (l*t.nc),(css.drop l).take (k-l), ?_,by rw[rO];exact g5,g6.drop_take _ _,λi u hu=>?_⟩;·rw[if_neg hne];rfl
   ·rw[o7];refine g7 _ _ ?_;have hcl:∀c∈css,c.length=t.nc:=ai.fst (len:=List.length) (λ_ _ h=>Rd.len h) g6;have e1:css.flatten=(css.take l).flatten++((css.drop l).take (k-l)).flatten++((css.drop l).drop (k-l)).flatten:=by rw[<-List.flatten_append,<-List.flatten_append,List.append_assoc,List.take_append_drop,List.take_append_drop]
    have e2:(css.take l).flatten.length=l*t.nc:=by rw[nn (m:=t.nc) (λc hc=>hcl c (List.mem_of_mem_take hc)),List.length_take,g6.len,Nat.min_eq_left (by omega)]
    rw[e1,List.append_assoc,List.getElem?_append_right (by omega),e2,Nat.add_sub_cancel_left,List.getElem?_append_left (List.getElem?_eq_some_iff.1 hu).1];exact hu
def vH(h:R w0 lab0 oo n V E a w){r:Nat}{row:ac}(hr:V.row r=some row):∃A c,E.rv r=.slice A row.xs.length c/\row.xs.length<=c/\c<=maxLen/\(0<row.xs.length->∃g,A=some ⟨g,0,none⟩):=by
 obtain⟨css,ho,_⟩:=h.rows r row hr;rcases ho.2 with⟨e,h0⟩|⟨g,cap,cur,e,_,_,h1,h2,_⟩
 ·rw[h0]at *
  exact⟨none,0,e,Nat.le_refl _,Nat.zero_le _,λh=>absurd h (by omega)⟩
 ·exact⟨_,cap,e,h1,h2,λ_=>⟨g,rfl⟩⟩
def vJ{P:Program}{t e:Nat}(h:P.underlying t=some (.slice e)):P.elem t=e:=by simp[Program.elem,h]
def AH(h:R w0 lab0 oo n V E a w){x:Operand}{m:Int}(hx:ph V x=some m):∃k,a.eval x=.int k m:=by
 unfold ph at hx;split at hx;·rename_i k m' he;injection hx with hx;subst hx;have:=a6 h x;rw[he]at this;exact⟨k,this⟩
 ·cases hx
def vK(h:R w0 lab0 oo n V E a w){x:Option Operand}{m:Option Int}(hx:nq V x=some m):(m=none/\x.map a.eval=none)\/∃k q,m=some q/\x.map a.eval=some (.int k q):=by
 cases x with
 |none=>simp only[nq,Option.some.injEq]at hx;subst hx;exact .inl ⟨rfl,rfl⟩
 |some x =>
  simp only[nq]at hx;split at hx;·rename_i q hq;injection hx with hx;subst hx;obtain⟨k,hk⟩:=AH h hq;exact .inr ⟨k,q,rfl,by simp[hk]⟩
  ·cases hx
def Ij(s:ByteArray)(i:Int)(h:i.toNat<s.size):bt s i=((s[i.toNat]'h).toNat:Int):=by unfold bt;have h':i.toNat<s.data.size:=h;simp only[Array.getD,h',dite_true];rfl
def AI(hT:aX P T)(h:R w0 lab0 oo n V E a w){t:Nat}{ti:TI}(ht:T t=some ti){x y:af}{vx vy:Value}{c z:Bool}(he:lS V ti x y=some (c,z))(hc:c=true)
  (hx:aj V E w x vx) (hy:aj V E w y vy):(Op.equal t vx vy).run P w=.ok z w:=by
 subst hc;have hnil:∀e (A:Option Addr) (m c:Nat),ti.el=some e->(Op.equal t (.slice A m c) (.slice none 0 0)).run P w=.ok A.isNone w:=by
  intro e A m c hel;have hu:=gO hT ht hel;have key:∀d,(Op.equalIn (d+1) t (.slice A m c) (.slice none 0 0)).run P w=.ok A.isNone w:=λd=>by cases A<;>simp[Op.equalIn,run_underlying hu]
  exact key 9999
 unfold lS at he;split at he
 ·obtain rfl:vx=_:=hx;obtain rfl:vy=_:=hy;rename_i b b';cases hq:(decide (ti.ty=.bool)&&(!ti.agg&&ti.el.isNone));·rw[hq]at he;cases he
  ·rw[hq]at he;simp only[cond_true,Option.some.injEq,Prod.mk.injEq,true_and]at he;subst he;simp only[Bool.and_eq_true,decide_eq_true_eq,Bool.not_eq_true',Option.isNone_iff_eq_none]at hq;exact run_equal_bool w t b b' (Id hT ht hq.1 hq.2.1 hq.2.2)
 ·obtain rfl:vx=_:=hx;obtain rfl:vy=_:=hy;cases hq:ti.el with
  |none=>rw[hq]at he;cases he
  |some e =>rw[hq]at he;simp only[Option.isSome_some,cond_true,Option.some.injEq,Prod.mk.injEq,true_and]at he;subst he;exact hnil e none 0 0 hq
 ·obtain rfl:vy=_:=hy;cases hq:ti.el with
  |none=>rw[hq]at he;cases he
  |some e =>
   rw[hq]at he;simp only[Option.isSome_some,cond_true,Option.some.injEq,Prod.mk.injEq,decide_eq_true_eq]at he;obtain⟨h0,rfl⟩:=he;obtain⟨A,m,d,hv,h1,h2,h3,h4⟩:=hx;injection hv with hv;subst hv;rcases h4 with h4|⟨ad,css,rfl,_⟩;·omega
   ·exact hnil e _ m d hq
 ·rename_i r;obtain rfl:vy=_:=hy;split at he
  ·rename_i row hrow;cases hq:ti.el with
   |none=>rw[hq]at he;cases he
   |some e =>
    rw[hq]at he;simp only[Option.isSome_some,cond_true]at he;obtain⟨rfl,_⟩:=hx;obtain⟨A,d,hv,h1,h2,h3⟩:=vH h hrow;obtain⟨css,ho,_,_,hn⟩:=h.rows r row hrow;cases hnl:row.nilE;·rw[hnl]at he;simp only[cond_false,Option.some.injEq,Prod.mk.injEq,decide_eq_true_eq]at he;obtain⟨h0,rfl⟩:=he;obtain⟨g,rfl⟩:=h3 h0;rw[hv];exact hnil e _ _ _ hq
    ·rw[hnl]at he;simp only[cond_true,Option.some.injEq,Prod.mk.injEq,true_and]at he;subst he;by_cases h0:row.xs.length=0;·rw[hn hnl h0];rw[decide_eq_true h0];exact hnil e none 0 0 hq
     ·obtain⟨g,rfl⟩:=h3 (by omega);rw[hv,decide_eq_false h0];exact hnil e _ _ _ hq
  ·cases he
 ·cases he
def Ik(t:TypeId)(s:ByteArray)(ht:P.underlying t=some .string)(kl kh:IntKind)(l h:Int)(h0:0<=l)(h1:l<=h)(h2:h<=s.size) :
  (Instr.slice t (.string s) (some (.int kl l)) (some (.int kh h)) none).run P w=.ok (.string (s.extract l.toNat h.toNat)) w:=by
 have eh:(h.toNat:Int)=h:=Int.toNat_of_nonneg (by omega);simp[Instr.slice,run_underlying ht,Instr.sliceBounds,run_sliceBound, *,eh,(by omega:0<=l),(by omega:0<=h)]
def Il{t:Nat}{s:ByteArray}{lo hi mx:Option Value}{l k m:Option Int}{c:Bool}{z:af}(hu:P.underlying t=some .string)(hs:jT V (.str s) l k m=some (c,z))(hc:c=true)
  (hl:(l=none/\lo=none)\/∃kd q,l=some q/\lo=some (.int kd q)) (hk:(k=none/\hi=none)\/∃kd q,k=some q/\hi=some (.int kd q)) (hm:(m=none/\mx=none)\/∃kd q,m=some q/\mx=some (.int kd q)) :
  ∃v,(Instr.sliceAt t (.string s) lo hi mx).run P w=.ok v w/\aj V E w z v:=by
 subst hc;rw[run_sliceAt_string (P:=P) w t _ _ _ _ hu];rcases hl with⟨rfl,rfl⟩|⟨kl,ql,rfl,rfl⟩<;>rcases hk with⟨rfl,rfl⟩|⟨kh,qh,rfl,rfl⟩<;>rcases hm with⟨rfl,rfl⟩|⟨km,qm,rfl,rfl⟩ <;>
  simp only[jT,Option.some.injEq,Prod.mk.injEq,true_and,reduceCtorEq,Bool.and_eq_true,rY]at hs
 ·subst hs;exact⟨_,run_slice_string_all w t s hu,rfl⟩
 ·obtain⟨⟨h0,h1⟩,rfl⟩:=hs;exact⟨_,run_slice_string_h w t s hu kh qh h0 h1,rfl⟩
 ·obtain⟨⟨h0,h1⟩,rfl⟩:=hs;exact⟨_,run_slice_string_l w t s hu kl ql h0 h1,rfl⟩
 ·obtain⟨⟨h0,h1,h2⟩,rfl⟩:=hs;exact⟨_,Ik t s hu kl kh ql qh h0 h1 h2,rfl⟩
def Im(hT:aX P T){t e:Nat}{ti ei:TI}(ht:T t=some ti)(hel:ti.el=some e)(hei:T e=some ei){e':Nat}{ty:Ty}{xs:List ty.den}{p:Option Nat}(hnc:ei.zero.length=ty.nc){vx:Value}(hx:aj V E w (.sn e' ty xs p) vx)
  {lo hi mx:Option Value}{l k m:Option Int}{c:Bool}{z:af} (hs:jT V (.sn e' ty xs p) l k m=some (c,z)) (hc:c=true)
  (hl:(l=none/\lo=none)\/∃kd q,l=some q/\lo=some (.int kd q)) (hk:(k=none/\hi=none)\/∃kd q,k=some q/\hi=some (.int kd q)) (hm:(m=none/\mx=none)\/∃kd q,m=some q/\mx=some (.int kd q)) :
  ∃v,(Instr.sliceAt t vx lo hi mx).run P w=.ok v w/\aj V E w z v:=by
 subst hc;have hu:=gO hT ht hel;have hel':=vJ hu;have hu':P.underlying t=some (.slice (P.elem t)):=by rw[hel'];exact hu
 have hsz:(sizeOf (P.elem t)).run P w=.ok ty.nc w:=by rw[hel',lT hT hei,hnc]
 have hx':Rd w (λk=>E.lab k=bh p) (.sl e' ty) [vx] xs:=hx;obtain⟨A,n',c',hv,hn,hnc',hmx,_⟩:=id hx';injection hv with hv;subst hv;rw[run_sliceAt_slice (P:=P) w t _ _ _ _ hu'];rcases hl with⟨rfl,rfl⟩|⟨kl,ql,rfl,rfl⟩<;>rcases hk with⟨rfl,rfl⟩|⟨kh,qh,rfl,rfl⟩<;>rcases hm with⟨rfl,rfl⟩|⟨km,qm,rfl,rfl⟩ <;>
  simp only[jT,Option.some.injEq,Prod.mk.injEq,true_and,reduceCtorEq,Bool.and_eq_true,rY,decide_eq_true_eq]at hs
 ·obtain⟨⟨h0,h1⟩,rfl⟩:=hs;rw[run_slice_h w t A n' c' hu' kh qh h0 (by omega),hsz];have:=Rd.sub hx' (l:=0) (k:=qh.toNat) (q:=c') (Nat.zero_le _) (by omega) (by omega) (Nat.le_refl _);simp only[List.drop_zero,Nat.sub_zero]at this;exact⟨_,rfl,this⟩
 ·obtain⟨⟨h0,h1,rfl⟩,rfl⟩:=hs;rw[run_slice_hm w t A n' c' hu' kh km qm qm h0 (Int.le_refl _) (by omega),hsz];have:=Rd.sub hx' (l:=0) (k:=qm.toNat) (q:=qm.toNat) (Nat.zero_le _) (by omega) (Nat.le_refl _) (by omega);simp only[List.drop_zero,Nat.sub_zero]at this;refine⟨_,rfl,this, ?_⟩;have hlen:(xs.take qm.toNat).length=qm.toNat:=by rw[List.length_take];omega
  rw[hlen];exact⟨_,rfl⟩
 ·obtain⟨⟨h0,h1⟩,rfl⟩:=hs;rw[run_slice_l w t A n' c' hu' kl ql h0 (by omega),hsz];have:=Rd.sub hx' (l:=ql.toNat) (k:=n') (q:=c') (by omega) (by omega) (by omega) (Nat.le_refl _);rw[List.take_of_length_le (by rw[List.length_drop];omega)]at this;exact⟨_,rfl,this⟩
 ·obtain⟨⟨h0,h1,h2⟩,rfl⟩:=hs;rw[run_slice_lh w t A n' c' hu' kl kh ql qh h0 h1 (by omega),hsz];have:=Rd.sub hx' (l:=ql.toNat) (k:=qh.toNat) (q:=c') (by omega) (by omega) (by omega) (Nat.le_refl _);have e1:qh.toNat-ql.toNat=(qh-ql).toNat:=by omega
  rw[e1]at this;exact⟨_,rfl,this⟩
def In(hT:aX P T)(h:R w0 lab0 oo n V E a w){t e:Nat}{ti ei:TI}(ht:T t=some ti)(hel:ti.el=some e)(hei:T e=some ei){r:Nat}{row:ac}(hrow:V.row r=some row)(hnc:ei.zero.length=row.t.nc){vx:Value}(hx:aj V E w (.own r) vx)
  {lo hi mx:Option Value}{l k m:Option Int}{c:Bool}{z:af} (hs:jT V (.own r) l k m=some (c,z)) (hc:c=true)
  (hl:(l=none/\lo=none)\/∃kd q,l=some q/\lo=some (.int kd q)) (hk:(k=none/\hi=none)\/∃kd q,k=some q/\hi=some (.int kd q)) (hm:(m=none/\mx=none)\/∃kd q,m=some q/\mx=some (.int kd q)) :
  ∃v,(Instr.sliceAt t vx lo hi mx).run P w=.ok v w/\aj V E w z v:=by
 subst hc;have hu:=gO hT ht hel;have hel':=vJ hu;have hu':P.underlying t=some (.slice (P.elem t)):=by rw[hel'];exact hu
 have hsz:(sizeOf (P.elem t)).run P w=.ok row.t.nc w:=by rw[hel',lT hT hei,hnc]
 obtain⟨A,d,hv,h1,h2,h3⟩:=vH h hrow;obtain⟨rfl,_⟩:=hx;rw[hv,run_sliceAt_slice (P:=P) w t _ _ _ _ hu'];have part:∀(q k:Nat),q<=k->k<=row.xs.length->aj V E w (.part r q ((k:Int)-q)) (sliced A q k d row.t.nc):=by
  intro q k hq hk;refine⟨row,(if d=q then A else A.map (·.add (q*row.t.nc))),d-q,hrow,by omega,by omega,by omega, ?_, ?_, ?_,λh0=>?_⟩
  ·unfold sliced;congr 1;omega
  ·omega
  ·simp only[maxLen]at h2 ⊢;omega
  ·obtain⟨g,rfl⟩:=h3 (by omega);refine⟨g,_,_,hv, ?_⟩;rw[if_neg (by omega)];simp[gP]
 rcases hl with⟨rfl,rfl⟩|⟨kl,ql,rfl,rfl⟩<;>rcases hk with⟨rfl,rfl⟩|⟨kh,qh,rfl,rfl⟩<;>rcases hm with⟨rfl,rfl⟩|⟨km,qm,rfl,rfl⟩ <;>
  simp only[jT,hrow,Option.some.injEq,Prod.mk.injEq,true_and,reduceCtorEq,Bool.and_eq_true,rY,decide_eq_true_eq]at hs
 ·obtain⟨⟨h0,h4⟩,rfl⟩:=hs;rw[run_slice_h w t A _ d hu' kh qh h0 (by omega),hsz];have:=part 0 qh.toNat (Nat.zero_le _) (by omega);rw[Int.toNat_of_nonneg h0]at this;exact⟨_,rfl,by simpa using this⟩
 ·obtain⟨⟨h0,h4⟩,rfl⟩:=hs;rw[run_slice_l w t A _ d hu' kl ql h0 (by omega),hsz];have:=part ql.toNat row.xs.length (by omega) (Nat.le_refl _);rw[Int.toNat_of_nonneg h0]at this;exact⟨_,rfl,this⟩
 ·obtain⟨⟨h0,h4,h5⟩,rfl⟩:=hs;rw[run_slice_lh w t A _ d hu' kl kh ql qh h0 h4 (by omega),hsz];have:=part ql.toNat qh.toNat (by omega) (by omega);rw[Int.toNat_of_nonneg h0,Int.toNat_of_nonneg (by omega)]at this;exact⟨_,rfl,this⟩
end
end Go.Fw
namespace Go.Fw
open Go.RowKit
section
variable {P : Program} {V : St} {E : aM} {w : World} {w0 : World} {lab0 : Nat → ay} {oo : Nat → Value} {n : Nat} {a : Act} {T : bc} [DC]
def AJ(h:R w0 lab0 oo n V E a w):∀{xs:List Operand}{l:List (Nat×Nat)},pi V xs=some l->(xs.map a.eval)=l.map (λp=>Value.pointer (some ⟨E.bb p.1,p.2,none⟩))/\∀p∈l,∃te cs,V.box p.1=some (te,cs)/\p.2<cs.length
 |[],l,e=>by simp only[pi,Option.some.injEq]at e;subst e;exact⟨rfl,λp hp=>by simp at hp⟩
 |x::xs,l,e=>by
  simp only[pi]at e;split at e
  ·rename_i b f l' h1 h2;injection e with e;subst e;obtain⟨g1,g2⟩:=AJ h h2;have hx:=a6 h x;rw[h1]at hx;obtain⟨hx,te,cs,h3,h4⟩:=hx;refine⟨by simp only[List.map_cons,hx,g1],λp hp=>?_⟩;rcases List.mem_cons.1 hp with rfl|hp;·exact⟨te,cs,h3,h4⟩
   ·exact g2 p hp
  ·cases e
def Io(hT:aX P T)(h:R w0 lab0 oo n V E a w){t e:Nat}{ti:TI}(ht:T t=some ti)(hel:ti.el=some e){x:af}{v:Value}{m:Int}(hx:aj V E w x v)(hm:rV V x=some m)(ty:TypeId):(Builtin.len_ #[t] ty #[v]).run P w=.ok (.int .i64 m) w:=by
 have hu:=gO hT ht hel;have key:∀(A:Option Addr) (k c:Nat),(Builtin.len_ #[t] ty #[.slice A k c]).run P w=.ok (goInt k) w:=λA k c=>by refine run_len_slice w t ty A k c (by rw[vJ hu];exact hu)
 unfold rV at hm;split at hm;·injection hm with hm;subst hm;obtain⟨A,k,c,hv,h1,_⟩:=hx;injection hv with hv;subst hv;rw[key,h1];rfl
 ·injection hm with hm;subst hm;obtain⟨_,A,rfl⟩:=hx;rw[key];rfl
 ·injection hm with hm;subst hm;obtain rfl:v=_:=hx;rw[key];rfl
 ·rename_i r;split at hm;·rename_i row hrow;injection hm with hm;subst hm;obtain⟨rfl,_⟩:=hx;obtain⟨A,c,hv,_⟩:=vH h hrow;rw[hv,key];rfl
  ·cases hm
 ·injection hm with hm;subst hm;obtain⟨row,A,c,h1,h2,h3,h4,rfl,_⟩:=hx;rw[key];simp only[goInt];congr 2;omega
 ·cases hm
def Ip(hT:aX P T)(h:R w0 lab0 oo n V E a w){t e:Nat}{ti:TI}(ht:T t=some ti)(hel:ti.el=some e){x:af}{v:Value}{m:Int}(hx:aj V E w x v)(hm:AE V x=some m)(ty:TypeId):(Builtin.len_ #[t] ty #[v]).run P w=.ok (.int .i64 m) w:=Io hT h ht hel hx.weak (show rV V x.weak=some m from hm) ty
def AK{k:IntKind}:∀{css:List (List Value)}{xs:List Int},ai (λc (y:Int)=>c=[.int k y]) css xs->css.flatten=xs.map (Value.int k)
 |[],[],_=>rfl
 |c::css,x::xs,h=>by obtain⟨h1,h2⟩:=h;rw[List.flatten_cons,show c=[.int k x]from h1,AK h2];rfl
def Iq(hT:aX P T)(h:R w0 lab0 oo n V E a w){s e d:Nat}{si ei:TI}(hs:T s=some si)(hel:si.el=some e)(hei:T e=some ei)(h1:ei.ty=.int .u8)(h2:ei.agg=false)(h3:ei.el=none)(hd:P.underlying d=some .string)
  {x:af}{v:Value}{b:ByteArray} (hx:aj V E w x v) (hb:vD V x=some b):(convert s d v).run P w=.ok (.string b) w:=by
 have hu:=gO hT hs hel;have hue:=AG hT hei h1 h2 h3;unfold vD at hb;split at hb
 ·rename_i r;split at hb
  ·rename_i row hrow;split at hb
   ·rename_i ys hy;injection hb with hb;subst hb;obtain⟨re,rt,xs,dp,nl⟩:=row;obtain⟨he,hxs⟩:=gk hy;have he':rt=.int .u8:=he;subst he';have hxs':xs=ys:=hxs;subst hxs';obtain⟨rfl,_⟩:=hx;have hrd:=(h.rows r _ hrow).rd (S:=λ_=>True) (λ_ _=>trivial) (λ_ _=>trivial);obtain⟨A,k,c,hv,g1,g2,g3,g4⟩:=hrd;injection hv with hv;rw[hv];rcases g4 with g4|⟨ad,css,rfl,_,g6,g7⟩
    ·subst g4;have hx0:xs=[]:=List.eq_nil_of_length_eq_zero g1;subst hx0;cases A with
     |none=>exact run_convert_bytes_nil w s e hu hue 0 c d hd
     |some ad =>
      obtain⟨g,hg⟩:∃g,ad=⟨g,0,none⟩:=by
       obtain⟨css,ho,_⟩:=h.rows r _ hrow;rcases ho.2 with⟨e0,_⟩|⟨g,cap,cur,e0,_⟩;·rw[hv]at e0;cases e0
       ·rw[hv]at e0;injection e0 with e0;injection e0 with e0;exact⟨g,e0⟩
      subst hg;exact run_convert_bytes_arg w s e hu hue g 0 0 c [] rfl (λi hi=>by omega) d hd
    ·obtain⟨g,hg⟩:∃g,ad=⟨g,0,none⟩:=by
      obtain⟨css,ho,_⟩:=h.rows r _ hrow;rcases ho.2 with⟨e0,_⟩|⟨g,cap,cur,e0,_⟩;·rw[hv]at e0;cases e0
      ·rw[hv]at e0;injection e0 with e0;injection e0 with e0;exact⟨g,e0⟩
     subst hg;refine run_convert_bytes_arg w s e hu hue g 0 k c xs g1 (λi hi=>?_) d hd;have hf:=AK (k:=.u8) (css:=css) (xs:=xs) g6;have hg1:List.length xs=k:=g1;have:=g7 i (.int .u8 (xs.getD i 0)) (by rw[hf,List.getElem?_map,List.getD_eq_getElem?_getD,List.getElem?_eq_getElem (show i<List.length xs by omega)];rfl);rw[gP]at this;exact this
   ·cases hb
  ·cases hb
 ·injection hb with hb;subst hb;obtain rfl:v=_:=hx;exact run_convert_bytes_nil w s e hu hue 0 0 d hd
 ·cases hb
def Ir(hT:aX P T)(h:R w0 lab0 oo n V E a w){t:Nat}{ti:TI}(ht:T t=some ti){u:af}{v:Value}{c:Bool}{sv:SV}(hx:aj V E w u v)(hm:vE V ti u=some (c,sv))(ty:TypeId) :
  c=true/\∃m,sv=.c (.int .i64 m)/\(Builtin.len_ #[t] ty #[v]).run P w=.ok (.int .i64 m) w:=by
 unfold vE at hm;split at hm
 ·split at hm
  ·rename_i te kt xs hb;cases hq:(fA ti kt&&Nat.ble bV te);·rw[hq]at hm;cases hm
   ·rw[hq]at hm;simp only[Bool.and_eq_true]at hq;simp only[cond_true,Option.some.injEq,Prod.mk.injEq]at hm;obtain⟨rfl,rfl⟩:=hm;obtain⟨rfl,_⟩:=hx;exact⟨rfl,_,rfl,Ib hT h ht hq.1 hb (Nat.le_of_ble_eq_true hq.2) ty⟩
  ·cases hm
 ·cases hm
def Is(hT:aX P T)(h:R w0 lab0 oo n V E a w){t:Nat}{ti:TI}(ht:T t=some ti){u k:af}{v kv:Value}{c:Bool}{sv:SV}(hx:aj V E w u v)(hk:aj V E w k kv)(hm:vF V ti k u=some (c,sv)) :
  ∃b,sv=.c (.bool b)/\(Instr.lookup t v kv false).run P w=.ok (.bool b) w:=by
 unfold vF at hm;split at hm
 ·split at hm
  ·rename_i te kt xs hb;cases hq:(fA ti kt&&Nat.ble bV te);·rw[hq]at hm;cases hm
   ·rw[hq]at hm;simp only[Bool.and_eq_true]at hq;simp only[cond_true]at hm;split at hm;·rename_i y hy;simp only[Option.some.injEq,Prod.mk.injEq]at hm;obtain⟨_,rfl⟩:=hm;obtain⟨rfl,_⟩:=hx;exact⟨_,rfl,Ia hT h ht hq.1 hb (Nat.le_of_ble_eq_true hq.2) hy hk⟩
    ·cases hm
  ·cases hm
 ·cases hm
def aK.c_inv{x:af}{v:Value}(h:aK V E w (.c x) v):aj V E w x v:=h
def AL{u:af}{v:Value}(hu:rX u=true)(h:aj V E w u v):∃ad,v=.pointer (some ad):=by
 cases u<;>first | (cases hu;done)|skip
 ·exact⟨_,h.1⟩
 ·obtain⟨row,g,n,c,_,_,_,_,_,h6⟩:=h;exact⟨_,h6⟩
 ·obtain⟨ad,cs,h1,_⟩:=h;exact⟨_,h1⟩
def kF(hT:aX P T)(h:R w0 lab0 oo n V E a w){o:Oper}{c:Bool}{sv:SV}(hv:cd T V o.op=some (c,sv))(hc:c=true) :
  ∃v,(execOp a.eval o).run P w=.ok (.value v) w/\aK V E w sv v:=by
 obtain⟨dst,op,oty,pos,after,guard⟩:=o;have fin:∀{s:Sem Value}{sv:SV},(∃v,s.run P w=.ok v w/\aK V E w sv v)->∃v,(do pure (Next.value (<-s)):Sem Next).run P w=.ok (.value v) w/\aK V E w sv v:=by
  rintro s sv ⟨v,h1,h2⟩
  exact⟨v,by simp[h1],h2⟩
 cases op with
 |move x =>simp only[cd,Option.some.injEq,Prod.mk.injEq]at hv;obtain⟨_,rfl⟩:=hv;exact⟨_,rfl,a6 h x⟩
 |assign x =>simp only[cd,Option.some.injEq,Prod.mk.injEq]at hv;obtain⟨_,rfl⟩:=hv;exact⟨_,rfl,a6 h x⟩
 |load t x =>
  simp only[cd]at hv;split at hv
  ·rename_i i u ht hx;split at hv;·rename_i z hz;simp only[Option.some.injEq,Prod.mk.injEq]at hv;obtain⟨_,rfl⟩:=hv;have:=a6 h x;rw[hx]at this;exact fin (let⟨v,h1,h2⟩:=vj hT h ht hz this;⟨v,h1 w (bL.refl w),h2⟩)
   ·cases hv
  ·cases hv
 |binOp op t x y t' =>
  simp only[cd]at hv;split at hv
  ·rename_i b hb;obtain⟨hx,rfl⟩:=Ig hb;have rx:=a6 h x;rw[hx]at rx;have hE:jN (a.eval x) b:=rx.c_inv;split at hv
   ·rename_i i hi;cases hq:decide (i.ty=.err)&&(!i.agg&&i.el.isNone);·rw[hq]at hv;cases hv
    ·rw[hq]at hv;simp only[cond_true]at hv;simp only[Bool.and_eq_true,decide_eq_true_eq,Bool.not_eq_true',Option.isNone_iff_eq_none]at hq;obtain⟨ms,hu⟩:=Ie hT hi hq.1 hq.2.1 hq.2.2;have g:=If (P:=P) (w:=w) hu hE;have gg:=Ih (P:=P) (w:=w) (op:=op) (t:=t) (x:=x) hE;split at hv
     ·simp only[Option.some.injEq,Prod.mk.injEq]at hv;obtain⟨rfl,rfl⟩:=hv;refine fin ⟨.bool (!b), ?_,rfl⟩;rw[Sem.run_bind,show a.eval (.const .nilIface)=.nilIface from rfl,gg];have:binOp .eql t (a.eval x) .nilIface=(do pure (.bool (<-Op.equal t (a.eval x) .nilIface)):Sem Value):=by rcases hE with⟨e,_⟩|⟨u,p,e,_⟩<;>(rw[e];rfl)
      simp[this,g]
     ·simp only[Option.some.injEq,Prod.mk.injEq]at hv;obtain⟨rfl,rfl⟩:=hv;refine fin ⟨.bool b, ?_,rfl⟩;rw[Sem.run_bind,show a.eval (.const .nilIface)=.nilIface from rfl,gg];have:binOp .neq t (a.eval x) .nilIface=(do pure (.bool (!(<-Op.equal t (a.eval x) .nilIface))):Sem Value):=by rcases hE with⟨e,_⟩|⟨u,p,e,_⟩<;>(rw[e];rfl)
      simp[this,g]
     ·cases hv
   ·cases hv
  ·split at hv
   ·rename_i u v hx hy;have rx:=a6 h x;have ry:=a6 h y;rw[hx]at rx;rw[hy]at ry;split at hv
    ·rename_i c' z hz;simp only[Option.some.injEq,Prod.mk.injEq]at hv;obtain⟨rfl,rfl⟩:=hv;have hu:u≠.undef:=λe=>by subst e;unfold oY at hz;cases hz
     have hE:∀b,u≠.err b:=λb e=>by subst e;unfold oY at hz;cases hz
     obtain⟨p1,p2⟩:=aj.plain hu hE rx.c_inv;obtain⟨v',g1,g2⟩:=HV (P:=P) hz hc rx.c_inv ry.c_inv t;refine fin ⟨v', ?_,g2⟩;rw[Sem.run_bind,rN p1 p2];exact g1
    ·split at hv
     ·rename_i i hi;split at hv
      ·rename_i c' z hz;have hu:u≠.undef:=λe=>by subst e;unfold lS at hz;cases hz
       have hE:∀b,u≠.err b:=λb e=>by subst e;unfold lS at hz;cases hz
       obtain⟨p1,p2⟩:=aj.plain hu hE rx.c_inv;split at hv
       ·simp only[Option.some.injEq,Prod.mk.injEq]at hv;obtain⟨rfl,rfl⟩:=hv;have g:=AI hT h hi hz hc rx.c_inv ry.c_inv;refine fin ⟨.bool z, ?_,rfl⟩;rw[Sem.run_bind,rN p1 p2];have:binOp .eql t (a.eval x) (a.eval y)=(do pure (.bool (<-Op.equal t (a.eval x) (a.eval y))):Sem Value):=by
         have rx':=rx.c_inv;have ry':=ry.c_inv;unfold lS at hz;split at hz;·rw[show a.eval x=_ from rx',show a.eval y=_ from ry'];rfl
         ·rw[show a.eval x=_ from rx',show a.eval y=_ from ry'];rfl
         ·obtain⟨A,m,d,e,_⟩:=rx';injection e with e;rw[e,show a.eval y=_ from ry'];rfl
         ·obtain⟨_,_,A,m,d,e⟩:=rx';rw[e,show a.eval y=_ from ry'];rfl
         ·cases hz
        simp[this,g]
       ·simp only[Option.some.injEq,Prod.mk.injEq]at hv;obtain⟨rfl,rfl⟩:=hv;have g:=AI hT h hi hz hc rx.c_inv ry.c_inv;refine fin ⟨.bool (!z), ?_,rfl⟩;rw[Sem.run_bind,rN p1 p2];have:binOp .neq t (a.eval x) (a.eval y)=(do pure (.bool (!(<-Op.equal t (a.eval x) (a.eval y)))):Sem Value):=by
         have rx':=rx.c_inv;have ry':=ry.c_inv;unfold lS at hz;split at hz;·rw[show a.eval x=_ from rx',show a.eval y=_ from ry'];rfl
         ·rw[show a.eval x=_ from rx',show a.eval y=_ from ry'];rfl
         ·obtain⟨A,m,d,e,_⟩:=rx';injection e with e;rw[e,show a.eval y=_ from ry'];rfl
         ·obtain⟨_,_,A,m,d,e⟩:=rx';rw[e,show a.eval y=_ from ry'];rfl
         ·cases hz
        simp[this,g]
       ·cases hv
      ·cases hv
     ·cases hv
   ·cases hv
 |unOp op t x =>
  simp only[cd]at hv;split at hv
  ·rename_i u hx;have rx:=a6 h x;rw[hx]at rx;split at hv;·rename_i z hz;simp only[Option.some.injEq,Prod.mk.injEq]at hv;obtain⟨_,rfl⟩:=hv;exact fin (HW hz rx.c_inv)
   ·cases hv
  ·cases hv
 |fieldAddr s x f =>
  simp only[cd]at hv;split at hv
  ·rename_i i u hs hx;have rx:=a6 h x;rw[hx]at rx;split at hv
   ·rename_i a7 m ag hf;split at hv;·rename_i z hz;simp only[Option.some.injEq,Prod.mk.injEq]at hv;obtain⟨_,rfl⟩:=hv;exact fin (let⟨v,h1,h2⟩:=vg hT hs hf hz rx.c_inv;⟨v,h1 w,h2⟩)
    ·cases hv
   ·cases hv
  ·cases hv
 |indexAddr t x i =>
  simp only[cd]at hv;split at hv
  ·rename_i ti u v ht hx hi;have rx:=a6 h x;have ri:=a6 h i;rw[hx]at rx;rw[hi]at ri;split at hv
   ·rename_i e he;split at hv
    ·rename_i ei hei;split at hv;·rename_i c' z hz;simp only[Option.some.injEq,Prod.mk.injEq]at hv;obtain⟨rfl,rfl⟩:=hv;exact fin (let⟨v,h1,h2⟩:=vf hT h ht he hei hz hc rx.c_inv ri.c_inv;⟨v,h1 w,h2⟩)
     ·cases hv
    ·cases hv
   ·cases hv
  ·cases hv
 |index t x i =>
  simp only[cd]at hv;split at hv
  ·rename_i ti s k m ht hx hi;have rx:=a6 h x;have ri:=a6 h i;rw[hx]at rx;rw[hi]at ri;cases hq:(decide (ti.ty=.str)&&(!ti.agg&&ti.el.isNone));·rw[hq]at hv;cases hv
   ·rw[hq]at hv;simp only[cond_true,Option.some.injEq,Prod.mk.injEq]at hv;obtain⟨rfl,rfl⟩:=hv;simp only[Bool.and_eq_true,decide_eq_true_eq,Bool.not_eq_true',Option.isNone_iff_eq_none]at hq hc;have hu:=nr hT ht hq.1 hq.2.1 hq.2.2;have rx':a.eval x=.string s:=rx;have ri':a.eval i=.int k m:=ri;refine fin ⟨_, ?_,rfl⟩;rw[rx',ri',run_index_string w t s k m hu,dif_pos hc];rw[Ij s m (by omega)]
  ·cases hv
 |lookup t x i ok =>
  cases ok with
  |true=>cases hv
  |false =>
   simp only[cd]at hv;split at hv;·rename_i ti u k ht hx hk;have rx:=a6 h x;have rk:=a6 h i;rw[hx]at rx;rw[hk]at rk;obtain⟨b,rfl,g⟩:=Is hT h ht rx rk hv;exact fin ⟨_,g,rfl⟩
   ·cases hv
 |slice t x lo hi mx =>
  simp only[cd]at hv;split at hv
  ·rename_i ti u l k m ht hx hl hh hm;have rx:=a6 h x;rw[hx]at rx;have rl:=vK h hl;have rh:=vK h hh;have rm:=vK h hm;split at hv
   ·rename_i s;cases hq:(decide (ti.ty=.str)&&(!ti.agg&&ti.el.isNone));·rw[hq]at hv;cases hv
    ·rw[hq]at hv;simp only[cond_true]at hv;split at hv;·rename_i c' z hz;simp only[Option.some.injEq,Prod.mk.injEq]at hv;obtain⟨rfl,rfl⟩:=hv;simp only[Bool.and_eq_true,decide_eq_true_eq,Bool.not_eq_true',Option.isNone_iff_eq_none]at hq;have hu:=nr hT ht hq.1 hq.2.1 hq.2.2;have rx':a.eval x=.string s:=rx;obtain⟨v,g1,g2⟩:=Il (P:=P) (E:=E) (w:=w) hu hz hc rl rh rm;exact fin ⟨v,by rw[rx'];exact g1,g2⟩
     ·cases hv
   ·rename_i e' ty xs p;split at hv
    ·rename_i e he;split at hv
     ·rename_i ei hei;cases hq:Nat.beq ei.zero.length ty.nc;·rw[hq]at hv;cases hv
      ·rw[hq]at hv;simp only[cond_true]at hv;split at hv;·rename_i c' z hz;simp only[Option.some.injEq,Prod.mk.injEq]at hv;obtain⟨rfl,rfl⟩:=hv;exact fin (Im hT ht he hei (Nat.eq_of_beq_eq_true hq) rx.c_inv hz hc rl rh rm)
       ·cases hv
     ·cases hv
    ·cases hv
   ·rename_i r;split at hv
    ·rename_i e row he hrow;split at hv
     ·rename_i ei hei;cases hq:Nat.beq ei.zero.length row.t.nc;·rw[hq]at hv;cases hv
      ·rw[hq]at hv;simp only[cond_true]at hv;split at hv;·rename_i c' z hz;simp only[Option.some.injEq,Prod.mk.injEq]at hv;obtain⟨rfl,rfl⟩:=hv;exact fin (In hT h ht he hei hrow (Nat.eq_of_beq_eq_true hq) rx.c_inv hz hc rl rh rm)
       ·cases hv
     ·cases hv
    ·cases hv
   ·cases hv
  ·cases hv
 |nilCheck x =>
  simp only[cd]at hv;split at hv
  ·rename_i u hx;have rx:=a6 h x;rw[hx]at rx;have rx:aj V E w u (a.eval x):=rx;cases hu:rX u;·rw[hu]at hv;cases hv
   ·rw[hu]at hv;simp only[cond_true,Option.some.injEq,Prod.mk.injEq]at hv;obtain⟨_,rfl⟩:=hv;obtain⟨ad,hv⟩:=AL hu rx;exact⟨a.eval x,by simp[execOp,hv],rx⟩
  ·cases hv
 |extract x i =>
  simp only[cd]at hv;split at hv
  ·rename_i l hx;have rx:=a6 h x;rw[hx]at rx;obtain⟨arr,hr,hall⟩:=rx;split at hv
   ·rename_i cs hl;simp only[Option.some.injEq,Prod.mk.injEq]at hv;obtain⟨_,rfl⟩:=hv;have:∃u,arr.toList[i]? = some u/\∃ar:Array Value,u=.agg ar/\ai (aj V E w) cs ar.toList:=by
     have hlt:=(List.getElem?_eq_some_iff.1 hl).1;have key:∀{l:List (Bool×List af)}{vs:List Value}{i:Nat},ai (λ(p:Bool×List af) u=>cond p.1 (∃ar:Array Value,u=.agg ar/\ai (aj V E w) p.2 ar.toList) (ai (aj V E w) p.2 [u])) l vs->∀{p},l[i]? = some p->∃u,vs[i]? = some u/\cond p.1 (∃ar:Array Value,u=.agg ar/\ai (aj V E w) p.2 ar.toList) (ai (aj V E w) p.2 [u]):=by
      intro l;induction l with
      |nil=>intro vs i h p hp;simp at hp
      |cons q l ih =>
       intro vs i h p hp;cases vs with
       |nil=>exact h.elim
       |cons v vs =>
        cases i with
        |zero=>simp at hp;subst hp;exact⟨v,rfl,h.1⟩
        |succ i=>simpa using ih h.2 (i:=i) (by simpa using hp)
     obtain⟨u,k1,k2⟩:=key hall hl;exact⟨u,k1,k2⟩
    obtain⟨u,k1,k2⟩:=this;refine fin ⟨u, ?_,k2⟩;have k1':arr[i]? = some u:=by simpa using k1
    rw[hr];simp[Instr.extract,k1']
   ·rename_i c0 hl;simp only[Option.some.injEq,Prod.mk.injEq]at hv;obtain⟨_,rfl⟩:=hv;have:∃u,arr.toList[i]? = some u/\ai (aj V E w) [c0] [u]:=by
     have key:∀{l:List (Bool×List af)}{vs:List Value}{i:Nat},ai (λ(p:Bool×List af) u=>cond p.1 (∃ar:Array Value,u=.agg ar/\ai (aj V E w) p.2 ar.toList) (ai (aj V E w) p.2 [u])) l vs->∀{p},l[i]? = some p->∃u,vs[i]? = some u/\cond p.1 (∃ar:Array Value,u=.agg ar/\ai (aj V E w) p.2 ar.toList) (ai (aj V E w) p.2 [u]):=by
      intro l;induction l with
      |nil=>intro vs i h p hp;simp at hp
      |cons q l ih =>
       intro vs i h p hp;cases vs with
       |nil=>exact h.elim
       |cons v vs =>
        cases i with
        |zero=>simp at hp;subst hp;exact⟨v,rfl,h.1⟩
        |succ i=>simpa using ih h.2 (i:=i) (by simpa using hp)
     obtain⟨u,k1,k2⟩:=key hall hl;exact⟨u,k1,k2⟩
    obtain⟨u,k1,k2⟩:=this;refine fin ⟨u, ?_,k2.1⟩;have k1':arr[i]? = some u:=by simpa using k1
    rw[hr];simp[Instr.extract,k1']
   ·cases hv
  ·cases hv
 |convert s d x =>
  simp only[cd]at hv;split at hv
  ·rename_i si di u hs hd hx;have rx:=a6 h x;rw[hx]at rx;obtain⟨ds,hds⟩:=Ii hT hs;split at hv
   ·rename_i k0 m;have rx':a.eval x=.int k0 m:=rx;split at hv
    ·rename_i k hk;cases hq:(!di.agg&&di.el.isNone);·rw[hq]at hv;cases hv
     ·rw[hq]at hv;simp only[cond_true,Option.some.injEq,Prod.mk.injEq]at hv;obtain⟨_,rfl⟩:=hv;simp only[Bool.and_eq_true,Bool.not_eq_true',Option.isNone_iff_eq_none]at hq;have hu:=AG hT hd hk hq.1 hq.2;refine fin ⟨_, ?_,rfl⟩;rw[rx'];simp[convert,run_underlying hds,run_underlying hu,Conv.intToInt]
    ·cases hv
   ·rename_i b;have rx':a.eval x=.string b:=rx;cases hq:(decide (si.ty=.str)&&(decide (di.ty=.str)&&(!di.agg&&(di.el.isNone&&(!si.agg&&si.el.isNone)))));·rw[hq]at hv;cases hv
    ·rw[hq]at hv;simp only[cond_true,Option.some.injEq,Prod.mk.injEq]at hv;obtain⟨_,rfl⟩:=hv;simp only[Bool.and_eq_true,decide_eq_true_eq,Bool.not_eq_true',Option.isNone_iff_eq_none]at hq;have hu:=nr hT hd hq.2.1 hq.2.2.1 hq.2.2.2.1;have hu2:=nr hT hs hq.1 hq.2.2.2.2.1 hq.2.2.2.2.2;refine fin ⟨_, ?_,rfl⟩;rw[rx'];simp[convert,run_underlying hu2,run_underlying hu]
   ·split at hv
    ·rename_i e he;split at hv
     ·rename_i ei hei;cases hq:(decide (di.ty=.str)&&(!di.agg&&(di.el.isNone&&(decide (ei.ty=.int .u8)&&(!ei.agg&&ei.el.isNone)))));·rw[hq]at hv;cases hv
      ·rw[hq]at hv;simp only[cond_true]at hv;split at hv;·rename_i b hb;simp only[Option.some.injEq,Prod.mk.injEq]at hv;obtain⟨_,rfl⟩:=hv;simp only[Bool.and_eq_true,decide_eq_true_eq,Bool.not_eq_true',Option.isNone_iff_eq_none]at hq;have hu:=nr hT hd hq.1 hq.2.1 hq.2.2.1;exact fin ⟨_,Iq hT h hs he hei hq.2.2.2.1 hq.2.2.2.2.1 hq.2.2.2.2.2 hu rx.c_inv hb,rfl⟩
       ·cases hv
     ·cases hv
    ·cases hv
  ·cases hv
 |makeFunc fn first captured =>
  cases fn with
  |func f =>
   simp only[cd]at hv;cases hq:Nat.beq first.size 0
   ·rw[hq]at hv;cases hv
   ·rw[hq]at hv;simp only[cond_true]at hv;split at hv
    ·rename_i l hl;simp only[Option.some.injEq,Prod.mk.injEq]at hv;obtain⟨_,rfl⟩:=hv;have hf:first=#[]:=Array.eq_empty_of_size_eq_zero (Nat.eq_of_beq_eq_true hq)
     subst hf;obtain⟨g1,g2⟩:=AJ h hl;have e3:captured.map a.eval=(l.map λp=>Value.pointer (some ⟨E.bb p.1,p.2,none⟩)).toArray:=by apply Array.ext';rw[Array.toList_map];exact g1
     exact fin ⟨_,rfl,by rw[e3];simp,g2⟩
    ·cases hv
  |_=>cases hv
 |build t parts =>
  simp only[cd]at hv;split at hv
  ·rename_i ti ps ht hps;cases hag:ti.agg;·rw[hag]at hv;cases hv
   ·rw[hag]at hv;simp only[cond_true]at hv;split at hv
    ·rename_i cs hcs;simp only[Option.some.injEq,Prod.mk.injEq]at hv;obtain⟨_,rfl⟩:=hv;obtain⟨inf,d,z,i1,i2,i3,i4,i5,i6,i7,i8⟩:=fc hT ht;cases d with
     |struct fs =>
      have hz:=(lY (V:=V) (E:=E) (w:=w) i6).1;obtain⟨arr',k1,k2⟩:=vl hcs (vm h hps) hz;simp only[fM,Bool.and_eq_true]at i8;have hpl:∃places:Array (Nat×Nat),(fs.mapM λf=>do pure (f.offset,<-sizeOf f.type):Sem (Array (Nat×Nat))).run P w=.ok places w/\∀i,places[i]? = rW ti i:=by
       have e0:(λf:Field=>(do pure (f.offset,<-sizeOf f.type):Sem (Nat×Nat)))=λf=>Prod.mk f.offset <$> sizeOf f.type:=by funext f;exact bind_pure_comp (Prod.mk f.offset) (sizeOf f.type)
       rw[e0];have key:∀(l:List Field) (gs:List (Nat×Nat×Bool)),lQ P l gs=true->∃pl:List (Nat×Nat),(l.mapM λf=>Prod.mk f.offset <$> sizeOf f.type:Sem (List (Nat×Nat))).run P w=.ok pl w/\pl=gs.map λg=>(g.1,g.2.1):=by
        intro l;induction l with
        |nil=>intro gs hg;cases gs with
         |nil=>exact⟨[],by simp,rfl⟩
         |cons _ _=>cases hg
        |cons f l ih =>
         intro gs hg;cases gs with
         |nil=>cases hg
         |cons g gs =>have hg':=hg;simp only[lQ,Bool.and_eq_true]at hg;obtain⟨pl,k1,k2⟩:=ih gs hg.2;obtain⟨fd,e1,e2,_,e4⟩:=ve (P:=P) (f::l) (g::gs) 0 hg' (a7:=g.1) (n:=g.2.1) (ag:=g.2.2) rfl;simp only[List.getElem?_cons_zero,Option.some.injEq]at e1;subst e1;refine⟨(g.1,g.2.1)::pl, ?_,by rw[k2];rfl⟩;simp[List.mapM_cons,(e4 w).1,k1,e2]
       obtain⟨pl,k1,k2⟩:=key fs.toList ti.fields i8.2.2;refine⟨pl.toArray, ?_,λi=>?_⟩;·rw[Array.mapM_eq_mapM_toList];simp[k1]
       ·subst k2;simp only[List.getElem?_toArray,List.getElem?_map,rW];cases ti.fields[i]?<;>rfl
      obtain⟨places,p1,p2⟩:=hpl;refine fin ⟨.agg arr', ?_,arr',rfl,k2⟩;have hzv:(zeroValue t).run P w=.ok z w:=by simp[zeroValue,typeInfo,i1,i5]
      have hfn:(λi=>places[i]?)=rW ti:=funext p2;have e3:(parts.map λ(i,x)=>(i,a.eval x)).toList=parts.toList.map λq=>(q.1,a.eval q.2):=by simp
      simp only[Instr.build,Sem.run_bind,hzv,Result.andThen_ok,run_underlying i2,p1,hfn,e3,k1];rfl
     |_=>simp[fM,hag]at i8
    ·cases hv
  ·cases hv
 |call cl =>
  obtain⟨callee,args,ats⟩:=cl;cases callee with
  |builtin b =>
   cases b with
   |len =>
    simp only[cd]at hv;split at hv
    ·rename_i x t ha ht0;have ea:args=#[x]:=by apply Array.ext';simpa using ha
     have et:ats=#[t]:=by apply Array.ext';simpa using ht0
     subst ea et;have rx:=a6 h x;split at hv
     ·rename_i ti u ht hx;rw[hx]at rx;split at hv
      ·rename_i s hs;have eu:u=.str s:=by
        unfold AF at hs;split at hs;·injection hs with hs;rw[hs]
        ·cases hs
       subst eu;have rx':a.eval x=.string s:=rx;cases hq:(decide (ti.ty=.str)&&(!ti.agg&&ti.el.isNone));·rw[hq]at hv;cases hv
       ·rw[hq]at hv;simp only[cond_true,Option.some.injEq,Prod.mk.injEq]at hv;obtain⟨_,rfl⟩:=hv;simp only[Bool.and_eq_true,decide_eq_true_eq,Bool.not_eq_true',Option.isNone_iff_eq_none]at hq;have hu:=nr hT ht hq.1 hq.2.1 hq.2.2;refine⟨.int .i64 s.size, ?_,rfl⟩;simp[execOp,resolve,invoke,builtin,rx',run_len_string w t oty s hu,goInt]
      ·cases hel:ti.el with
       |none =>rw[hel]at hv;obtain⟨g1,m,rfl,g2⟩:=Ir hT h ht rx.c_inv hv oty;exact⟨.int .i64 m,by simp[execOp,resolve,invoke,builtin,g2],rfl⟩
       |some e =>
        rw[hel]at hv;simp only[Option.isSome_some,cond_true]at hv;split at hv;·rename_i m hm;simp only[Option.some.injEq,Prod.mk.injEq]at hv;obtain⟨_,rfl⟩:=hv;refine⟨.int .i64 m, ?_,rfl⟩;simp[execOp,resolve,invoke,builtin,Ip hT h ht hel rx.c_inv hm oty]
        ·cases hv
     ·cases hv
    ·cases hv
   |max =>
    simp only[cd]at hv;split at hv
    ·rename_i x y ha;have ea:args=#[x,y]:=by apply Array.ext';simpa using ha
     subst ea;have rx:=a6 h x;have ry:=a6 h y;split at hv;·rename_i k p k' q hx hy;rw[hx]at rx;rw[hy]at ry;simp only[Option.some.injEq,Prod.mk.injEq]at hv;obtain⟨_,rfl⟩:=hv;have rx':a.eval x=.int k p:=rx;have ry':a.eval y=.int k' q:=ry;refine⟨.int k (mx p q), ?_,rfl⟩;simp[execOp,resolve,invoke,builtin,rx',ry',run_max_int2,mx]
     ·cases hv
    ·cases hv
   |min =>
    simp only[cd]at hv;split at hv
    ·rename_i x y ha;have ea:args=#[x,y]:=by apply Array.ext';simpa using ha
     subst ea;have rx:=a6 h x;have ry:=a6 h y;split at hv;·rename_i k p k' q hx hy;rw[hx]at rx;rw[hy]at ry;simp only[Option.some.injEq,Prod.mk.injEq]at hv;obtain⟨_,rfl⟩:=hv;have rx':a.eval x=.int k p:=rx;have ry':a.eval y=.int k' q:=ry;refine⟨.int k (mn p q), ?_,rfl⟩;simp[execOp,resolve,invoke,builtin,rx',ry',run_min_int2,mn]
     ·cases hv
    ·cases hv
   |_=>cases hv
  |_=>cases hv
 |_=>cases hv
end
end Go.Fw
