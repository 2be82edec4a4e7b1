/- The plain part: what the functions compute, in lists and numbers. Nothing is assumed. -/
import Derived.Test.YtkjnhmjfdfiklaaGreatDoorPuFnExactTypeNamea
import Derived.Test.YtkjnhmjfdfiklaaGreatDoorFwd
noncomputable section
set_option linter.defProp false
set_option linter.unusedVariables false
namespace Go.Fw
structure u9(A:Nat->Nat->Int)(l:List Nat)(p:Nat->Nat):Prop where
 lt:∀i,1<=i->i<l.length->p i<i
 iff:∀i j,1<=i->i<l.length->j<i->(A (l.getD i 0) (l.getD j 0)≠0↔j=p i)
def FO{c:Nat->Nat}:∀{l:List Nat},(∀x∈l,1<=c x)->l.length<=(l.map c).sum
 |[],_=>by simp
 |x::l,h=>by have h1:=h x List.mem_cons_self;have h2:=FO λy hy=>h y (List.mem_cons_of_mem _ hy);rw[List.map_cons,List.sum_cons,List.length_cons];omega
def FP{c:Nat->Nat}:∀{l:List Nat},(∀x∈l,1<=c x)->(l.map c).sum=l.length->∀x∈l,c x=1
 |[],_,_,x,hx=>by cases hx
 |y::l,h,hs,x,hx=>by
  have h1:=h y List.mem_cons_self;have h2:=FO (c:=c) (l:=l) λy hy=>h y (List.mem_cons_of_mem _ hy);rw[List.map_cons,List.sum_cons,List.length_cons]at hs;rcases List.mem_cons.1 hx with rfl|hx;·omega
  ·exact FP (λy hy=>h y (List.mem_cons_of_mem _ hy)) (by omega) x hx
def P3{p:Nat->Bool}{l:List Nat}(hn:l.Nodup)(h:l.countP p=1):∃x∈l,p x=true/\∀y∈l,p y=true->y=x:=by
 rw[List.countP_eq_length_filter]at h;obtain⟨x,hx⟩:=List.length_eq_one_iff.1 h;have h1:x∈l.filter p:=by rw[hx];simp
 rw[List.mem_filter]at h1;refine⟨x,h1.1,h1.2,λy hy hpy=>?_⟩;have:y∈l.filter p:=List.mem_filter.2 ⟨hy,hpy⟩;rw[hx]at this;exact List.mem_singleton.1 this
def P4{m:Int×Int×List Int}(hsz:aT m=true){i:Nat}(hi:i<m.1.toNat)(ht:gu m (bf m i).1=true):∃p,u9 (ae m) (bf m i).1 p:=by
 obtain⟨hI,_⟩:=pi hi;have ht:gr (ae m) (bf m i).1+1=(bf m i).1.length:=of_decide_eq_true ht;have hpos:=hI.pos;generalize hl:(bf m i).1=l at *
 have hge:∀k∈List.range' 1 (l.length-1),1<=(List.range' 0 k).countP λj=>!decide (ae m (l.getD k 0) (l.getD j 0)=0):=by intro k hk;have hk:=List.mem_range'_1.1 hk;obtain⟨k',h1,h2,h3⟩:=hI.src k hk.1 (by rw[hl];omega);rw[h2,hl]at h3;refine List.countP_pos_iff.2 ⟨k',List.mem_range'_1.2 ⟨Nat.zero_le _,by omega⟩, ?_⟩;have hs:=zQ hsz _ _ (hI.lt _ (by rw[hl];exact aX (l:=l) (j:=k) 0 (by omega))) (hI.lt _ (by rw[hl];exact aX (l:=l) (j:=k') 0 (by omega)));rw[decide_eq_false (λe=>h3 (hs.1 e))];rfl
 have hsum:((List.range' 1 (l.length-1)).map λk=>(List.range' 0 k).countP λj=>!decide (ae m (l.getD k 0) (l.getD j 0)=0)).sum=(List.range' 1 (l.length-1)).length:=by
  have e:List.range' 0 l.length=0::List.range' 1 (l.length-1):=by obtain⟨c,hc⟩:∃c,l.length=c+1:=⟨l.length-1,by omega⟩;rw[hc,List.range'_succ];rfl
  unfold gr at ht;rw[e,List.map_cons,List.sum_cons]at ht;simp only[List.range'_zero,List.countP_nil,Nat.zero_add]at ht;rw[List.length_range'];omega
 have hone:=FP hge hsum;have hex:∀k,∃q,1<=k->k<l.length->q<k/\∀j,j<k->(ae m (l.getD k 0) (l.getD j 0)≠0↔j=q):=by
  intro k;by_cases hk:1<=k/\k<l.length
  ·have:=hone k (List.mem_range'_1.2 ⟨hk.1,by omega⟩);obtain⟨q,q1,q2,q3⟩:=P3 List.nodup_range' this;have q1:=List.mem_range'_1.1 q1;refine⟨q,λ_ _=>⟨by omega,λj hj=>⟨λh=>?_,λh=>?_⟩⟩⟩;·exact q3 j (List.mem_range'_1.2 ⟨Nat.zero_le _,by omega⟩) (by rw[decide_eq_false h];rfl)
   ·subst h;simpa using q2
  ·exact⟨0,λh1 h2=>absurd ⟨h1,h2⟩ hk⟩
 exact⟨λk=>(hex k).choose,λk h1 h2=>((hex k).choose_spec h1 h2).1,λk j h1 h2 h3=>((hex k).choose_spec h1 h2).2 j h3⟩
def Af(p:Nat->Nat):Nat->Nat->List Nat
 |0,k=>[k]
 |f+1,k=>if k=0 then[0]else k::Af p f (p k)
def FQ(p:Nat->Nat)(i k:Nat):List Nat :=
 let c:=Af p 5 k;let d:=Af p 5 i;if i∈c then(c.takeWhile λx=>!decide (x=p i))++[p i]
 else
  let t:=c.takeWhile λx=>!decide (x∈d);let q:=c.getD t.length 0;t++q::(d.takeWhile λx=>!decide (x=q)).reverse
def va(p:Nat->Nat)(a b:Nat):Bool:=(decide (a<b)&&decide (p b=a))||(decide (b<a)&&decide (p a=b))
def su(p:Nat->Nat):List Nat->Bool
 |[]=>false
 |[_]=>true
 |u::v::r=>va p u v&&(r.all λt=>!decide (t=u)&&!va p u t)&&su p (v::r)
def sw(p:Nat->Nat)(a b i:Nat):Bool:=(decide (a=i)&&decide (b=p i))||(decide (a=p i)&&decide (b=i))
def FR(p:Nat->Nat)(f:List Nat)(i:Nat):Bool:=sw p (f.reverse.getD 1 0) (f.reverse.getD 0 0) i
def FS(p:Nat->Nat)(i k:Nat):Bool :=
 let f:=FQ p i k;decide (3<=f.length)&&(f.all λx=>decide (x<=k))&&su p f&&sw p (f.getD 0 0) (f.getD 1 0) k&&FR p f i
def nQ(a b c:Nat):Nat->Nat:=λi=>[0,0,a,b,c].getD i 0
def P5:((List.range 2).all λa=>(List.range 3).all λb=>(List.range 4).all λc=>(List.range 5).all λk=>(List.range k).all λi=>decide (i=0)||FS (nQ a b c) i k)=true:=by decide +kernel
def P6{a b c k i:Nat}(ha:a<2)(hb:b<3)(hc:c<4)(hk:k<5)(hi:i<k)(h0:1<=i):FS (nQ a b c) i k=true:=by have h:=P5;rw[List.all_eq_true]at h;have h:=h a (List.mem_range.2 ha);rw[List.all_eq_true]at h;have h:=h b (List.mem_range.2 hb);rw[List.all_eq_true]at h;have h:=h c (List.mem_range.2 hc);rw[List.all_eq_true]at h;have h:=h k (List.mem_range.2 hk);rw[List.all_eq_true]at h;have h:=h i (List.mem_range.2 hi);rw[decide_eq_false (by omega),Bool.false_or]at h;exact h
end Go.Fw
set_option linter.unusedSectionVars false
namespace Go.Fw
def nR(A:dD)(u v:Nat):wt A u v=wt A v u:=by unfold wt;rw[Int.mul_comm]
def FT{n:Nat}{A:dD}(hA:gq n A){u v:Nat}(hu:u<n)(hv:v<n)(h:A u v≠0):1<=wt A u v:=by have hz:=hA.zero hu hv;have hs:=zG (hA u v hu hv);have:A u v*A v u≠0:=Int.mul_ne_zero h (λe=>h (hz.2 e));unfold wt;omega
def FU{n:Nat}{A:dD}(hA:gq n A):∀{g:List Nat},fi A n g->1<=Wt A g
 |[u],_=>Int.le_refl 1
 |u::v::r,h=>by have h1:=FT hA h.1 (h.lt v (by simp)) h.2.1;have h2:=FU hA h.2.2.2;have:=Int.mul_le_mul h1 h2 (by omega) (by omega);exact this
def FV{n:Nat}{A:dD}(hA:gq n A):∀{r:List Nat}{u v:Nat},fi A n (u::v::r)->wt A ((u::v::r).reverse.getD 1 0) ((u::v::r).reverse.getD 0 0)<=Wt A (u::v::r)
 |[],u,v,h=>by show wt A u v<=wt A u v*1;omega
 |w::r,u,v,h=>by
  have h1:=FT hA h.1 (h.lt v (by simp)) h.2.1;have h2:=FV hA (r:=r) (u:=v) (v:=w) h.2.2.2;have h3:=FU hA h.2.2.2;have e:∀j,j<2->(u::v::w::r).reverse.getD j 0=(v::w::r).reverse.getD j 0:=λj hj=>by rw[List.reverse_cons];exact iy (by simp;omega)
  rw[e 1 (by omega),e 0 (by omega)];refine Int.le_trans h2 ?_;have:=Int.mul_le_mul h1 (Int.le_refl (Wt A (v::w::r))) (by omega) (by omega);rw[Int.one_mul]at this;exact this
def P7{n:Nat}{A:dD}(hA:gq n A){f:List Nat}(h:fi A n f)(h3:3<=f.length)(h1:2<=wt A (f.getD 0 0) (f.getD 1 0))(h2:2<=wt A (f.reverse.getD 1 0) (f.reverse.getD 0 0)):4<=Wt A f:=by
 match f,h,h3,h1,h2 with
 |u::v::w::r,h,_,h1,h2 =>
  have h1:2<=wt A u v:=h1;have e:∀j,j<2->(u::v::w::r).reverse.getD j 0=(v::w::r).reverse.getD j 0:=λj hj=>by rw[List.reverse_cons];exact iy (by simp;omega)
  rw[e 1 (by omega),e 0 (by omega)]at h2;have h4:=FV hA h.2.2.2;exact Int.mul_le_mul h1 (Int.le_trans h2 h4) (by omega) (by omega)
section
variable {n : Nat} {A : dD} {l : List Nat} {p q : Nat → Nat} (hA : gq n A) (hT : u9 A l p) (hlt : ∀ x ∈ l, x < n) (hq : ∀ t, 1 ≤ t → t < l.length → q t = p t) (hnd : l.Nodup)
include hA hT hlt hq hnd
theorem FW{a b:Nat}(ha:a<l.length)(hb:b<l.length):va q a b=true↔A (l.getD a 0) (l.getD b 0)≠0:=by
 have la:=hlt _ (aX (l:=l) (j:=a) 0 ha);have lb:=hlt _ (aX (l:=l) (j:=b) 0 hb);unfold va;rcases Nat.lt_trichotomy a b with h|h|h;·rw[decide_eq_true h,decide_eq_false (by omega:¬ b<a),Bool.true_and,Bool.false_and,Bool.or_false,decide_eq_true_eq,hq b (by omega) hb];rw[show(A (l.getD a 0) (l.getD b 0)≠0↔A (l.getD b 0) (l.getD a 0)≠0)from not_congr (hA.zero la lb),hT.iff b a (by omega) hb h];exact eq_comm
 ·subst h;rw[hA.diag la];simp
 ·rw[decide_eq_true h,decide_eq_false (by omega:¬ a<b),Bool.true_and,Bool.false_and,Bool.false_or,decide_eq_true_eq,hq a (by omega) ha,hT.iff a b (by omega) ha h];exact eq_comm
theorem FX:∀{f:List Nat},(∀x∈f,x<l.length)->su q f=true->fi A n (f.map λx=>l.getD x 0)
 |[],_,h=>by cases h
 |[u],hf,_=>hlt _ (aX 0 (hf u (by simp)))
 |u::v::r,hf,h=>by
  rw[su,Bool.and_eq_true,Bool.and_eq_true,List.all_eq_true]at h;obtain⟨⟨h1,h2⟩,h3⟩:=h;have hu:=hf u (by simp);have hv:=hf v (by simp);refine⟨hlt _ (aX 0 hu),(FW hA hT hlt hq hnd hu hv).1 h1,λt ht=>?_,FX (f:=v::r) (λx hx=>hf x (List.mem_cons_of_mem _ hx)) h3⟩;obtain⟨s,hs,rfl⟩:=List.mem_map.1 ht;have hs':=hf s (by simp[hs]);have:=h2 s hs;rw[Bool.and_eq_true,Bool.not_eq_true',decide_eq_false_iff_not,Bool.not_eq_true']at this;obtain⟨k1,k2⟩:=this;have e0:A (l.getD u 0) (l.getD s 0)=0:=Classical.byContradiction λh=>by have:=(FW hA hT hlt hq hnd hu hs').2 h;rw[this]at k2;cases k2
  refine⟨λe=>k1 ?_,e0,(hA.zero (hlt _ (aX 0 hu)) (hlt _ (aX 0 hs'))).1 e0⟩;have:=gl hnd hs';rw[e,gl hnd hu]at this;exact this.symm
theorem FY{a b k:Nat}(h1:1<=k)(h2:k<l.length)(h:sw q a b k=true):wt A (l.getD a 0) (l.getD b 0)=wt A (l.getD k 0) (l.getD (p k) 0):=by
 unfold sw at h;rw[Bool.or_eq_true,Bool.and_eq_true,Bool.and_eq_true,decide_eq_true_eq,decide_eq_true_eq,decide_eq_true_eq,decide_eq_true_eq,hq k h1 h2]at h;rcases h with⟨rfl,rfl⟩|⟨rfl,rfl⟩;·rfl
 ·exact nR _ _ _
end
def FZ{n:Nat}{A:dD}{l:List Nat}{p:Nat->Nat}(hA:gq n A)(hlight:∀(r:List Nat) (u v:Nat),fi A n (u::v::r)->Wt A (u::v::r)<=3)(hT:u9 A l p)(hlt:∀x∈l,x<n)(hnd:l.Nodup)(h5:l.length<=5)
  {i k:Nat} (hi:1<=i) (hik:i<k) (hk:k<l.length) (w1:2<=wt A (l.getD i 0) (l.getD (p i) 0)) (w2:2<=wt A (l.getD k 0) (l.getD (p k) 0)):False:=by
 let a:=if 2<l.length then p 2 else 0
 let b:=if 3<l.length then p 3 else 0
 let c:=if 4<l.length then p 4 else 0
 have ha:a<2:=by
  show(if 2<l.length then p 2 else 0)<2;split;·exact hT.lt 2 (by omega) (by omega)
  ·omega
 have hb:b<3:=by
  show(if 3<l.length then p 3 else 0)<3;split;·exact hT.lt 3 (by omega) (by omega)
  ·omega
 have hc:c<4:=by
  show(if 4<l.length then p 4 else 0)<4;split;·exact hT.lt 4 (by omega) (by omega)
  ·omega
 have hq:∀t,1<=t->t<l.length->nQ a b c t=p t:=by
  intro t t1 t2;rcases(by omega:t=1\/t=2\/t=3\/t=4)with rfl|rfl|rfl|rfl;·have:=hT.lt 1 (by omega) t2;show 0=p 1;omega
  ·exact if_pos t2
  ·exact if_pos t2
  ·exact if_pos t2
 have hg:=P6 ha hb hc (by omega:k<5) hik hi;generalize hf:FQ (nQ a b c) i k=f at hg;have hg:(decide (3<=f.length)&&(f.all λx=>decide (x<=k))&&su (nQ a b c) f&&sw (nQ a b c) (f.getD 0 0) (f.getD 1 0) k&&FR (nQ a b c) f i)=true:=by rw[<-hf];exact hg
 simp only[Bool.and_eq_true,decide_eq_true_eq,List.all_eq_true]at hg;obtain⟨⟨⟨⟨g1,g2⟩,g3⟩,g4⟩,g5⟩:=hg;have hfl:∀x∈f,x<l.length:=λx hx=>by have:=g2 x hx;omega
 have hp:=FX hA hT hlt hq hnd hfl g3;have gm:∀(g:List Nat) j,j<g.length->(g.map λx=>l.getD x 0).getD j 0=l.getD (g.getD j 0) 0:=λg j hj=>by rw[List.getD_eq_getElem?_getD,List.getElem?_map,List.getD_eq_getElem?_getD (l:=g),List.getElem?_eq_getElem hj];rfl
 have hw:=P7 hA hp (by rw[List.length_map];exact g1) (by
   rw[gm f 0 (by omega),gm f 1 (by omega),FY hA hT hlt hq hnd (by omega) hk g4];exact w2) (by
   rw[<-List.map_reverse,gm f.reverse 1 (by simp;omega),gm f.reverse 0 (by simp;omega),FY hA hT hlt hq hnd hi (by omega) g5];exact w1)
 match f,hp,g1 with
 |u::v::w::r,hp,_ =>have:=hlight _ _ _ hp;have hw:4<=Wt A ((u::v::w::r).map λx=>l.getD x 0):=hw;have this:Wt A ((u::v::w::r).map λx=>l.getD x 0)<=3:=this;omega
def P8{n:Int}{S:List (Int×Int×List Int)}(hS:dq n S){x:Int×Int×List Int}(h:x∈S):x∈jE n S:=by obtain⟨_,h1,h2⟩:=hS x h;refine List.mem_map.2 ⟨x.2.2,(r8 _).mem_iff.2 (List.mem_map.2 ⟨x,h,rfl⟩), ?_⟩;obtain⟨a,b,c⟩:=x;simp only at h1 h2;rw[h1,h2]
def P9{m:Int×Int×List Int}(h:(dC m).2=true):iz m=true/\∃S,gY m=some S/\(dC m).1=jE m.1 S:=by
 unfold dC at h ⊢;cases hp:iz m;·rw[hp]at h;cases h
 rw[hp]at h;simp only[if_true]at h ⊢;cases hc:gY m with
 |none=>rw[hc]at h;cases h
 |some S=>exact⟨trivial,S,rfl,rfl⟩
def F0{n:Int}{x:Int×Int×List Int}(h:bI n x):gq n.toNat (ae x):=λi j hi hj=>h.skew hi hj
def Qa{m:Int×Int×List Int}(h:(c8 m).2=true){x:Int×Int×List Int}(hx:x∈(c8 m).1):bI m.1 x/\∀(r:List Nat) (u v:Nat),fi (ae x) m.1.toNat (u::v::r)->Wt (ae x) (u::v::r)<=3:=by
 obtain⟨h1,h2,h3⟩:=Fn h;obtain⟨k1,S,k2,k3⟩:=P9 h1;obtain⟨s1,s2⟩:=Fm k1;obtain⟨f1,_,_⟩:=r9 k1 k2;obtain⟨c1,_⟩:=O5 k1 k2;rw[h3,k3,s1]at hx;rw[s1]at f1 c1;have hxS:=EQ f1 hx;refine⟨f1 x hxS,λr u v hp=>?_⟩;refine O7 (n:=m.1.toNat) (Q:=λA=>∃x∈S,A=ae x) ?_ ?_ ?_ r u v (ae x) ⟨x,hxS,rfl⟩ hp
 ·rintro A ⟨y,hy,rfl⟩
  exact F0 (f1 y hy)
 ·rintro A ⟨y,hy,rfl⟩ i j hi hj
  have:=h2 y (by rw[k3,s1];exact P8 f1 hy);simp only[iA,List.all_eq_true]at this;have e:=(f1 y hy).2.1;have:=this i (List.mem_range'_1.2 ⟨Nat.zero_le _,by omega⟩) j (List.mem_range'_1.2 ⟨Nat.zero_le _,by omega⟩);rw[Bool.not_eq_true',decide_eq_false_iff_not]at this;unfold wt;unfold cz at this;omega
 ·rintro A ⟨y,hy,rfl⟩ k hk
  obtain⟨p1,z,hz,e⟩:=c1 y hy k hk;have hyF:=f1 y hy;have hm:=hyF.mut hk p1;obtain⟨L,l1,l2,l3,l4⟩:=O1 hm;refine⟨ae z,⟨z,hz,rfl⟩,λi=>L.getD i 0,λi hi=>l2 _ (aX 0 (by omega)),λi j hi hj e'=>?_,λi j hi hj=>?_⟩;·have a1:=gl l1 (j:=i) (by omega);have a2:=gl l1 (j:=j) (by omega);have e':L.getD i 0=L.getD j 0:=e';rw[e',a2]at a1;exact a1.symm
  ·rw[e];show ae (cR (bB y k)) _ _=_;rw[l4 i j hi hj,kR hyF.dim (by rw[hyF.2.2];exact hi) (by rw[hyF.2.1];exact hj)];rfl
def vb{α:Type}(s:α->Nat->Nat->α)(f:Nat->List Nat):∀(L:List Nat) (c:α),L.foldl (λc i=>(f i).foldl (λc j=>s c i j) c) c=(L.flatMap λi=>(f i).map λj=>(i,j)).foldl (λc q=>s c q.1 q.2) c
 |[],c=>rfl
 |i::L,c=>by rw[List.foldl_cons,List.flatMap_cons,List.foldl_append,vb s f L,List.foldl_map]
def vc{α β:Type}{s:α->β->α}{t:α}{I:α->Prop}(hI:I t):∀{Q:List β}{c:α},(∀q∈Q,∀c,I c->s c q=c\/s c q=t)->I c->(c=t\/∃q∈Q,∀c,I c->s c q=t)->Q.foldl s c=t
 |[],c,_,_,h=>by
  rcases h with h|⟨q,hq,_⟩;·exact h
  ·cases hq
 |q::Q,c,h,hc,h2=>by
  rw[List.foldl_cons];have hq:=h q List.mem_cons_self c hc;refine vc hI (λq' hq'=>h q' (List.mem_cons_of_mem _ hq')) ?_ ?_
  ·rcases hq with e|e<;>rw[e]
   ·exact hc
   ·exact hI
  ·rcases h2 with e|⟨q',hq',h3⟩
   ·left;rcases hq with e'|e';·rw[e',e]
    ·exact e'
   ·rcases List.mem_cons.1 hq' with rfl|hq';·exact .inl (h3 c hc)
    ·exact .inr ⟨q',hq',h3⟩
def sx{α β:Type}{s:α->β->α}{t:α}:∀{Q:List β},(∀q∈Q,s t q=t)->Q.foldl s t=t
 |[],_=>rfl
 |q::Q,h=>by rw[List.foldl_cons,h q List.mem_cons_self];exact sx λq' hq'=>h q' (List.mem_cons_of_mem _ hq')
def kf(x:Int×Int×List Int)(c:UInt8)(e f:Nat):UInt8 :=
 if wt (ae x) e f<=1 then c else if dg x e=1/\aI (ae x e f)=2/\(if dg x e=1/\aI (ae x f e)=2 then(66:UInt8)else c)≠66 then 67 else if dg x e=1/\aI (ae x f e)=2 then 66 else c
def F1(x:Int×Int×List Int):∀(Q:List (Nat×Nat)) (s:Int×UInt8),Q.foldl (λs q=>jF x s q.1 q.2) s=(Q.foldl (λh q=>if wt (ae x) q.1 q.2<=1 then h else wt (ae x) q.1 q.2) s.1,Q.foldl (λc q=>kf x c q.1 q.2) s.2)
 |[],s=>rfl
 |q::Q,s=>by
  rw[List.foldl_cons,F1 x Q];have e1:(jF x s q.1 q.2).1=if wt (ae x) q.1 q.2<=1 then s.1 else wt (ae x) q.1 q.2:=by unfold jF;split<;>rfl
  have e2:(jF x s q.1 q.2).2=kf x s.2 q.1 q.2:=by unfold jF kf;split<;>rfl
  rw[e1,e2];rfl
def vd{x:Int×Int×List Int}{i a b:Nat}(ha:a∈a6 x i)(hb:b∈a6 x i)(h:a≠b):2<=dg x i:=by
 unfold dg;match hl:a6 x i,ha,hb with
 |[],ha,_=>cases ha
 |[y],ha,hb =>rw[List.mem_singleton]at ha hb;exact absurd (ha.trans hb.symm) h
 |_::_::_,_,_=>simp
def Qb{a b:Int}(h:-(aI a) * -(aI b)=2):(aI a=2/\aI b≠2)\/(aI a≠2/\aI b=2):=by
 unfold aI at *
 rw[Int.neg_mul_neg,<-Int.natCast_mul]at h;have h:a.natAbs*b.natAbs=2:=by omega
 generalize a.natAbs=u at *
 generalize b.natAbs=v at *
 have hu:u<=2:=Nat.le_of_dvd (by omega) ⟨v,h.symm⟩;rcases(by omega:u=0\/u=1\/u=2)with rfl|rfl|rfl;·omega
 ·right;omega
 ·left;omega
structure fM(x:Int×Int×List Int)(L:List Nat):Prop where
 sz:aT x=true
 lt:∀y∈L,y<x.1.toNat
 shut:nL x L
 le:∀a∈L,∀b∈L,wt (ae x) a b<=3
 one:∀a∈L,∀b∈L,∀c∈L,∀d∈L,2<=wt (ae x) a b->2<=wt (ae x) c d->(c=a/\d=b)\/(c=b/\d=a)
 deg:L.length≠2->∀a∈L,∀b∈L,2<=wt (ae x) a b->2<=dg x a\/2<=dg x b
section
variable {x : Int × Int × List Int} {L : List Nat} (h : fM x L)
include h
theorem fM.nb{i j:Nat}(hi:i∈L)(hj:j∈a6 x i):j∈L:=by obtain⟨h1,h2⟩:=nK.1 hj;exact(h.shut i hi).2 j h1 h2
theorem fM.adj{a b:Nat}(ha:a∈L)(hb:b∈L)(hw:2<=wt (ae x) a b):b∈a6 x a/\a∈a6 x b:=by
 have e1:ae x a b≠0:=λe=>by unfold wt at hw;rw[e]at hw;omega
 have e2:ae x b a≠0:=λe=>by unfold wt at hw;rw[e]at hw;omega
 exact⟨nK.2 ⟨h.lt b hb,e1⟩,nK.2 ⟨h.lt a ha,e2⟩⟩
theorem fM.qS{q:Nat×Nat}(hq:q∈L.flatMap λi=>L.map λj=>(i,j)):q.1∈L/\q.2∈L:=by obtain⟨i,hi,hq⟩:=List.mem_flatMap.1 hq;obtain⟨j,hj,rfl⟩:=List.mem_map.1 hq;exact⟨hi,hj⟩
theorem fM.qI{q:Nat×Nat}(hq:q∈L.flatMap λi=>(a6 x i).map λj=>(i,j)):q.1∈L/\q.2∈L:=by obtain⟨i,hi,hq⟩:=List.mem_flatMap.1 hq;obtain⟨j,hj,rfl⟩:=List.mem_map.1 hq;exact⟨hi,h.nb hi hj⟩
theorem fM.leI_light(h0:∀a∈L,∀b∈L,wt (ae x) a b<=1):L.foldl (λc i=>lX x L.length c i) 65=65:=by unfold lX;rw[vb (λc i j=>c9 x L.length c i j)];refine sx λq hq=>?_;obtain⟨q1,q2⟩:=h.qI hq;have:=h0 _ q1 _ q2;unfold c9;rw[if_neg (by omega),if_neg (by omega)]
theorem fM.endN_eq:fX x L=((L.flatMap λi=>L.map λj=>(i,j)).foldl (λh q=>if wt (ae x) q.1 q.2<=1 then h else wt (ae x) q.1 q.2) 1,(L.flatMap λi=>L.map λj=>(i,j)).foldl (λc q=>kf x c q.1 q.2) 65):=by unfold fX lY;rw[vb (λs e f=>jF x s e f),F1]
theorem fM.endN_light(h0:∀a∈L,∀b∈L,wt (ae x) a b<=1):fX x L=(1,65):=by
 rw[h.endN_eq];refine Prod.ext (sx λq hq=>?_) (sx λq hq=>?_);·obtain⟨q1,q2⟩:=h.qS hq;exact if_pos (h0 _ q1 _ q2)
 ·obtain⟨q1,q2⟩:=h.qS hq;exact if_pos (h0 _ q1 _ q2)
variable {a b : Nat} (ha : a ∈ L) (hb : b ∈ L) (hw : 2 ≤ wt (ae x) a b)
include ha hb hw
theorem fM.memS:(a,b)∈(L.flatMap λi=>L.map λj=>(i,j)):=List.mem_flatMap.2 ⟨a,ha,List.mem_map.2 ⟨b,hb,rfl⟩⟩
theorem fM.memI:(a,b)∈(L.flatMap λi=>(a6 x i).map λj=>(i,j)):=List.mem_flatMap.2 ⟨a,ha,List.mem_map.2 ⟨b,(h.adj ha hb hw).1,rfl⟩⟩
theorem fM.one_or{q:Nat×Nat}(q1:q.1∈L)(q2:q.2∈L):wt (ae x) q.1 q.2<=1\/q=(a,b)\/q=(b,a):=by
 by_cases hq:2<=wt (ae x) q.1 q.2
 ·rcases h.one a ha b hb q.1 q1 q.2 q2 hw hq with⟨e1,e2⟩|⟨e1,e2⟩;·exact .inr (.inl (Prod.ext e1 e2))
  ·exact .inr (.inr (Prod.ext e1 e2))
 ·exact .inl (by omega)
theorem fM.end1:(fX x L).1=wt (ae x) a b:=by
 rw[h.endN_eq];have hba:wt (ae x) b a=wt (ae x) a b:=nR _ _ _;refine vc (I:=λ_=>True) trivial (λq hq c _=>?_) trivial (.inr ⟨(a,b),h.memS ha hb hw,λc _=>if_neg (by show ¬ wt (ae x) a b<=1;omega)⟩);obtain⟨q1,q2⟩:=h.qS hq;rcases h.one_or ha hb hw q1 q2 with e|rfl|rfl;·exact .inl (if_pos e)
 ·exact .inr (if_neg (by show ¬ wt (ae x) a b<=1;omega))
 ·right;show(if wt (ae x) b a<=1 then c else wt (ae x) b a)=_;rw[hba];exact if_neg (by omega)
theorem fM.foldI{t:UInt8}(h1:∀c,c9 x L.length c a b=c\/c9 x L.length c a b=t)(h2:∀c,c9 x L.length c b a=c\/c9 x L.length c b a=t)(h3:(∀c,c9 x L.length c a b=t)\/(∀c,c9 x L.length c b a=t)) :
  L.foldl (λc i=>lX x L.length c i) 65=t:=by
 have hba:wt (ae x) b a=wt (ae x) a b:=nR _ _ _;unfold lX;rw[vb (λc i j=>c9 x L.length c i j)];refine vc (I:=λ_=>True) trivial (λq hq c _=>?_) trivial (.inr ?_)
 ·obtain⟨q1,q2⟩:=h.qI hq;rcases h.one_or ha hb hw q1 q2 with e|rfl|rfl;·left;unfold c9;rw[if_neg (by omega),if_neg (by omega)]
  ·exact h1 c
  ·exact h2 c
 ·rcases h3 with h3|h3;·exact⟨(a,b),h.memI ha hb hw,λc _=>h3 c⟩
  ·exact⟨(b,a),h.memI hb ha (by rw[hba];exact hw),λc _=>h3 c⟩
theorem fM.leaf(h2:wt (ae x) a b=2)(hl:L.length≠2)(da:dg x a=1)(db:2<=dg x b) :
  L.foldl (λc i=>lX x L.length c i) 65=(if aI (ae x b a)=2 then 66 else 67)/\(fX x L).2=(if aI (ae x b a)=2 then 66 else 67):=by
 have hba:wt (ae x) b a=wt (ae x) a b:=nR _ _ _;have hp:=Qb (show -(aI (ae x a b)) * -(aI (ae x b a))=2 by rw[<-(zP h.sz (h.lt a ha) (h.lt b hb)).2.1];exact h2);have s1:∀c,c9 x L.length c a b=if aI (ae x b a)=2 then 66 else 67:=λc=>by unfold c9;rw[if_neg (by omega),if_pos h2,if_neg hl,if_neg (by omega),if_pos da]
 have s2:∀c,c9 x L.length c b a=c:=λc=>by unfold c9;rw[if_neg (by omega),if_pos (by omega),if_neg hl,if_neg (by omega),if_neg (by omega)]
 refine⟨h.foldI ha hb hw (λc=>.inr (s1 c)) (λc=>.inl (s2 c)) (.inl s1), ?_⟩;have n1:∀c,c≠66\/aI (ae x b a)=2->kf x c a b=if aI (ae x b a)=2 then 66 else 67:=λc hc=>by
  unfold kf;rw[if_neg (by omega)];by_cases e:aI (ae x b a)=2;·rw[if_neg (λhh=>by have:=hh.2.1;omega),if_pos ⟨da,e⟩,if_pos e]
  ·have hc:c≠66:=hc.resolve_right e;rw[if_pos ⟨da,by omega,by rw[if_neg (λhh=>e hh.2)];exact hc⟩,if_neg e]
 have n2:∀c,kf x c b a=c:=λc=>by unfold kf;rw[if_neg (by omega),if_neg (λhh=>by have:=hh.1;omega),if_neg (λhh=>by have:=hh.1;omega)]
 rw[h.endN_eq];refine vc (I:=λc=>c≠66\/aI (ae x b a)=2) ?_ (λq hq c hc=>?_) (.inl (by decide)) (.inr ⟨(a,b),h.memS ha hb hw,λc hc=>n1 c hc⟩)
 ·by_cases e:aI (ae x b a)=2;·exact .inr e
  ·left;rw[if_neg e];decide
 ·obtain⟨q1,q2⟩:=h.qS hq;rcases h.one_or ha hb hw q1 q2 with e|rfl|rfl;·exact .inl (if_pos e)
  ·exact .inr (n1 c hc)
  ·exact .inl (n2 c)
theorem fM.mid(h2:wt (ae x) a b=2)(hl:L.length≠2)(da:2<=dg x a)(db:2<=dg x b) :
  L.foldl (λc i=>lX x L.length c i) 65=70/\(fX x L).2=65:=by
 have hba:wt (ae x) b a=wt (ae x) a b:=nR _ _ _;have s1:∀c,c9 x L.length c a b=70:=λc=>by unfold c9;rw[if_neg (by omega),if_pos h2,if_neg hl,if_pos (by omega)]
 have s2:∀c,c9 x L.length c b a=70:=λc=>by unfold c9;rw[if_neg (by omega),if_pos (by omega),if_neg hl,if_pos (by omega)]
 refine⟨h.foldI ha hb hw (λc=>.inr (s1 c)) (λc=>.inr (s2 c)) (.inl s1), ?_⟩;have n:∀c e f,2<=dg x e->kf x c e f=c:=λc e f he=>by
  unfold kf;split;·rfl
  ·rw[if_neg (λhh=>by have:=hh.1;omega),if_neg (λhh=>by have:=hh.1;omega)]
 rw[h.endN_eq];refine sx λq hq=>?_;obtain⟨q1,q2⟩:=h.qS hq;rcases h.one_or ha hb hw q1 q2 with e|rfl|rfl;·exact if_pos e
 ·exact n _ _ _ da
 ·exact n _ _ _ db
end
def fM.same{x:Int×Int×List Int}{L:List Nat}(h:fM x L):se x L=sd x L:=by
 unfold se sd;by_cases h3:(L.any λi=>decide (dg x i=3))=true;·rw[if_pos h3,if_pos h3]
 rw[if_neg h3,if_neg h3];by_cases h0:∀a∈L,∀b∈L,wt (ae x) a b<=1;·rw[h.endN_light h0,h.leI_light h0,if_neg (by decide),if_neg (by decide)]
 have:∃a,a∈L/\∃b,b∈L/\2<=wt (ae x) a b:=Classical.byContradiction λhn=>h0 λa ha b hb=>Classical.byContradiction λhc=>hn ⟨a,ha,b,hb,by omega⟩;obtain⟨a,ha,b,hb,hw⟩:=this;have hba:wt (ae x) b a=wt (ae x) a b:=nR _ _ _;have h1:=h.end1 ha hb hw;have hle:=h.le a ha b hb;rw[h1];by_cases w3:wt (ae x) a b=3;·have s:∀c,c9 x L.length c a b=71:=λc=>if_pos w3;rw[if_pos w3,h.foldI ha hb hw (λc=>.inr (s c)) (λc=>.inr (if_pos (hba.trans w3))) (.inl s)]
 have w2:wt (ae x) a b=2:=by omega
 rw[if_neg w3,if_pos w2];by_cases hl:L.length=2
 ·have s:∀c,c9 x L.length c a b=66:=λc=>by unfold c9;rw[if_neg w3,if_pos w2,if_pos hl]
  have s':∀c,c9 x L.length c b a=66:=λc=>by unfold c9;rw[if_neg (by omega),if_pos (by omega),if_pos hl]
  rw[if_pos hl,h.foldI ha hb hw (λc=>.inr (s c)) (λc=>.inr (s' c)) (.inl s)]
 rw[if_neg hl];have pa:1<=dg x a:=List.length_pos_of_mem (h.adj ha hb hw).1;have pb:1<=dg x b:=List.length_pos_of_mem (h.adj ha hb hw).2;have fin:∀c:UInt8,(c=66\/c=67)->(if c=65 then(70:UInt8)else c)=c:=λc hc=>if_neg (by rcases hc with rfl|rfl<;>decide);by_cases da:dg x a=1
 ·have db:2<=dg x b:=by
   rcases h.deg hl a ha b hb hw with e|e;·omega
   ·exact e
  obtain⟨e1,e2⟩:=h.leaf ha hb hw w2 hl da db;rw[e1,e2];refine fin _ ?_;split;·exact .inl rfl
  ·exact .inr rfl
 ·by_cases db:dg x b=1
  ·obtain⟨e1,e2⟩:=h.leaf hb ha (by omega) (by omega) hl db (by omega);rw[e1,e2];refine fin _ ?_;split;·exact .inl rfl
   ·exact .inr rfl
  ·obtain⟨e1,e2⟩:=h.mid ha hb hw w2 hl (by omega) (by omega);rw[e1,e2];rfl
end Go.Fw
namespace Go.Fw
section
variable {n : Nat} {A : dD} {l : List Nat} {p : Nat → Nat} (hA : gq n A) (hT : u9 A l p) (hlt : ∀ x ∈ l, x < n)
include hA hT hlt
theorem Qc{t:Nat}(h1:1<=t)(h2:t<l.length):A (l.getD t 0) (l.getD (p t) 0)≠0/\A (l.getD (p t) 0) (l.getD t 0)≠0:=by have h3:=hT.lt t h1 h2;have h4:=(hT.iff t (p t) h1 h2 h3).2 rfl;exact⟨h4,λe=>h4 ((hA.zero (hlt _ (aX 0 (by omega))) (hlt _ (aX 0 h2))).1 e)⟩
theorem Ag{a b:Nat}(ha:a∈l)(hb:b∈l)(hw:2<=wt A a b):∃k,1<=k/\k<l.length/\2<=wt A (l.getD k 0) (l.getD (p k) 0)/\((a=l.getD k 0/\b=l.getD (p k) 0)\/(a=l.getD (p k) 0/\b=l.getD k 0)):=by
 have hne:A a b≠0:=λe=>by unfold wt at hw;rw[e]at hw;omega
 have get:∀a∈l,∃i,i<l.length/\a=l.getD i 0:=λa ha=>by obtain⟨i,hi,e⟩:=List.getElem_of_mem ha;exact⟨i,hi,by rw[List.getD_eq_getElem?_getD,List.getElem?_eq_getElem hi];exact e.symm⟩
 obtain⟨i,hi,rfl⟩:=get a ha;obtain⟨j,hj,rfl⟩:=get b hb;have li:=hlt _ ha;have lj:=hlt _ hb;rcases Nat.lt_trichotomy i j with h|h|h;·have e:=(hT.iff j i (by omega) hj h).1 (λe=>hne ((hA.zero lj li).1 e));subst e;exact⟨j,by omega,hj,by rw[nR];exact hw,.inr ⟨rfl,rfl⟩⟩
 ·subst h;exact absurd (hA.diag li) hne
 ·have e:=(hT.iff i j (by omega) hi h).1 hne;subst e;exact⟨i,by omega,hi,hw,.inl ⟨rfl,rfl⟩⟩
end
def Qd{m:Int×Int×List Int}(h:(c8 m).2=true){x:Int×Int×List Int}(hx:x∈(c8 m).1){i:Nat}(hi:i<x.1.toNat)(ht:gu x (bf x i).1=true):fM x (bf x i).1:=by
 obtain⟨hF,hl⟩:=Qa h hx;have e1:=hF.2.1;have hb:=hF.bound;obtain⟨p,hT⟩:=P4 hF.sizes hi ht;obtain⟨hI,_⟩:=pi hi;have hle:=hI.le;have hA:=F0 hF;have hlt:∀y∈(bf x i).1,y<m.1.toNat:=λy hy=>by have:=hI.lt y hy;omega
 have hnd:=hI.nd;have h5:(bf x i).1.length<=5:=by omega
 have hsh:=uZ hi;have hIl:∀y∈(bf x i).1,y<x.1.toNat:=hI.lt;generalize(bf x i).1=L at *
 have inj:∀s t,s<L.length->t<L.length->s≠t->L.getD s 0≠L.getD t 0:=λs t hs ht' hst e=>by have a1:=gl hnd hs;rw[e,gl hnd ht']at a1;exact hst a1.symm
 refine⟨hF.sizes,hIl,hsh,λa ha b hb'=>?_,λa ha b hb' c hc d hd w1 w2=>?_,λhne a ha b hb' hw=>?_⟩
 ·by_cases e:ae x a b=0;·unfold wt;rw[e];omega
  ·have:=hl [] a b ⟨hlt a ha,e,(λt ht=>by cases ht),hlt b hb'⟩;have this:wt (ae x) a b*1<=3:=this;omega
 ·obtain⟨k,k1,k2,k3,k4⟩:=Ag hA hT hlt ha hb' w1;obtain⟨j,j1,j2,j3,j4⟩:=Ag hA hT hlt hc hd w2;rcases Nat.lt_trichotomy k j with hkj|hkj|hkj;·exact(FZ hA hl hT hlt hnd h5 k1 hkj j2 k3 j3).elim
  ·subst hkj;rcases k4 with⟨rfl,rfl⟩|⟨rfl,rfl⟩<;>rcases j4 with⟨rfl,rfl⟩|⟨rfl,rfl⟩
   ·exact .inl ⟨rfl,rfl⟩
   ·exact .inr ⟨rfl,rfl⟩
   ·exact .inr ⟨rfl,rfl⟩
   ·exact .inl ⟨rfl,rfl⟩
  ·exact(FZ hA hl hT hlt hnd h5 j1 hkj k2 j3 k3).elim
 ·obtain⟨k,k1,k2,k3,k4⟩:=Ag hA hT hlt ha hb' hw;have nb:∀t,1<=t->t<L.length->L.getD (p t) 0∈a6 x (L.getD t 0)/\L.getD t 0∈a6 x (L.getD (p t) 0):=λt t1 t2=>by obtain⟨u1,u2⟩:=Qc hA hT hlt t1 t2;have u3:=hT.lt t t1 t2;exact⟨nK.2 ⟨hIl _ (aX 0 (by omega)),u1⟩,nK.2 ⟨hIl _ (aX 0 t2),u2⟩⟩
  have hpk:=hT.lt k k1 k2;have key:2<=dg x (L.getD k 0)\/2<=dg x (L.getD (p k) 0):=by
   by_cases h0:1<=p k;·have hq:=hT.lt (p k) h0 (by omega);exact .inr (vd (nb k k1 k2).2 (nb (p k) h0 (by omega)).1 (inj _ _ k2 (by omega) (by omega)))
   ·have h0:p k=0:=by omega
    have p1:p 1=0:=by have:=hT.lt 1 (by omega) (by omega);omega
    by_cases hk2:2<=k;·right;have n1:=(nb 1 (by omega) (by omega)).2;rw[p1]at n1;have n2:=(nb k k1 k2).2;rw[h0]at n2 ⊢;exact vd n1 n2 (inj _ _ (by omega) k2 (by omega))
    ·obtain rfl:k=1:=by omega
     have l3:2<L.length:=by omega
     have p2:=hT.lt 2 (by omega) l3;have n1:=nb 1 (by omega) (by omega);have n2:=nb 2 (by omega) l3;rw[p1]at n1 ⊢;rcases(by omega:p 2=0\/p 2=1)with e|e;·rw[e]at n2;exact .inr (vd n1.2 n2.2 (inj _ _ (by omega) (by omega) (by omega)))
     ·rw[e]at n2;exact .inl (vd n1.1 n2.2 (inj _ _ (by omega) (by omega) (by omega)))
  rcases k4 with⟨rfl,rfl⟩|⟨rfl,rfl⟩;·exact key
  ·exact key.symm
def Qe{m:Int×Int×List Int}(h:(c8 m).2=true):nN eH (c8 m).1=nN fj (c8 m).1:=by
 unfold nN;cases hf:(c8 m).1.find? gZ with
 |none=>rfl
 |some x =>have hx:=List.mem_of_find?_eq_some hf;have ht:gZ x=true:=List.find?_some hf;show fJ (dy ((dK x).map (eH x)))=fJ (dy ((dK x).map (fj x)));congr 2;refine List.map_congr_left λp hp=>?_;have hC:=zR x;obtain⟨i,hi,rfl⟩:=hC.src p hp;unfold gZ at ht;rw[List.all_eq_true]at ht;unfold eH fj;rw[(Qd h hx hi (ht _ hp)).same]
end Go.Fw
set_option linter.defProp false
set_option linter.unusedSimpArgs false
set_option maxRecDepth 100000
namespace Go.Fw
section
variable {J : Type}
namespace jq
def g(n low high:Int):Bool:=b7 n low high
def Z0{J:Type}(N:Nat)(a b c:Int)(kr:Bool->Option J):Option J :=
 cond (lk N (decide (b<=a)))
 (
  kr (lk N (decide (a<=c))))
 (
  kr false)
def Spec:Prop:=∀ (v0 v1 v2:Int),∃N0,∀N,N0<=N->Z0 N v0 v1 v2 (λv6=>some ((),(v6,())))=some ((),((g v0 v1 v2),()))
def ok:Spec:=λn low high=>⟨0,λN hN=>by simp only[Z0,aL,g,b7];cases decide (low<=n)<;>rfl⟩
end jq
namespace cp
def g(m:Int×Int×List Int):Bool:=aT m
def Z1{J:Type}(N:Nat)(a:MT)(kn:I2 (LI->Option J)):Option J :=
 kn a.1 a.2.1 a.2.2
def Z3{J:Type}(N:Nat)(a b:Int)(c:LI)(kn:I2 (LI->Option J))(kr:Bool->Option J):Option J :=
 cond (!(lk N ((jq.g a 1 5))))
 (
  kr false)
 (
  cond (!(lk N ((jq.g b a 8))))
  (
   kr false)
  (
   cond (lk N (!(decide ((c.length:Int)=(ah (a*b))))))
   (
    kr false)
   (
    kn a b c)))
def Z6{J:Type}(N:Nat)(a b:Int)(c:LI)(kn:I3 (LI->Option J)):Option J :=
 kn 0 a b c
def Z9{J:Type}(N:Nat)(b c d:Int)(a:LI)(kn:I3 (LI->Option J))(k0:I2 (LI->Option J))(kr:Bool->Option J):Option J :=
 cond (lk N (decide (b<(a.length:Int))))
 (
  cond (lk N (ax b a.length)) (
   cond (!(lk N ((jq.g (a.getD b.toNat 0) (-99) 99))))
   (
    kr false)
   (
    kn (ah (b+1)) c d a)) none)
 (
  k0 c d a)
def Z8L{J:Type}(N:Nat)(k0:I2 (LI->Option J))(kr:Bool->Option J):Nat->Int->Int->Int->LI->Option J
 |0,_,_,_,_=>none
 |M+1,a,b,c,d=>Z9 N a b c d (λa b c d=>Z8L N k0 kr M a b c d) k0 kr
def Z8 N a b c d k0 kr:=(Z8L N k0 kr N a b c d:Option J)
def Z7 N a b c d kn kr:=(Z8 N a b c d kn kr:Option J)
def Z5 N a b c kn kr:=(Z6 N a b c (λd a b c=>Z7 N d a b c kn kr):Option J)
def Z12{J:Type}(N:Nat)(a b:Int)(c:LI)(kn:I3 (LI->Option J)):Option J :=
 kn 0 a b c
def Z16{J:Type}(N:Nat)(a b c:Int)(d:LI)(kn:I3 (LI->Option J))(k2:Option J):Option J :=
 cond (lk N (decide (a<b)))
 (
  kn a b c d)
 (
  k2)
def Z20{J:Type}(N:Nat)(a b c:Int)(d:LI)(kn:I4 (LI->Option J)):Option J :=
 kn a 0 b c d
def Z23{J:Type}(N:Nat)(b c a d:Int)(e:LI)(kn:I4 (LI->Option J))(k4:I3 (LI->Option J))(kr:Bool->Option J):Option J :=
 cond (lk N (decide (c<a)))
 (
  cond (lk N (aR.P (a,(d,e)) b c)) (
   cond (lk N (aR.P (a,(d,e)) c b)) (
    cond (lk N (!(((lk N (decide (0<(aR.g (a,(d,e)) b c)))) == (lk N (decide ((aR.g (a,(d,e)) c b)<0)))))))
    (
     kr false)
    (
     cond (lk N (!(((lk N (decide ((aR.g (a,(d,e)) b c)=0))) == (lk N (decide ((aR.g (a,(d,e)) c b)=0)))))))
     (
      kr false)
     (
      kn b (ah (c+1)) a d e))) none) none)
 (
  k4 b a d e)
def Z22L{J:Type}(N:Nat)(k4:I3 (LI->Option J))(kr:Bool->Option J):Nat->Int->Int->Int->Int->LI->Option J
 |0,_,_,_,_,_=>none
 |M+1,a,b,c,d,e=>Z23 N a b c d e (λa b c d e=>Z22L N k4 kr M a b c d e) k4 kr
def Z22 N a b c d e k4 kr:=(Z22L N k4 kr N a b c d e:Option J)
def Z21 N a b c d e kn kr:=(Z22 N a b c d e kn kr:Option J)
def Z19 N a b c d kn kr:=(Z20 N a b c d (λa e b c d=>Z21 N a e b c d kn kr):Option J)
def Z18 N a b c d kn kr:=(Z19 N a b c d kn kr:Option J)
def Z24{J:Type}(N:Nat)(a b c:Int)(d:LI)(kn:I3 (LI->Option J)):Option J :=
 kn (ah (a+1)) b c d
def Z17 N a b c d kn kr:=(Z18 N a b c d (λa b c d=>Z24 N a b c d kn) kr:Option J)
def Z15 N a b c d kn k2 kr:=(Z16 N a b c d (λa b c d=>Z17 N a b c d kn kr) k2:Option J)
def Z14L{J:Type}(N:Nat)(k2:Option J)(kr:Bool->Option J):Nat->Int->Int->Int->LI->Option J
 |0,_,_,_,_=>none
 |M+1,a,b,c,d=>Z15 N a b c d (λa b c d=>Z14L N k2 kr M a b c d) k2 kr
def Z14 N a b c d k2 kr:=(Z14L N k2 kr N a b c d:Option J)
def Z13 N a b c d kn kr:=(Z14 N a b c d kn kr:Option J)
def Z11 N a b c kn kr:=(Z12 N a b c (λd a b c=>Z13 N d a b c kn kr):Option J)
def Z25{J:Type}(N:Nat) (kr:Bool->Option J):Option J :=
 kr true
def Z10 N a b c kr:=(Z11 N a b c (Z25 N kr) kr:Option J)
def Z4 N a b c kr:=(Z5 N a b c (λa b c=>Z10 N a b c kr) kr:Option J)
def Z2 N a b c kr:=(Z3 N a b c (λa b c=>Z4 N a b c kr) kr:Option J)
def Z0 N a kr:=(Z1 N a (λb c d=>Z2 N b c d kr):Option J)
def Spec:Prop:=∀ (v0:MT),Ty.bd (.pair (.int .i64) (.pair (.int .i64) (.sl 0 (.int .i64)))) v0->∃N0,∀N,N0<=N->Z0 N v0 (λv2=>some ((),(v2,())))=some ((),((g v0),()))
section
variable {J : Type} {N : Nat} {m : Int × Int × List Int}
def at_g(hd:0<=m.1)(a b:Nat):aR.g (m.1,(m.2.1,m.2.2)) (a:Int) (b:Int)=ae m a b:=fF hd a b
def at_p(hd:aY m=true){a b:Nat}(ha:a<m.1.toNat)(hb:b<m.1.toNat):aR.P (m.1,(m.2.1,m.2.2)) (a:Int) (b:Int)=true:=by obtain⟨n,r,hn,hr,hn1,hn5,hnr,hr8,hl⟩:=aQ hd;exact fG hd (by omega) hb
def loop1(hl:m.2.2.length<=maxLen)(k0:Int->Int->List Int->Option J)(kr:Bool->Option J):∀(M j:Nat),j<=m.2.2.length->m.2.2.length-j<M ->
  Z8L N k0 kr M (j:Int) m.1 m.2.1 m.2.2=cond (lQ (m.2.2.drop j)) (k0 m.1 m.2.1 m.2.2) (kr false):=by
 intro M;induction M with
 |zero=>intro j _ h;omega
 |succ M ih =>
  intro j hj hM;simp only[Z8L,Z9];by_cases h:j<m.2.2.length;·rw[ct (dt (by omega)),ct (aG h),Int.toNat_natCast,aN (by omega),cK 0 h,lQ,List.all_cons,ih (j+1) h (by omega)];simp only[aL,jq.g];cases b7 (m.2.2.getD j 0) (-99) 99<;>rfl
  ·rw[cf (df (by omega)),List.drop_of_length_le (by omega)];rfl
def loop3(hd:aY m=true)(k4:Int->Int->Int->List Int->Option J)(kr:Bool->Option J){i:Nat}(hi:i<m.1.toNat):∀(M j:Nat),j<=m.1.toNat->m.1.toNat-j<M ->
  Z22L N k4 kr M (i:Int) (j:Int) m.1 m.2.1 m.2.2=cond (((List.range m.1.toNat).drop j).all λj=>dz (ae m i j) (ae m j i)) (k4 (i:Int) m.1 m.2.1 m.2.2) (kr false):=by
 obtain⟨n,r,hn,hr,hn1,hn5,hnr,hr8,hl⟩:=aQ hd;intro M;induction M with
 |zero=>intro j _ h;omega
 |succ M ih =>
  intro j hj hM;simp only[Z22L,Z23];by_cases h:j<m.1.toNat;·rw[ct (dt (by omega)),ct (at_p hd hi h),ct (at_p hd h hi),pf h,List.all_cons,aN (by rw[aS];omega),ih (j+1) h (by omega)];have hA:aR.g (m.1,(m.2.1,m.2.2)) (i:Int) (j:Int)=ae m i j:=at_g (by omega) _ _;have hB:aR.g (m.1,(m.2.1,m.2.2)) (j:Int) (i:Int)=ae m j i:=at_g (by omega) _ _;simp only[aL,hA,hB,dz];cases(decide (0<ae m i j) == decide (ae m j i<0))<;>cases(decide (ae m i j=0) == decide (ae m j i=0))<;>rfl
  ·rw[cf (df (by omega)),List.drop_of_length_le (by simp;omega)];rfl
def loop2(hN:10<=N)(hd:aY m=true)(k2:Option J)(kr:Bool->Option J):∀(M i:Nat),i<=m.1.toNat->m.1.toNat-i<M ->
  Z14L N k2 kr M (i:Int) m.1 m.2.1 m.2.2=cond (((List.range m.1.toNat).drop i).all λi=>(List.range m.1.toNat).all λj=>dz (ae m i j) (ae m j i)) k2 (kr false):=by
 obtain⟨n,r,hn,hr,hn1,hn5,hnr,hr8,hl⟩:=aQ hd;intro M;induction M with
 |zero=>intro i _ h;omega
 |succ M ih =>
  intro i hi hM;simp only[Z14L,Z15,Z16];by_cases h:i<m.1.toNat;·rw[ct (dt (by omega))];simp only[Z17,Z18,Z19,Z20,Z21,Z22];have h3:=loop3 (J:=J) (N:=N) hd (λa b c d=>Z24 N a b c d (λa b c d=>Z14L N k2 kr M a b c d)) kr h N 0 (by omega) (by omega);rw[show((0:Nat):Int)=0 from rfl]at h3;rw[h3,pf h,List.all_cons,List.drop_zero];simp only[Z24];rw[aN (by rw[aS];omega),ih (i+1) h (by omega)];cases((List.range m.1.toNat).all λj=>dz (ae m i j) (ae m j i))<;>rfl
  ·rw[cf (df (by omega)),List.drop_of_length_le (by simp;omega)];rfl
end
def ok:Spec:=λm hb=>⟨m.2.2.length+10,λN hN=>by
 have hlen:m.2.2.length<=maxLen:=hb.2.2.1;simp only[Z0,Z1,Z2,Z3,jq.g,g,aT,ba];have main:aY m=true->Z4 N m.1 m.2.1 m.2.2 (λt=>some ((),(t,())))=some ((),((lQ m.2.2&&(List.range m.1.toNat).all λi=>(List.range m.1.toNat).all λj=>dz (ae m i j) (ae m j i)),())):=by intro hd;obtain⟨n,r,hn,hr,hn1,hn5,hnr,hr8,hl⟩:=aQ hd;simp only[Z4,Z5,Z6,Z7,Z8];have h1:=loop1 (N:=N) hlen (λa b c=>Z10 N a b c (λt=>some ((),(t,())))) (λt=>some ((),(t,()))) N 0 (by omega) (by omega);rw[show((0:Nat):Int)=0 from rfl]at h1;rw[h1,List.drop_zero];simp only[Z10,Z11,Z12,Z13,Z14,Z25];have h2:=loop2 (N:=N) (by omega) hd (some ((),(true,()))) (λt=>some ((),(t,()))) N 0 (by omega) (by omega);rw[show((0:Nat):Int)=0 from rfl]at h2;rw[h2,List.drop_zero];cases lQ m.2.2<;>cases((List.range m.1.toNat).all λi=>(List.range m.1.toNat).all λj=>dz (ae m i j) (ae m j i))<;>rfl
 cases h1:b7 m.1 1 5;·rw[aY,h1];simp[aL]
 cases h2:b7 m.2.1 m.1 8;·rw[aY,h1,h2];simp[aL]
 have e1:=eK.1 h1;have e2:=eK.1 h2;have e3:0<=m.1*m.2.1:=Int.mul_nonneg (by omega) (by omega);have e4:m.1*m.2.1<=5*8:=Int.mul_le_mul (by omega) (by omega) (by omega) (by omega);rw[bh (by omega) (by omega)];by_cases h3:(m.2.2.length:Int)=m.1*m.2.1
 ·have hd:aY m=true:=by rw[aY,h1,h2,dt h3];rfl
  rw[eY (by simp[aL]),eY (by simp[aL]),cf (nf h3),main hd,hd];rfl
 ·have hd:aY m=false:=by rw[aY,h1,h2,df h3];rfl
  rw[eY (by simp[aL]),eY (by simp[aL]),ct (nt h3),hd];rfl⟩
end cp
namespace jQ
def g(m:Int×Int×List Int):Bool:=aT m&&!decide (bj m=[])
def Z0{J:Type}(N:Nat)(a:MT)(kr:Bool->Option J):Option J :=
 cond (!(lk N ((cp.g a))))
 (
  kr false)
 (
  cond (lk N (aV.P a)) (
   kr (lk N ((aV.g a).2))) none)
def Spec:Prop:=∀ (v0:MT),Ty.bd (.pair (.int .i64) (.pair (.int .i64) (.sl 0 (.int .i64)))) v0->∃N0,∀N,N0<=N->Z0 N v0 (λv2=>some ((),(v2,())))=some ((),((g v0),()))
def ok:Spec:=λm hb=>⟨0,λN hN=>by simp only[Z0,aL,g,cp.g,aV.P,aV.g];cases aT m<;>rfl⟩
end jQ
namespace dM
def P(a:List Int):Bool:=decide (a.length<1099511627776)
abbrev g(a:List Int):List Int:=a
def Z0{J:Type}(N:Nat)(a:LI)(kr:LI->Option J):Option J :=
 cond (lk N (Nat.blt (([]:List Int).length+a.length) 1099511627776)) (
  kr (([]:List Int)++a)) none
def Spec:Prop:=∀ (v0:LI),Ty.bd (.sl 0 (.int .i64)) v0->P v0=true->∃N0,∀N,N0<=N->Z0 N v0 (λv2=>some ((),(v2,())))=some ((),((g v0),()))
def ok:Spec:=λa hb hp=>⟨0,λN hN=>by
 have hl:a.length<1099511627776:=by simpa[P]using hp
 have hc:Nat.blt (([]:List Int).length+a.length) 1099511627776=true:=by simpa using hl
 simp only[Z0,aL,g,hc,cond_true,List.nil_append]⟩
end dM
namespace kz
def g(m:Int×Int×List Int):Int×Int×List Int:=if(aT m&&!decide (bj m=[]))=true then iX m else(0,0,[])
def Z0{J:Type}(N:Nat)(a:MT)(kr:LI->I2 (Option J)):Option J :=
 cond (!(lk N ((jQ.g a))))
 (
  kr ([]:List Int) 0 0)
 (
  cond (lk N (bF 0 (ah (a.1*a.1))&&bF (ah (a.1*a.1)) a.2.2.length)) (
   cond (lk N (dM.P (a.2.2.take (ah (a.1*a.1)).toNat))) (
    kr (dM.g (a.2.2.take (ah (a.1*a.1)).toNat)) a.1 a.1) none) none)
def Spec:Prop:=∀ (v0:MT),Ty.bd (.pair (.int .i64) (.pair (.int .i64) (.sl 0 (.int .i64)))) v0->∃N0,∀N,N0<=N->Z0 N v0 (λv2_2 v2_0 v2_1=>some ((),((v2_0,(v2_1,v2_2)),())))=some ((),((g v0),()))
def ok:Spec:=λm hb=>⟨0,λN hN=>by
 simp only[Z0,aL,g,jQ.g];cases h:(aT m&&!decide (bj m=[]));·rfl
 ·have hd:aY m=true:=by simp only[Bool.and_eq_true]at h;have hs:=h.1;simp only[aT,ba,Bool.and_eq_true]at hs;first | exact hs.1.1 | exact hs.1
  obtain⟨h1,h2,h3,h4⟩:=En hd;have hP:dM.P (m.2.2.take (m.1*m.1).toNat)=true:=dt (by rw[List.length_take];omega);rw[h1,kQ h2,kQ h4,hP];rfl⟩
end kz
namespace d9
def P(m:Int×Int×List Int):Bool:=dM.P m.2.2
abbrev g(m:Int×Int×List Int):Int×Int×List Int:=m
def Z0{J:Type}(N:Nat)(a:MT)(kr:LI->I2 (Option J)):Option J :=
 cond (lk N (dM.P a.2.2)) (
  kr (dM.g a.2.2) a.1 a.2.1) none
def Spec:Prop:=∀ (v0:MT),Ty.bd (.pair (.int .i64) (.pair (.int .i64) (.sl 0 (.int .i64)))) v0->P v0=true->∃N0,∀N,N0<=N->Z0 N v0 (λv2_2 v2_0 v2_1=>some ((),((v2_0,(v2_1,v2_2)),())))=some ((),((g v0),()))
def ok:Spec:=λm hb hp=>⟨0,λN hN=>by simp only[Z0];exact ct (show dM.P m.2.2=true from hp)⟩
end d9
namespace dc
def P(f:List Int)(n:Int)(l:List (List Int)):Bool:=decide (0<=n)&&(decide (n<=5)&&(decide (f.length<=n.toNat)&&decide (l.length+5 ^ (n.toNat-f.length)<=4000)))
def g(f:List Int)(n:Int)(l:List (List Int)):List (List Int):=l++dA n.toNat (n.toNat-f.length) f
def mu(f:List Int)(n:Int)(_:List (List Int)):Nat:=n.toNat-f.length
def Z1{J:Type}(N m:Nat)(a:LI)(b:Int)(c:LL)(kn:LI->LL->Int->Option J):Option J :=
 kn a c b
def Z3{J:Type}(N m:Nat)(a:LI)(b:LL)(c:Int)(kn:LI->LL->Int->Option J)(kr:LL->Option J):Option J :=
 cond (lk N (decide ((a.length:Int)=c)))
 (
  cond (lk N (Nat.blt (b.length+([a]:List (LI)).length) 1099511627776)) (
   kr (b++([a]:List (LI)))) none)
 (
  kn a b c)
def Z6{J:Type}(N m:Nat)(a:LI)(b:LL)(c:Int)(kn:LI->LL->I2 (Option J)):Option J :=
 kn a b c 0
def Z9{J:Type}(N m:Nat)(a:LI)(d:LL)(c b:Int)(kn:LI->LL->I2 (Option J))(k0:LL->Option J):Option J :=
 cond (lk N (decide (b<c)))
 (
  cond (!(lk N ((dv.g a b))))
  (
   cond (lk N (dM.P a)) (
    cond (lk N (Nat.blt ((dM.g a).length+([b]:List Int).length) 1099511627776)) (
     cond (lk N (Nat.blt (mu ((dM.g a)++([b]:List Int)) c d) m&&P ((dM.g a)++([b]:List Int)) c d)) (
      kn a (g ((dM.g a)++([b]:List Int)) c d) c (ah (b+1))) none) none) none)
  (
   kn a d c (ah (b+1))))
 (
  k0 d)
def Z8L{J:Type}(N m:Nat)(k0:LL->Option J):Nat->LI->LL->Int->Int->Option J
 |0,_,_,_,_=>none
 |M+1,a,b,c,d=>Z9 N m a b c d (λa b c d=>Z8L N m k0 M a b c d) k0
def Z8 N m a b c d k0:=(Z8L N m k0 N a b c d:Option J)
def Z7 N m a b c d kn:=(Z8 N m a b c d kn:Option J)
def Z5 N m a b c kn:=(Z6 N m a b c (λa b c d=>Z7 N m a b c d kn):Option J)
def Z10{J:Type}(N m:Nat)(a:LL)(kr:LL->Option J):Option J :=
 kr a
def Z4 N m b a c kr:=(Z5 N m b a c (λa=>Z10 N m a kr):Option J)
def Z2 N m a b c kr:=(Z3 N m a b c (λa b c=>Z4 N m a b c kr) kr:Option J)
def Z0 N m a b c kr:=(Z1 N m a b c (λa c b=>Z2 N m a c b kr):Option J)
def Spec:Prop:=∀(m:Nat) (v0:LI) (v1:Int) (v2:LL),Ty.bd (.sl 0 (.int .i64)) v0->Ty.bd (.sl 0 (.sl 0 (.int .i64))) v2->(Nat.blt (mu v0 v1 v2) (m+1)&&P v0 v1 v2)=true->∃N0,∀N,N0<=N->Z0 N m v0 v1 v2 (λv6=>some ((),(v6,())))=some ((),((g v0 v1 v2),()))
def d8(n k:Nat)(f:List Int)(j:Nat):List (List Int):=((List.range n).drop j).flatMap λx=>cond (f.any λy=>decide (y=((x:Nat):Int))) [] (dA n k (f++[((x:Nat):Int)]))
def loop{J:Type}{N m n k q:Nat}(hq:5 ^ k=q)(hn:n<=5){f:List Int}(hf:f.length+(k+1)=n)(hm:k<m)(k0:List (List Int)->Option J):∀(M j:Nat) (l:List (List Int)),j<=n->l.length+(n-j)*q<=4000->n-j<M ->
  Z8L N m k0 M f l (n:Int) (j:Int)=k0 (l++d8 n k f j):=by
 intro M;induction M with
 |zero=>intro j l _ _ h;omega
 |succ M ih =>
  intro j l hj hl hM;simp only[Z8L,Z9];by_cases h:j<n
  ·rw[ct (dt (by omega))];have e:(n-j)*q=(n-(j+1))*q+q:=by rw[<-Nat.succ_mul];congr 1;omega
   have hr:d8 n k f j=cond (f.any λy=>decide (y=((j:Nat):Int))) [] (dA n k (f++[((j:Nat):Int)]))++d8 n k f (j+1):=by unfold d8;rw[pf h,List.flatMap_cons]
   rw[hr,aN (by rw[aS];omega)];have e0:dv.g f (j:Int)=f.any λy=>decide (y=((j:Nat):Int)):=rfl;rw[e0];cases f.any λy=>decide (y=((j:Nat):Int))
   ·have hI:dM.P f=true:=dt (by omega);have hIg:dM.g f=f:=rfl;have hP:(Nat.blt (mu (f++[(j:Int)]) (n:Int) l) m&&P (f++[(j:Int)]) (n:Int) l)=true:=by
     have hlen:(f++[(j:Int)]).length=f.length+1:=by simp
     simp only[mu,P,hlen,Int.toNat_natCast,Bool.and_eq_true,decide_eq_true_eq];refine⟨Nat.ble_eq_true_of_le (by omega),by omega,by omega,by omega, ?_⟩;rw[show n-(f.length+1)=k by omega,hq];omega
    have hg:g (f++[(j:Int)]) (n:Int) l=l++dA n k (f++[(j:Int)]):=by
     have hlen:(f++[(j:Int)]).length=f.length+1:=by simp
     rw[g,hlen,Int.toNat_natCast,show n-(f.length+1)=k by omega]
    have hb:Nat.blt (f.length+([(j:Int)]:List Int).length) 1099511627776=true:=Nat.ble_eq_true_of_le (by simp;omega);have hol:=zw n hn k (f++[(j:Int)]);rw[hq]at hol;rw[aL,dZ (show(!false)=true from rfl),ct hI,hIg,ct hb,ct hP,hg,ih (j+1) _ h (by rw[List.length_append];omega) (by omega),cond_false,List.append_assoc]
   ·rw[aL,eY (show(!true)=false from rfl),ih (j+1) l h (by omega) (by omega),cond_true,List.nil_append]
  ·rw[cf (df (by omega)),show j=n by omega];unfold d8;rw[List.drop_of_length_le (by simp)];simp
def ok:Spec:=λm f n l hb hb2 hp=>⟨10,λN hN=>by
 simp only[P,mu,Bool.and_eq_true,decide_eq_true_eq]at hp;obtain⟨h0,h1,h2,h3,h4⟩:=hp;have h0:n.toNat-f.length<m+1:=Nat.le_of_ble_eq_true h0;obtain⟨n,rfl⟩:=Int.eq_ofNat_of_zero_le h1;simp only[Int.toNat_natCast]at h0 h3 h4;have hn:n<=5:=by omega
 simp only[Z0,Z1,Z2,Z3];by_cases h:f.length=n;·have hp:=Nat.pow_pos (a:=5) (n:=n-f.length) (by omega);have hb:Nat.blt (l.length+([f]:List (List Int)).length) 1099511627776=true:=Nat.ble_eq_true_of_le (by simp;omega);rw[ct (dt (by omega)),ct hb,g,Int.toNat_natCast,show n-f.length=0 by omega];rfl
 ·rw[cf (df (by omega))];simp only[Z4,Z5,Z6,Z7,Z8];obtain⟨k,hk⟩:∃k,f.length+(k+1)=n:=⟨n-f.length-1,by omega⟩;have e:n-f.length=k+1:=by omega
  rw[e,Nat.pow_succ]at h4;have h5:n*5 ^ k<=5 ^ k*5:=by rw[Nat.mul_comm];exact Nat.mul_le_mul_left _ hn
  refine(loop rfl hn hk (by omega) _ N 0 l (Nat.zero_le _) (by rw[Nat.sub_zero];exact Nat.le_trans (Nat.add_le_add_left h5 _) h4) (by omega)).trans ?_;rw[g,Int.toNat_natCast,e];rfl⟩
end dc
namespace ca
def P(m:Int×Int×List Int)(aC:List Int):Bool:=aY m&&eD aC m.1
def g(m:Int×Int×List Int)(aC:List Int):Int×Int×List Int:=ci m aC
def Z1{J:Type}(N:Nat)(a:MT)(b:LI)(kn:LI->I2 (LI->I2 (Option J))):Option J :=
 kn b a.1 a.2.1 a.2.2 0 0
def Z3{J:Type}(N:Nat)(d:LI)(a b:Int)(c:LI)(e f:Int)(kn:LI->LI->I2 (LI->I4 (Option J))):Option J :=
 cond (lk N (d9.P (a,(b,c)))) (
  kn (d9.g (a,(b,c))).2.2 d a b c e f (d9.g (a,(b,c))).1 (d9.g (a,(b,c))).2.1) none
def Z6{J:Type}(N:Nat)(a b:LI)(c d:Int)(e:LI)(f g h i:Int)(kn:LI->LI->I3 (LI->I4 (Option J))):Option J :=
 kn a b 0 c d e f g h i
def Z10{J:Type}(N:Nat)(a h:LI)(b i c:Int)(j:LI)(d e f g:Int)(kn:LI->LI->I3 (LI->I4 (Option J)))(k0:LI->I4 (Option J)):Option J :=
 cond (lk N (decide (b<c)))
 (
  kn a h b i c j d e f g)
 (
  k0 a d e f g)
def Z14{J:Type}(N:Nat)(b c:LI)(a d e:Int)(f:LI)(g h i j:Int)(kn:LI->LI->I4 (LI->I4 (Option J))):Option J :=
 kn b c a a d e f g h i j
def Z16{J:Type}(N:Nat)(d b:LI)(a l c e:Int)(f:LI)(g h i j:Int)(kn:LI->LI->I4 (LI->I4 (Option J))):Option J :=
 cond (lk N (decide (a<c)))
 (
  cond (lk N (ax a b.length)) (
   kn d b a (b.getD a.toNat 0) c e f g h i j) none)
 (
  kn d b a l c e f g h i j)
def Z18{J:Type}(N:Nat)(a b:LI)(c d e f:Int)(g:LI)(h i j l:Int)(kn:LI->LI->I5 (LI->I4 (Option J))):Option J :=
 kn a b c d 0 e f g h i j l
def Z21{J:Type}(N:Nat)(h c:LI)(d i a b e:Int)(f:LI)(j l m o:Int)(kn:LI->LI->I5 (LI->I4 (Option J)))(k2:LI->LI->I3 (LI->I4 (Option J))):Option J :=
 cond (lk N (decide (a<b)))
 (
  cond (lk N (ax a c.length)) (
   cond (lk N (aR.P (b,(e,f)) d a)) (
    cond (lk N (ax (ah ((ah (i*b))+(c.getD a.toNat 0))) h.length)) (
     kn (h.set (ah ((ah (i*b))+(c.getD a.toNat 0))).toNat (aR.g (b,(e,f)) d a)) c d i (ah (a+1)) b e f j l m o) none) none) none)
 (
  k2 h c d b e f j l m o)
def Z20L{J:Type}(N:Nat)(k2:LI->LI->I3 (LI->I4 (Option J))):Nat->LI->LI->Int->Int->Int->Int->Int->LI->Int->Int->Int->Int->Option J
 |0,_,_,_,_,_,_,_,_,_,_,_,_=>none
 |M+1,a,b,c,d,e,f,g,h,i,j,l,m=>Z21 N a b c d e f g h i j l m (λa b c d e f g h i j l m=>Z20L N k2 M a b c d e f g h i j l m) k2
def Z20 N a b c d e f g h i j l m k2:=(Z20L N k2 N a b c d e f g h i j l m:Option J)
def Z19 N a b c d e f g h i j l m kn:=(Z20 N a b c d e f g h i j l m kn:Option J)
def Z17 N a b c d e f g h i j l kn:=(Z18 N a b c d e f g h i j l (λa b c d m e f g h i j l=>Z19 N a b c d m e f g h i j l kn):Option J)
def Z15 N a b c d e f g h i j l kn:=(Z16 N a b c d e f g h i j l (λa b c d e f g h i j l=>Z17 N a b c d e f g h i j l kn):Option J)
def Z13 N a b c d e f g h i j kn:=(Z14 N a b c d e f g h i j (λa b c l d e f g h i j=>Z15 N a b c l d e f g h i j kn):Option J)
def Z12 N a b c d e f g h i j kn:=(Z13 N a b c d e f g h i j kn:Option J)
def Z22{J:Type}(N:Nat)(a b:LI)(c d e:Int)(f:LI)(g h i j:Int)(kn:LI->LI->I3 (LI->I4 (Option J))):Option J :=
 kn a b (ah (c+1)) d e f g h i j
def Z11 N a b c d e f g h i j kn:=(Z12 N a b c d e f g h i j (λa b c d e f g h i j=>Z22 N a b c d e f g h i j kn):Option J)
def Z9 N a b c d e f g h i j kn k0:=(Z10 N a b c d e f g h i j (λa b c d e f g h i j=>Z11 N a b c d e f g h i j kn) k0:Option J)
def Z8L{J:Type}(N:Nat)(k0:LI->I4 (Option J)):Nat->LI->LI->Int->Int->Int->LI->Int->Int->Int->Int->Option J
 |0,_,_,_,_,_,_,_,_,_,_=>none
 |M+1,a,b,c,d,e,f,g,h,i,j=>Z9 N a b c d e f g h i j (λa b c d e f g h i j=>Z8L N k0 M a b c d e f g h i j) k0
def Z8 N a b c d e f g h i j k0:=(Z8L N k0 N a b c d e f g h i j:Option J)
def Z7 N a b c d e f g h i j kn:=(Z8 N a b c d e f g h i j kn:Option J)
def Z5 N a b c d e f g h i kn:=(Z6 N a b c d e f g h i (λa b j c d e f g h i=>Z7 N a b j c d e f g h i kn):Option J)
def Z23{J:Type}(N:Nat)(a:LI)(d e b c:Int)(kr:LI->I2 (Option J)):Option J :=
 kr a b c
def Z4 N a f g h i b c d e kr:=(Z5 N a f g h i b c d e (λa b c d e=>Z23 N a b c d e kr):Option J)
def Z2 N a b c d e f kr:=(Z3 N a b c d e f (λg a b c d e f h i=>Z4 N g a b c d e f h i kr):Option J)
def Z0 N b a kr:=(Z1 N b a (λa c d e f g=>Z2 N a c d e f g kr):Option J)
def Spec:Prop:=∀ (v0:MT) (v1:LI),Ty.bd (.pair (.int .i64) (.pair (.int .i64) (.sl 0 (.int .i64)))) v0->Ty.bd (.sl 0 (.int .i64)) v1->P v0 v1=true->∃N0,∀N,N0<=N->Z0 N v0 v1 (λv4_2 v4_0 v4_1=>some ((),((v4_0,(v4_1,v4_2)),())))=some ((),((g v0 v1),()))
section
variable {J : Type} {N : Nat} {m : Int × Int × List Int} {L : List Nat}
def at_g(hd:0<=m.1)(a b:Nat):aR.g (m.1,(m.2.1,m.2.2)) (a:Int) (b:Int)=ae m a b:=fF hd a b
def at_p(hd:aY m=true){a b:Nat}(ha:a<m.2.1.toNat)(hb:b<m.1.toNat):aR.P (m.1,(m.2.1,m.2.2)) (a:Int) (b:Int)=true:=fG hd ha hb
def cur(m:Int×Int×List Int)(L:List Nat)(st:List Int)(t:Nat):List Int:=iY m.2.2.length t (fb m.1.toNat L) (λp=>m.2.2.getD (fb m.1.toNat L p) 0) (λp=>st.getD p 0)
def inner(hd:aY m=true)(h1:L.Nodup)(h2:∀x∈L,x<m.1.toNat)(h3:L.length=m.1.toNat)(st:List Int)(k2:List Int->List Int->Int->Int->Int->List Int->Int->Int->Int->Int->Option J)(t0 t1 o0 o1:Int){i:Nat}(hi:i<m.2.1.toNat):∀(M j:Nat),j<=m.1.toNat->m.1.toNat-j<M ->
  Z20L N k2 M (cur m L st (i*m.1.toNat+j)) (ak L) (i:Int) ((cy m.1.toNat L i:Nat):Int) (j:Int) m.1 m.2.1 m.2.2 t0 t1 o0 o1=k2 (cur m L st (i*m.1.toNat+m.1.toNat)) (ak L) (i:Int) m.1 m.2.1 m.2.2 t0 t1 o0 o1:=by
 obtain⟨n,r,hn,hr,hn1,hn5,hnr,hr8,hl⟩:=aQ hd;have hnr':m.1.toNat<=m.2.1.toNat:=by omega
 intro M;induction M with
 |zero=>intro j _ h;omega
 |succ M ih =>
  intro j hj hM;simp only[Z20L,Z21];by_cases h:j<m.1.toNat
  ·have hx:=h2 _ (aX (l:=L) (j:=j) 0 (by omega));have hrow:=zt h1 h2 h3 hnr' hi;have hlt:cy m.1.toNat L i*m.1.toNat+L.getD j 0<m.2.2.length:=by
    have:=j9 (n:=m.1.toNat) (r:=m.2.1.toNat) hrow hx;rw[hl];have e:m.2.1.toNat*m.1.toNat=r*n:=by rw[hn,hr];rfl
    omega
   have hidx:ah (ah (((cy m.1.toNat L i:Nat):Int)*m.1)+((L.getD j 0:Nat):Int))=((cy m.1.toNat L i*m.1.toNat+L.getD j 0:Nat):Int):=by
    have e:((cy m.1.toNat L i:Nat):Int)*m.1=((cy m.1.toNat L i*m.1.toNat:Nat):Int):=by rw[hn,Int.natCast_mul];simp
    have hb:cy m.1.toNat L i*m.1.toNat<=8*5:=Nat.mul_le_mul (by omega) (by omega);have e2:ah (((cy m.1.toNat L i*m.1.toNat:Nat):Int))=((cy m.1.toNat L i*m.1.toNat:Nat):Int):=bh (by omega) (by omega);rw[e,e2,bh (by omega) (by omega)];omega
   have hset:(cur m L st (i*m.1.toNat+j)).set (cy m.1.toNat L i*m.1.toNat+L.getD j 0) (ae m i j)=cur m L st (i*m.1.toNat+(j+1)):=by have e:=Eo (total:=m.2.2.length) (t:=i*m.1.toNat+j) (p:=cy m.1.toNat L i*m.1.toNat+L.getD j 0) (back:=fb m.1.toNat L) (F:=λp=>m.2.2.getD (fb m.1.toNat L p) 0) (G:=λp=>st.getD p 0) hlt (uP h1 h2 h3 hnr' h) (λq _ hq=>Eu h1 h2 h3 hnr' h hq);simp only[uP h1 h2 h3 hnr' h]at e;exact e
   rw[ct (dt (by omega)),ct (aG (by rw[aU];omega)),ct (at_p hd hi h)];simp only[Int.toNat_natCast,d6,hidx];rw[ct (aG (by rw[cur,rX];exact hlt)),at_g (by omega),hset,aN (by rw[aS];omega)];exact ih (j+1) h (by omega)
  ·rw[cf (df (by omega)),show j=m.1.toNat by omega]
def outer(hN:10<=N)(hd:aY m=true)(h1:L.Nodup)(h2:∀x∈L,x<m.1.toNat)(h3:L.length=m.1.toNat)(st:List Int)(k0:List Int->Int->Int->Int->Int->Option J)(t0 t1 o0 o1:Int):∀(M i:Nat),i<=m.2.1.toNat->m.2.1.toNat-i<M ->
  Z8L N k0 M (cur m L st (i*m.1.toNat)) (ak L) (i:Int) m.1 m.2.1 m.2.2 t0 t1 o0 o1=k0 (cur m L st (m.2.1.toNat*m.1.toNat)) t0 t1 o0 o1:=by
 obtain⟨n,r,hn,hr,hn1,hn5,hnr,hr8,hl⟩:=aQ hd;intro M;induction M with
 |zero=>intro i _ h;omega
 |succ M ih =>
  intro i hi hM;simp only[Z8L,Z9,Z10];by_cases h:i<m.2.1.toNat
  ·have hin:=inner (J:=J) (N:=N) hd h1 h2 h3 st (λout5_2 names1 i6 m2_0 m2_1 m2_2 t4_0 t4_1 out5_0 out5_1=>Z22 N out5_2 names1 i6 m2_0 m2_1 m2_2 t4_0 t4_1 out5_0 out5_1 (λout5_2 names1 i6 m2_0 m2_1 m2_2 t4_0 t4_1 out5_0 out5_1=>Z8L N k0 M out5_2 names1 i6 m2_0 m2_1 m2_2 t4_0 t4_1 out5_0 out5_1)) t0 t1 o0 o1 h N 0 (by omega) (by omega);rw[show((0:Nat):Int)=0 from rfl,Nat.add_zero]at hin;have hnext:=ih (i+1) h (by omega);rw[Nat.add_mul,Nat.one_mul]at hnext;rw[ct (dt (by omega))];simp only[Z11,Z12,Z13,Z14,Z15,Z16];by_cases hin':i<m.1.toNat;·rw[ct (dt (by omega)),ct (aG (by rw[aU];omega)),Int.toNat_natCast,d6];rw[cy,if_pos hin']at hin;simp only[Z17,Z18,Z19,Z20];rw[hin];simp only[Z22];rw[aN (by rw[aS];omega)];exact hnext
   ·rw[cf (df (by omega))];rw[cy,if_neg hin']at hin;simp only[Z17,Z18,Z19,Z20];rw[hin];simp only[Z22];rw[aN (by rw[aS];omega)];exact hnext
  ·rw[cf (df (by omega)),show i=m.2.1.toNat by omega]
def cur_start(L:List Nat):cur m L m.2.2 0=m.2.2:=by unfold cur;rw[Ep];exact rQ 0 rfl
def cur_end(hd:aY m=true)(h1:L.Nodup)(h2:∀x∈L,x<m.1.toNat)(h3:L.length=m.1.toNat)(st:List Int):cur m L st (m.2.1.toNat*m.1.toNat)=(ci m (ak L)).2.2:=by
 obtain⟨n,r,hn,hr,hn1,hn5,hnr,hr8,hl⟩:=aQ hd;have e:m.2.1.toNat*m.1.toNat=m.2.2.length:=by rw[hl,hn,hr];simp
 rw[e];unfold cur ci;rw[fc];exact Er (λp hp=>by have:=Ev h1 h2 h3 (r:=m.2.1.toNat) (by omega) (by omega) (q:=p) (by omega);omega)
end
def ok:Spec:=λm aC hb hv hp=>⟨10,λN hN=>by
 simp only[P,Bool.and_eq_true]at hp;obtain⟨hd,hnm⟩:=hp;obtain⟨L,rfl,h1,h2,h3⟩:=lT hnm;obtain⟨n,r,hn,hr,hn1,hn5,hnr,hr8,hl⟩:=aQ hd;have hlen:m.2.2.length<=8*5:=by rw[hl];exact Nat.mul_le_mul hr8 hn5
 simp only[Z0,Z1,Z2,Z3];rw[ct (show d9.P (m.1,(m.2.1,m.2.2))=true from dt (show m.2.2.length<1099511627776 by omega))];simp only[Z4,Z5,Z6,Z7,Z8];have:=outer (J:=Unit×(Int×Int×List Int)×Unit) hN hd h1 h2 h3 m.2.2 (λout5_2 t4_0 t4_1 out5_0 out5_1=>Z23 N out5_2 t4_0 t4_1 out5_0 out5_1 (λt4_2 t4_0 t4_1=>some ((),((t4_0,(t4_1,t4_2)),())))) 0 0 m.1 m.2.1 N 0 (by omega) (by omega);rw[Nat.zero_mul,cur_start,cur_end hd h1 h2 h3]at this;exact this⟩
end ca
namespace eR
def g(a b:List Int):Bool:=bT a b
def Z1{J:Type}(N:Nat)(a b:LI)(kn:LI->LI->Option J):Option J :=
 kn a b
def Z4{J:Type}(N:Nat)(a b:LI)(kn:LI->LI->Int->Option J):Option J :=
 kn a b 0
def Z7{J:Type}(N:Nat)(b c:LI)(a:Int)(kn:LI->LI->Int->Option J)(k0:LI->LI->Option J)(kr:Bool->Option J):Option J :=
 cond (lk N (decide (a<(b.length:Int))))
 (
  cond (lk N (decide (a<(c.length:Int))))
  (
   cond (lk N (ax a b.length)) (
    cond (lk N (ax a c.length)) (
     cond (lk N (!(decide ((b.getD a.toNat 0)=(c.getD a.toNat 0)))))
     (
      cond (lk N (ax a b.length)) (
       cond (lk N (ax a c.length)) (
        kr (lk N (decide ((b.getD a.toNat 0)<(c.getD a.toNat 0))))) none) none)
     (
      kn b c (ah (a+1)))) none) none)
  (
   k0 b c))
 (
  k0 b c)
def Z6L{J:Type}(N:Nat)(k0:LI->LI->Option J)(kr:Bool->Option J):Nat->LI->LI->Int->Option J
 |0,_,_,_=>none
 |M+1,a,b,c=>Z7 N a b c (λa b c=>Z6L N k0 kr M a b c) k0 kr
def Z6 N a b c k0 kr:=(Z6L N k0 kr N a b c:Option J)
def Z5 N a b c kn kr:=(Z6 N a b c kn kr:Option J)
def Z3 N a b kn kr:=(Z4 N a b (λa b c=>Z5 N a b c kn kr):Option J)
def Z8{J:Type}(N:Nat)(a b:LI)(kr:Bool->Option J):Option J :=
 kr (lk N (decide ((a.length:Int)<(b.length:Int))))
def Z2 N a b kr:=(Z3 N a b (λa b=>Z8 N a b kr) kr:Option J)
def Z0 N a b kr:=(Z1 N a b (λa b=>Z2 N a b kr):Option J)
def Spec:Prop:=∀ (v0 v1:LI),Ty.bd (.sl 0 (.int .i64)) v0->Ty.bd (.sl 0 (.int .i64)) v1->∃N0,∀N,N0<=N->Z0 N v0 v1 (λv4=>some ((),(v4,())))=some ((),((g v0 v1),()))
def loop{J:Type}(N:Nat)(k0:List Int->List Int->Option J)(kr:Bool->Option J)(a b:List Int)(ha:a.length<=maxLen)(h0:k0 a b=kr (decide (a.length<b.length))):∀(M j:Nat),j<=a.length->j<=b.length->a.length-j<M ->
  Z6L N k0 kr M a b (j:Int)=kr (bT (a.drop j) (b.drop j)):=by
 intro M;induction M with
 |zero=>intro j _ _ h;omega
 |succ M ih =>
  intro j hj hb hM;simp only[Z6L,Z7];by_cases h:j<a.length
  ·rw[ct (dt (by omega)),cK 0 h];by_cases h2:j<b.length
   ·rw[ct (dt (by omega)),ct (aG h),ct (aG h2),Int.toNat_natCast,aN (by omega),cK (l:=b) 0 h2,bT,ih (j+1) h h2 (by omega)];by_cases e:a.getD j 0=b.getD j 0;·rw[cf (nf e),if_pos e]
    ·rw[ct (nt e),if_neg e,ct (aG h),ct (aG h2),aL]
   ·rw[cf (df (by omega)),List.drop_of_length_le (l:=b) (by omega),h0,df (by omega)];rfl
  ·rw[cf (df (by omega)),List.drop_of_length_le (by omega),h0];by_cases h2:j<b.length;·rw[dt (by omega),cK (l:=b) 0 h2];rfl
   ·rw[df (by omega),List.drop_of_length_le (l:=b) (by omega)];rfl
def ok:Spec:=λa b ha hb=>⟨a.length+1,λN hN=>by simp only[Z1,Z4,Z7,Z6,Z5,Z3,Z8,Z2,Z0];refine(loop N _ (λt=>some ((),(t,()))) a b ha.1 ?_ N 0 (by omega) (by omega) (by omega)).trans rfl;rw[aL,show decide ((a.length:Int)<(b.length:Int))=decide (a.length<b.length)from decide_eq_decide.2 (by omega)]⟩
end eR
namespace cM
def P(m:Int×Int×List Int):Bool:=aY m&&decide (m.2.1=m.1)
def g(m:Int×Int×List Int):Int×Int×List Int:=cR m
def Z1{J:Type}(N:Nat)(a:MT)(kn:I2 (LI->I2 (Option J))):Option J :=
 kn a.1 a.2.1 a.2.2 0 0
def Z3{J:Type}(N:Nat)(a b:Int)(c:LI)(d e:Int)(kn:LI->I2 (LI->I4 (Option J))):Option J :=
 cond (lk N (d9.P (a,(b,c)))) (
  kn (d9.g (a,(b,c))).2.2 a b c d e (d9.g (a,(b,c))).1 (d9.g (a,(b,c))).2.1) none
def Z5{J:Type}(N:Nat)(b:LI)(a c:Int)(d:LI)(e f h i:Int)(kn:LL->LI->I2 (LI->I4 (Option J))):Option J :=
 cond (lk N (dc.P ([]:List Int) a ([]:List (LI)))) (
  kn (dc.g ([]:List Int) a ([]:List (LI))) b a c d e f h i) none
def Z8{J:Type}(N:Nat)(a:LL)(b:LI)(c d:Int)(e:LI)(f g h i:Int)(kn:LL->LI->I3 (LI->I4 (Option J))):Option J :=
 kn a b 0 c d e f g h i
def Z11{J:Type}(N:Nat)(a:LL)(f:LI)(b c d:Int)(e:LI)(h i j l:Int)(kn:LL->LI->I3 (LI->I4 (Option J)))(k0:LI->I4 (Option J)):Option J :=
 cond (lk N (decide (b<(a.length:Int))))
 (
  cond (lk N (ax b a.length)) (
   bo (
    cond (lk N (ca.P (c,(d,e)) (a.getD b.toNat []))) (
     cond (lk N ((eR.g (ca.g (c,(d,e)) (a.getD b.toNat [])).2.2 f)))
     (
      kn a (ca.g (c,(d,e)) (a.getD b.toNat [])).2.2 (ah (b+1)) c d e h i (ca.g (c,(d,e)) (a.getD b.toNat [])).1 (ca.g (c,(d,e)) (a.getD b.toNat [])).2.1)
     (
      kn a f (ah (b+1)) c d e h i j l)) none)) none)
 (
  k0 f h i j l)
def Z10L{J:Type}(N:Nat)(k0:LI->I4 (Option J)):Nat->LL->LI->Int->Int->Int->LI->Int->Int->Int->Int->Option J
 |0,_,_,_,_,_,_,_,_,_,_=>none
 |M+1,a,b,c,d,e,f,g,h,i,j=>Z11 N a b c d e f g h i j (λa b c d e f g h i j=>Z10L N k0 M a b c d e f g h i j) k0
def Z10 N a b c d e f g h i j k0:=(Z10L N k0 N a b c d e f g h i j:Option J)
def Z9 N a b c d e f g h i j kn:=(Z10 N a b c d e f g h i j kn:Option J)
def Z7 N a b c d e f g h i kn:=(Z8 N a b c d e f g h i (λa b j c d e f g h i=>Z9 N a b j c d e f g h i kn):Option J)
def Z12{J:Type}(N:Nat)(a:LI)(d e b c:Int)(kr:LI->I2 (Option J)):Option J :=
 kr a b c
def Z6 N f a g h i b c d e kr:=(Z7 N f a g h i b c d e (λa b c d e=>Z12 N a b c d e kr):Option J)
def Z4 N a b c d e f g h kr:=(Z5 N a b c d e f g h (λi a b c d e f g h=>Z6 N i a b c d e f g h kr):Option J)
def Z2 N a b c d e kr:=(Z3 N a b c d e (λf a b c d e g h=>Z4 N f a b c d e g h kr):Option J)
def Z0 N a kr:=(Z1 N a (λb c d e f=>Z2 N b c d e f kr):Option J)
def Spec:Prop:=∀ (v0:MT),Ty.bd (.pair (.int .i64) (.pair (.int .i64) (.sl 0 (.int .i64)))) v0->P v0=true->∃N0,∀N,N0<=N->Z0 N v0 (λv2_2 v2_0 v2_1=>some ((),((v2_0,(v2_1,v2_2)),())))=some ((),((g v0),()))
def loop{J:Type}{N:Nat}{m:Int×Int×List Int}(hd:aY m=true){l:List (List Int)}(hl:∀o∈l,eD o m.1=true)(hl2:l.length<=4000)(k0:List Int->Int->Int->Int->Int->Option J)(t0 t1:Int) :
  ∀(M j:Nat) (b:List Int),j<=l.length->l.length-j<M->Z10L N k0 M l b (j:Int) m.1 m.2.1 m.2.2 t0 t1 m.1 m.2.1=k0 (cW (b9 m) b (l.drop j)) t0 t1 m.1 m.2.1:=by
 intro M;induction M with
 |zero=>intro j b _ h;omega
 |succ M ih =>
  intro j b hj hM;simp only[Z10L,Z11];by_cases h:j<l.length
  ·have hP:ca.P (m.1,(m.2.1,m.2.2)) (l.getD j [])=true:=by have:=hl _ (aX (l:=l) [] h);simp only[ca.P,Bool.and_eq_true];exact⟨hd,this⟩
   have e1:(ca.g (m.1,(m.2.1,m.2.2)) (l.getD j [])).2.2=b9 m (l.getD j []):=rfl;have e2:(ca.g (m.1,(m.2.1,m.2.2)) (l.getD j [])).1=m.1:=rfl;have e3:(ca.g (m.1,(m.2.1,m.2.2)) (l.getD j [])).2.1=m.2.1:=rfl;have e4:eR.g (b9 m (l.getD j [])) b=bT (b9 m (l.getD j [])) b:=rfl;rw[ct (dt (by omega)),ct (aG h)];simp only[Int.toNat_natCast,oM,e1,e2,e3,e4,aL,hP,cond_true];rw[aN (by rw[aS];omega),ih (j+1) _ h (by omega),ih (j+1) _ h (by omega),cK (l:=l) [] h];have e5:cW (b9 m) b (l.getD j []::l.drop (j+1))=cW (b9 m) (if bT (b9 m (l.getD j [])) b=true then b9 m (l.getD j [])else b) (l.drop (j+1)):=rfl;rw[e5];cases bT (b9 m (l.getD j [])) b<;>rfl
  ·rw[cf (df (by omega)),List.drop_of_length_le (by omega)];rfl
def ok:Spec:=λm hb hp=>⟨5000,λN hN=>by
 simp only[P,Bool.and_eq_true,decide_eq_true_eq]at hp;obtain⟨hd,hr⟩:=hp;obtain⟨n,r,hn,hr',hn1,hn5,hnr,hr8,hl⟩:=aQ hd;have hlen:m.2.2.length<=8*5:=by rw[hl];exact Nat.mul_le_mul hr8 hn5
 have e1:m.1.toNat=n:=by omega
 have h5:5 ^ n<=5 ^ 5:=Nat.pow_le_pow_right (by omega) hn5;have hOP:dc.P [] m.1 []=true:=by simp only[dc.P,List.length_nil,Bool.and_eq_true,decide_eq_true_eq,e1,Nat.sub_zero,Nat.zero_add];exact⟨by omega,by omega,by omega,Nat.le_trans h5 (by decide)⟩
 have hO:dc.g [] m.1 []=dA n n []:=by rw[dc.g,e1];rfl
 have hol:=zw n hn5 n [];have hol:(dA n n []).length<=4000:=Nat.le_trans hol (Nat.le_trans h5 (by decide));have hnm:∀o∈dA n n [],eD o m.1=true:=λo ho=>by rw[hn];exact pn hn5 ((rY hn5 o).2 ho)
 simp only[Z0,Z1,Z2,Z3];rw[ct (show d9.P (m.1,(m.2.1,m.2.2))=true from dt (show m.2.2.length<1099511627776 by omega))];simp only[Z4,Z5];rw[ct hOP,hO];simp only[Z6,Z7,Z8,Z9,Z10];refine(loop hd hnm hol _ _ _ N 0 _ (Nat.zero_le _) (by omega)).trans ?_;rw[List.drop_zero,g,cR,e1];rfl⟩
end cM
namespace bR
def P(m:Int×Int×List Int)(k:Int):Bool:=ba m&&(decide (0<=k)&&decide (k<m.1))
def g(m:Int×Int×List Int)(k:Int):Int×Int×List Int:=bB m k.toNat
def Z1{J:Type}(N:Nat)(a:MT)(b:Int)(kn:I3 (LI->I2 (Option J))):Option J :=
 kn b a.1 a.2.1 a.2.2 0 0
def Z3{J:Type}(N:Nat)(d a b:Int)(c:LI)(e f:Int)(kn:LI->I3 (LI->I4 (Option J))):Option J :=
 cond (lk N (d9.P (a,(b,c)))) (
  kn (d9.g (a,(b,c))).2.2 d a b c e f (d9.g (a,(b,c))).1 (d9.g (a,(b,c))).2.1) none
def Z6{J:Type}(N:Nat)(a:LI)(b c d:Int)(e:LI)(f g h i:Int)(kn:LI->I4 (LI->I4 (Option J))):Option J :=
 kn a b 0 c d e f g h i
def Z10{J:Type}(N:Nat)(a:LI)(h b i c:Int)(j:LI)(d e f g:Int)(kn:LI->I4 (LI->I4 (Option J)))(k0:LI->I4 (Option J)):Option J :=
 cond (lk N (decide (b<c)))
 (
  kn a h b i c j d e f g)
 (
  k0 a d e f g)
def Z14{J:Type}(N:Nat)(a:LI)(b c d e:Int)(f:LI)(g h i j:Int)(kn:LI->I5 (LI->I4 (Option J))):Option J :=
 kn a b c 0 d e f g h i j
def Z18{J:Type}(N:Nat)(b:LI)(c d e a f:Int)(g:LI)(h i j l:Int)(kn:LI->I5 (LI->I4 (Option J)))(k2:LI->I4 (LI->I4 (Option J))):Option J :=
 cond (lk N (decide (e<a)))
 (
  kn b c d e a f g h i j l)
 (
  k2 b c d a f g h i j l)
def Z22{J:Type}(N:Nat)(f:LI)(a b h c d:Int)(e:LI)(i j l m:Int)(kn:LI->I6 (LI->I4 (Option J))):Option J :=
 cond (lk N (aR.P (c,(d,e)) b a)) (
  kn f a b h (aR.g (c,(d,e)) b a) c d e i j l m) none
def Z24{J:Type}(N:Nat)(f:LI)(a h b i c d:Int)(e:LI)(j l m o:Int)(kn:LI->I7 (LI->I4 (Option J))):Option J :=
 cond (lk N (aR.P (c,(d,e)) a b)) (
  kn f a h b i (aR.g (c,(d,e)) a b) c d e j l m o) none
def Z27{J:Type}(N:Nat)(d:LI)(a b c e f g h:Int)(i:LI)(j l m o:Int)(kn:LI->I5 (Bool->I2 (LI->I4 (Option J)))):Option J :=
 cond (lk N (decide (b=a)))
 (
  kn d a b c e f true g h i j l m o)
 (
  kn d a b c e f (lk N (decide (c=a))) g h i j l m o)
def Z28{J:Type}(N:Nat)(f:LI)(h a b o p:Int)(q:Bool)(c d:Int)(e:LI)(i j l m:Int)(kn:LI->I5 (LI->I4 (Option J))):Option J :=
 cond (q)
 (
  cond (lk N (aR.P (c,(d,e)) a b)) (
   cond (lk N (ax (ah ((ah (a*c))+b)) f.length)) (
    kn (f.set (ah ((ah (a*c))+b)).toNat (ah (0-(aR.g (c,(d,e)) a b)))) h a b c d e i j l m) none) none)
 (
  cond (lk N (decide (0<o)))
  (
   cond (lk N (decide (0<p)))
   (
    cond (lk N (aR.P (c,(d,e)) a b)) (
     cond (lk N (ax (ah ((ah (a*c))+b)) f.length)) (
      kn (f.set (ah ((ah (a*c))+b)).toNat (ah ((aR.g (c,(d,e)) a b)+(ah (o*p))))) h a b c d e i j l m) none) none)
   (
    cond (lk N (decide (o<0)))
    (
     cond (lk N (decide (p<0)))
     (
      cond (lk N (aR.P (c,(d,e)) a b)) (
       cond (lk N (ax (ah ((ah (a*c))+b)) f.length)) (
        kn (f.set (ah ((ah (a*c))+b)).toNat (ah ((aR.g (c,(d,e)) a b)-(ah (o*p))))) h a b c d e i j l m) none) none)
     (
      kn f h a b c d e i j l m))
    (
     kn f h a b c d e i j l m)))
  (
   cond (lk N (decide (o<0)))
   (
    cond (lk N (decide (p<0)))
    (
     cond (lk N (aR.P (c,(d,e)) a b)) (
      cond (lk N (ax (ah ((ah (a*c))+b)) f.length)) (
       kn (f.set (ah ((ah (a*c))+b)).toNat (ah ((aR.g (c,(d,e)) a b)-(ah (o*p))))) h a b c d e i j l m) none) none)
    (
     kn f h a b c d e i j l m))
   (
    kn f h a b c d e i j l m)))
def Z26 N a b c d e f g h i j l m o kn:=(Z27 N a b c d e f g h i j l m o (λa b c d e f p g h i j l m o=>Z28 N a b c d e f p g h i j l m o kn):Option J)
def Z25 N a b c d e f g h i j l m o kn:=(Z26 N a b c d e f g h i j l m o kn:Option J)
def Z23 N a b c d e f g h i j l m kn:=(Z24 N a b c d e f g h i j l m (λa b c d e o f g h i j l m=>Z25 N a b c d e o f g h i j l m kn):Option J)
def Z21 N a b c d e f g h i j l kn:=(Z22 N a b c d e f g h i j l (λa b c d m e f g h i j l=>Z23 N a b c d m e f g h i j l kn):Option J)
def Z20 N a b c d e f g h i j l kn:=(Z21 N a b c d e f g h i j l kn:Option J)
def Z29{J:Type}(N:Nat)(a:LI)(b c d e f:Int)(g:LI)(h i j l:Int)(kn:LI->I5 (LI->I4 (Option J))):Option J :=
 kn a b c (ah (d+1)) e f g h i j l
def Z19 N a b c d e f g h i j l kn:=(Z20 N a b c d e f g h i j l (λa b c d e f g h i j l=>Z29 N a b c d e f g h i j l kn):Option J)
def Z17 N a b c d e f g h i j l kn k2:=(Z18 N a b c d e f g h i j l (λa b c d e f g h i j l=>Z19 N a b c d e f g h i j l kn) k2:Option J)
def Z16L{J:Type}(N:Nat)(k2:LI->I4 (LI->I4 (Option J))):Nat->LI->Int->Int->Int->Int->Int->LI->Int->Int->Int->Int->Option J
 |0,_,_,_,_,_,_,_,_,_,_,_=>none
 |M+1,a,b,c,d,e,f,g,h,i,j,l=>Z17 N a b c d e f g h i j l (λa b c d e f g h i j l=>Z16L N k2 M a b c d e f g h i j l) k2
def Z16 N a b c d e f g h i j l k2:=(Z16L N k2 N a b c d e f g h i j l:Option J)
def Z15 N a b c d e f g h i j l kn:=(Z16 N a b c d e f g h i j l kn:Option J)
def Z13 N a b c d e f g h i j kn:=(Z14 N a b c d e f g h i j (λa b c l d e f g h i j=>Z15 N a b c l d e f g h i j kn):Option J)
def Z12 N a b c d e f g h i j kn:=(Z13 N a b c d e f g h i j kn:Option J)
def Z30{J:Type}(N:Nat)(a:LI)(b c d e:Int)(f:LI)(g h i j:Int)(kn:LI->I4 (LI->I4 (Option J))):Option J :=
 kn a b (ah (c+1)) d e f g h i j
def Z11 N a b c d e f g h i j kn:=(Z12 N a b c d e f g h i j (λa b c d e f g h i j=>Z30 N a b c d e f g h i j kn):Option J)
def Z9 N a b c d e f g h i j kn k0:=(Z10 N a b c d e f g h i j (λa b c d e f g h i j=>Z11 N a b c d e f g h i j kn) k0:Option J)
def Z8L{J:Type}(N:Nat)(k0:LI->I4 (Option J)):Nat->LI->Int->Int->Int->Int->LI->Int->Int->Int->Int->Option J
 |0,_,_,_,_,_,_,_,_,_,_=>none
 |M+1,a,b,c,d,e,f,g,h,i,j=>Z9 N a b c d e f g h i j (λa b c d e f g h i j=>Z8L N k0 M a b c d e f g h i j) k0
def Z8 N a b c d e f g h i j k0:=(Z8L N k0 N a b c d e f g h i j:Option J)
def Z7 N a b c d e f g h i j kn:=(Z8 N a b c d e f g h i j kn:Option J)
def Z5 N a b c d e f g h i kn:=(Z6 N a b c d e f g h i (λa b j c d e f g h i=>Z7 N a b j c d e f g h i kn):Option J)
def Z31{J:Type}(N:Nat)(a:LI)(d e b c:Int)(kr:LI->I2 (Option J)):Option J :=
 kr a b c
def Z4 N a f g h i b c d e kr:=(Z5 N a f g h i b c d e (λa b c d e=>Z31 N a b c d e kr):Option J)
def Z2 N a b c d e f kr:=(Z3 N a b c d e f (λg a b c d e f h i=>Z4 N g a b c d e f h i kr):Option J)
def Z0 N b a kr:=(Z1 N b a (λa c d e f g=>Z2 N a c d e f g kr):Option J)
def Spec:Prop:=∀ (v0:MT) (v1:Int),Ty.bd (.pair (.int .i64) (.pair (.int .i64) (.sl 0 (.int .i64)))) v0->P v0 v1=true->∃N0,∀N,N0<=N->Z0 N v0 v1 (λv4_2 v4_0 v4_1=>some ((),((v4_0,(v4_1,v4_2)),())))=some ((),((g v0 v1),()))
section
variable {J : Type} {N : Nat} {m : Int × Int × List Int} {k : Nat}
def at_g(hd:0<=m.1)(a b:Nat):aR.g (m.1,(m.2.1,m.2.2)) (a:Int) (b:Int)=ae m a b:=fF hd a b
def at_p(hd:aY m=true){a b:Nat}(ha:a<m.2.1.toNat)(hb:b<m.1.toNat):aR.P (m.1,(m.2.1,m.2.2)) (a:Int) (b:Int)=true:=fG hd ha hb
def cur(m:Int×Int×List Int)(k p:Nat):List Int:=gk m.2.2.length p (kb m k) (λp=>m.2.2.getD p 0)
def inner(hs:ba m=true)(hk:k<m.1.toNat)(k2:List Int->Int->Int->Int->Int->List Int->Int->Int->Int->Int->Option J)(t0 t1 o0 o1:Int){i:Nat}(hi:i<m.2.1.toNat):∀(M j:Nat),j<=m.1.toNat->m.1.toNat-j<M ->
  Z16L N k2 M (cur m k (i*m.1.toNat+j)) (k:Int) (i:Int) (j:Int) m.1 m.2.1 m.2.2 t0 t1 o0 o1=k2 (cur m k (i*m.1.toNat+m.1.toNat)) (k:Int) (i:Int) m.1 m.2.1 m.2.2 t0 t1 o0 o1:=by
 have hd:=cn hs;obtain⟨n,r,hn,hr,hn1,hn5,hnr,hr8,hl⟩:=aQ hd;intro M;induction M with
 |zero=>intro j _ h;omega
 |succ M ih =>
  intro j hj hM;simp only[Z16L,Z17,Z18];by_cases h:j<m.1.toNat
  ·have hlt:i*m.1.toNat+j<m.2.2.length:=by have:=j9 (n:=n) (r:=r) (i:=i) (j:=j) (by omega) (by omega);rw[hl,hn];exact this
   have hidx:ah (ah ((i:Int)*m.1)+(j:Int))=((i*m.1.toNat+j:Nat):Int):=by
    have e:(i:Int)*m.1=((i*m.1.toNat:Nat):Int):=by rw[hn,Int.natCast_mul];simp
    have hb:i*m.1.toNat<=8*5:=Nat.mul_le_mul (by omega) (by omega);have e2:ah (((i*m.1.toNat:Nat):Int))=((i*m.1.toNat:Nat):Int):=bh (by omega) (by omega);rw[e,e2,bh (by omega) (by omega)];omega
   have b1:=eZ hs i j;have b2:=eZ hs i k;have b3:=eZ hs k j;have hbc:=EC (f:=false) b1 b2 b3;have hF:=zz (m:=m) (k:=k) (i:=i) h;have hcl:(cur m k (i*m.1.toNat+j)).length=m.2.2.length:=rO;have hset:∀v,v=kb m k (i*m.1.toNat+j)->(cur m k (i*m.1.toNat+j)).set (i*m.1.toNat+j) v=cur m k (i*m.1.toNat+(j+1)):=λv hv=>by subst hv;exact Ea hlt
   have hsame:kb m k (i*m.1.toNat+j)=ae m i j->cur m k (i*m.1.toNat+j)=cur m k (i*m.1.toNat+(j+1)):=λhv=>(ED hv).symm;have iB:ax (((i*m.1.toNat+j:Nat):Int)) (cur m k (i*m.1.toNat+j)).length=true:=aG (by rw[hcl];exact hlt);have pij:=at_p hd hi h;rw[ct (dt (by omega))];simp only[Z19,Z20,Z21,Z22,Z23,Z24,Z25];rw[ct (at_p hd hi hk),ct (at_p hd (show k<m.2.1.toNat by omega) h),at_g (by omega),at_g (by omega)];have fin:∀c,c=cur m k (i*m.1.toNat+(j+1))->Z29 N c (k:Int) (i:Int) (j:Int) m.1 m.2.1 m.2.2 t0 t1 o0 o1 (λout5_2 k1 i6 j7 m2_0 m2_1 m2_2 t4_0 t4_1 out5_0 out5_1=>Z16L N k2 M out5_2 k1 i6 j7 m2_0 m2_1 m2_2 t4_0 t4_1 out5_0 out5_1)=k2 (cur m k (i*m.1.toNat+m.1.toNat)) (k:Int) (i:Int) m.1 m.2.1 m.2.2 t0 t1 o0 o1:=by intro c hc;subst hc;simp only[Z29];rw[aN (by rw[aS];omega)];exact ih (j+1) h (by omega)
   simp only[Z26,Z27,Z28,hidx,Int.toNat_natCast,at_g (show 0<=m.1 by omega)];by_cases hik:i=k;·rw[ct (dt (by omega)),dZ rfl,ct pij,ct iB,bh (by omega) (by omega)];refine fin _ (hset _ ?_);rw[hF,dt hik,Int.zero_sub];rfl
   ·rw[cf (df (by omega))];by_cases hjk:j=k;·rw[dZ (by rw[aL];exact dt (by omega)),ct pij,ct iB,bh (by omega) (by omega)];refine fin _ (hset _ ?_);rw[hF,df hik,dt hjk,Int.zero_sub];rfl
    ·rw[eY (by rw[aL];exact df (by omega))];rw[df hik,df hjk]at hF;simp only[d7,Bool.or_self,Bool.false_eq_true,if_false]at hF;have wbc:ah (ae m i k*ae m k j)=ae m i k*ae m k j:=bh (by omega) (by omega);rw[wbc];by_cases a1:0<ae m i k
     ·rw[ct (dt a1)];by_cases a2:0<ae m k j;·rw[ct (dt a2),ct pij,ct iB,bh (by omega) (by omega)];refine fin _ (hset _ ?_);rw[hF,if_pos ⟨a1,a2⟩]
      ·rw[cf (df a2),cf (df (by omega))];refine fin _ (hsame ?_);rw[hF,if_neg (by omega),if_neg (by omega)]
     ·rw[cf (df a1)];by_cases a2:ae m i k<0
      ·rw[ct (dt a2)];by_cases a3:ae m k j<0;·rw[ct (dt a3),ct pij,ct iB,bh (by omega) (by omega)];refine fin _ (hset _ ?_);rw[hF,if_neg (by omega),if_pos ⟨a2,a3⟩]
       ·rw[cf (df a3)];refine fin _ (hsame ?_);rw[hF,if_neg (by omega),if_neg (by omega)]
      ·rw[cf (df a2)];refine fin _ (hsame ?_);rw[hF,if_neg (by omega),if_neg (by omega)]
  ·rw[cf (df (by omega)),show j=m.1.toNat by omega]
def outer(hN:10<=N)(hs:ba m=true)(hk:k<m.1.toNat)(k0:List Int->Int->Int->Int->Int->Option J)(t0 t1 o0 o1:Int):∀(M i:Nat),i<=m.2.1.toNat->m.2.1.toNat-i<M ->
  Z8L N k0 M (cur m k (i*m.1.toNat)) (k:Int) (i:Int) m.1 m.2.1 m.2.2 t0 t1 o0 o1=k0 (cur m k (m.2.1.toNat*m.1.toNat)) t0 t1 o0 o1:=by
 have hd:=cn hs;obtain⟨n,r,hn,hr,hn1,hn5,hnr,hr8,hl⟩:=aQ hd;intro M;induction M with
 |zero=>intro i _ h;omega
 |succ M ih =>
  intro i hi hM;simp only[Z8L,Z9,Z10];by_cases h:i<m.2.1.toNat;·rw[ct (dt (by omega))];simp only[Z11,Z12,Z13,Z14,Z15,Z16];have hin:=inner (J:=J) (N:=N) hs hk (λout5_2 k1 i6 m2_0 m2_1 m2_2 t4_0 t4_1 out5_0 out5_1=>Z30 N out5_2 k1 i6 m2_0 m2_1 m2_2 t4_0 t4_1 out5_0 out5_1 (λout5_2 k1 i6 m2_0 m2_1 m2_2 t4_0 t4_1 out5_0 out5_1=>Z8L N k0 M out5_2 k1 i6 m2_0 m2_1 m2_2 t4_0 t4_1 out5_0 out5_1)) t0 t1 o0 o1 h N 0 (by omega) (by omega);rw[show((0:Nat):Int)=0 from rfl,Nat.add_zero]at hin;rw[hin];simp only[Z30];rw[aN (by rw[aS];omega)];have:=ih (i+1) h (by omega);rw[Nat.add_mul,Nat.one_mul]at this;exact this
  ·rw[cf (df (by omega)),show i=m.2.1.toNat by omega]
end
def ok:Spec:=λm k hb hp=>⟨10,λN hN=>by
 simp only[P,Bool.and_eq_true,decide_eq_true_eq]at hp;obtain⟨hs,h0,h1⟩:=hp;obtain⟨x,rfl⟩:=Int.eq_ofNat_of_zero_le h0;have hd:=cn hs;obtain⟨n,r,hn,hr,hn1,hn5,hnr,hr8,hl⟩:=aQ hd;have hlen:m.2.2.length<=8*5:=by rw[hl];exact Nat.mul_le_mul hr8 hn5
 simp only[Z0,Z1,Z2,Z3];rw[ct (show d9.P (m.1,(m.2.1,m.2.2))=true from dt (show m.2.2.length<1099511627776 by omega))];simp only[Z4,Z5,Z6,Z7,Z8];have hstart:cur m x 0=m.2.2:=by unfold cur;rw[Eb];exact rQ 0 rfl
 have hend:cur m x (m.2.1.toNat*m.1.toNat)=(bB m x).2.2:=by
  have e:m.2.1.toNat*m.1.toNat=m.2.2.length:=by rw[hl,hn,hr];simp
  rw[e];exact Ec
 have:=outer (J:=Unit×(Int×Int×List Int)×Unit) hN hs (show x<m.1.toNat by omega) (λout5_2 t4_0 t4_1 out5_0 out5_1=>Z31 N out5_2 t4_0 t4_1 out5_0 out5_1 (λt4_2 t4_0 t4_1=>some ((),((t4_0,(t4_1,t4_2)),())))) 0 0 m.1 m.2.1 N 0 (by omega) (by omega);rw[Nat.zero_mul,hstart,hend]at this;exact this⟩
end bR
namespace fq
def g(a b:List Int):Bool:=decide (a=b)
def Z1{J:Type}(N:Nat)(a b:LI)(kn:LI->LI->Option J):Option J :=
 kn a b
def Z3{J:Type}(N:Nat)(a b:LI)(kn:LI->LI->Option J)(kr:Bool->Option J):Option J :=
 cond (lk N (!(decide ((a.length:Int)=(b.length:Int)))))
 (
  kr false)
 (
  kn a b)
def Z6{J:Type}(N:Nat)(a b:LI)(kn:LI->LI->Int->Option J):Option J :=
 kn a b 0
def Z9{J:Type}(N:Nat)(b c:LI)(a:Int)(kn:LI->LI->Int->Option J)(k0:Option J)(kr:Bool->Option J):Option J :=
 cond (lk N (decide (a<(b.length:Int))))
 (
  cond (lk N (ax a b.length)) (
   cond (lk N (ax a c.length)) (
    cond (lk N (!(decide ((b.getD a.toNat 0)=(c.getD a.toNat 0)))))
    (
     kr false)
    (
     kn b c (ah (a+1)))) none) none)
 (
  k0)
def Z8L{J:Type}(N:Nat)(k0:Option J)(kr:Bool->Option J):Nat->LI->LI->Int->Option J
 |0,_,_,_=>none
 |M+1,a,b,c=>Z9 N a b c (λa b c=>Z8L N k0 kr M a b c) k0 kr
def Z8 N a b c k0 kr:=(Z8L N k0 kr N a b c:Option J)
def Z7 N a b c kn kr:=(Z8 N a b c kn kr:Option J)
def Z5 N a b kn kr:=(Z6 N a b (λa b c=>Z7 N a b c kn kr):Option J)
def Z10{J:Type}(N:Nat) (kr:Bool->Option J):Option J :=
 kr true
def Z4 N a b kr:=(Z5 N a b (Z10 N kr) kr:Option J)
def Z2 N a b kr:=(Z3 N a b (λa b=>Z4 N a b kr) kr:Option J)
def Z0 N a b kr:=(Z1 N a b (λa b=>Z2 N a b kr):Option J)
def Spec:Prop:=∀ (v0 v1:LI),Ty.bd (.sl 0 (.int .i64)) v0->Ty.bd (.sl 0 (.int .i64)) v1->∃N0,∀N,N0<=N->Z0 N v0 v1 (λv4=>some ((),(v4,())))=some ((),((g v0 v1),()))
def loop{J:Type}(N:Nat)(k0:Option J)(kr:Bool->Option J)(a b:List Int)(hl:a.length=b.length)(ha:a.length<=maxLen):∀(M j:Nat),j<=a.length->a.length-j<M ->
  Z8L N k0 kr M a b (j:Int)=if a.drop j=b.drop j then k0 else kr false:=by
 intro M;induction M with
 |zero=>intro j _ h;omega
 |succ M ih =>
  intro j hj hM;simp only[Z8L,Z9];by_cases h:j<a.length
  ·rw[ct (dt (by omega)),ct (aG h),ct (aG (by omega)),Int.toNat_natCast,aN (by omega),ih (j+1) h (by omega),cK 0 h,cK (l:=b) (j:=j) 0 (by omega)];by_cases e:a.getD j 0=b.getD j 0;·rw[cf (nf e),e];simp only[List.cons.injEq,true_and]
   ·rw[ct (nt e),if_neg (by simp only[List.cons.injEq];exact λh=>e h.1)]
  ·rw[cf (df (by omega)),if_pos (by rw[List.drop_of_length_le (by omega),List.drop_of_length_le (by omega)])]
def ok:Spec:=λa b ha hb=>⟨a.length+1,λN hN=>by
 simp only[Z1,Z3,Z6,Z9,Z8,Z7,Z5,Z10,Z4,Z2,Z0];by_cases hl:a.length=b.length;·rw[cf (nf (by omega))];rw[show(0:Int)=((0:Nat):Int)from rfl,loop _ _ _ a b hl ha.1 N 0 (by omega) (by omega)];by_cases e:a=b<;>simp[e,g]
 ·rw[ct (nt (by omega))];have:a≠b:=λe=>hl (by rw[e]);simp[g,this]⟩
end fq
namespace bG
def P(m:Int×Int×List Int):Bool:=(aT m&&!decide (bj m=[]))&&decide (m.2.1=m.1)
def g(m:Int×Int×List Int):List (Int×Int×List Int)×Bool:=match gY m with
 |some S=>(S,true)
 |none=>([],false)
def Z1{J:Type}(N:Nat)(a:MT)(kn:I2 (LI->Option J)):Option J :=
 kn a.1 a.2.1 a.2.2
def Z3{J:Type}(N:Nat)(a b:Int)(c:LI)(kn:LM->I2 (LI->Option J)):Option J :=
 cond (lk N (cM.P (a,(b,c)))) (
  kn ([(cM.g (a,(b,c)))]:List (MT)) a b c) none
def Z6{J:Type}(N:Nat)(a:LM)(b c:Int)(d:LI)(kn:LM->I3 (LI->Option J)):Option J :=
 kn a 0 b c d
def Z10{J:Type}(N:Nat)(a:LM)(b c d:Int)(e:LI)(kn:LM->I3 (LI->Option J))(k0:LM->Option J):Option J :=
 cond (lk N (decide (b<(a.length:Int))))
 (
  kn a b c d e)
 (
  k0 a)
def Z14{J:Type}(N:Nat)(a:LM)(b c d:Int)(e:LI)(kn:LM->I4 (LI->Option J)):Option J :=
 kn a b 0 c d e
def Z18{J:Type}(N:Nat)(b:LM)(c d a e:Int)(f:LI)(kn:LM->I4 (LI->Option J))(k2:LM->I3 (LI->Option J)):Option J :=
 cond (lk N (decide (d<a)))
 (
  kn b c d a e f)
 (
  k2 b c a e f)
def Z22{J:Type}(N:Nat)(a:LM)(b c d e:Int)(f:LI)(kn:LM->LI->I4 (LI->I2 (Option J))):Option J :=
 cond (lk N (ax b a.length)) (
  cond (lk N (bR.P (a.getD b.toNat (0,(0,[]))) c)) (
   kn a (bR.g (a.getD b.toNat (0,(0,[]))) c).2.2 b c d e f (bR.g (a.getD b.toNat (0,(0,[]))) c).1 (bR.g (a.getD b.toNat (0,(0,[]))) c).2.1) none) none
def Z24{J:Type}(N:Nat)(d:LM)(a:LI)(e f h i:Int)(j:LI)(b c:Int)(kn:LM->LI->I4 (LI->I2 (Option J)))(kr:LM->Bool->Option J):Option J :=
 cond (!(lk N ((cp.g (b,(c,a))))))
 (
  kr ([]:List (MT)) false)
 (
  kn d a e f h i j b c)
def Z26{J:Type}(N:Nat)(d:LM)(a:LI)(e f h i:Int)(j:LI)(b c:Int)(kn:LM->LI->I4 (LI->I2 (Option J))):Option J :=
 cond (lk N (cM.P (b,(c,a)))) (
  kn d (cM.g (b,(c,a))).2.2 e f h i j (cM.g (b,(c,a))).1 (cM.g (b,(c,a))).2.1) none
def Z28{J:Type}(N:Nat)(a:LM)(b:LI)(c d e f:Int)(g:LI)(h i:Int)(kn:LM->LI->I2 (Bool->I2 (LI->I2 (Option J)))):Option J :=
 kn a b c d false e f g h i
def Z31{J:Type}(N:Nat)(a:LM)(b:LI)(c d:Int)(e:Bool)(f g:Int)(h:LI)(i j:Int)(kn:LM->LI->I2 (Bool->I3 (LI->I2 (Option J)))):Option J :=
 kn a b c d e 0 f g h i j
def Z34{J:Type}(N:Nat)(a:LM)(c:LI)(d e:Int)(m:Bool)(b f h:Int)(i:LI)(j l:Int)(kn:LM->LI->I2 (Bool->I3 (LI->I2 (Option J))))(k4:LM->LI->I2 (Bool->I2 (LI->I2 (Option J)))):Option J :=
 cond (lk N (decide (b<(a.length:Int))))
 (
  cond (m)
  (
   kn a c d e true (ah (b+1)) f h i j l)
  (
   cond (lk N (ax b a.length)) (
    kn a c d e (lk N ((fq.g (a.getD b.toNat (0,(0,[]))).2.2 c))) (ah (b+1)) f h i j l) none))
 (
  k4 a c d e m f h i j l)
def Z33L{J:Type}(N:Nat)(k4:LM->LI->I2 (Bool->I2 (LI->I2 (Option J)))):Nat->LM->LI->Int->Int->Bool->Int->Int->Int->LI->Int->Int->Option J
 |0,_,_,_,_,_,_,_,_,_,_,_=>none
 |M+1,a,b,c,d,e,f,g,h,i,j,l=>Z34 N a b c d e f g h i j l (λa b c d e f g h i j l=>Z33L N k4 M a b c d e f g h i j l) k4
def Z33 N a b c d e f g h i j l k4:=(Z33L N k4 N a b c d e f g h i j l:Option J)
def Z32 N a b c d e f g h i j l kn:=(Z33 N a b c d e f g h i j l kn:Option J)
def Z30 N a b c d e f g h i j kn:=(Z31 N a b c d e f g h i j (λa b c d e l f g h i j=>Z32 N a b c d e l f g h i j kn):Option J)
def Z35{J:Type}(N:Nat)(a:LM)(b:LI)(e f:Int)(j:Bool)(g h:Int)(i:LI)(c d:Int)(kn:LM->I4 (LI->Option J))(kr:LM->Bool->Option J):Option J :=
 cond (!(j))
 (
  cond (lk N (Nat.blt (a.length+([(c,(d,b))]:List (MT)).length) 1099511627776)) (
   cond (lk N (decide (100<((a++([(c,(d,b))]:List (MT))).length:Int))))
   (
    kr ([]:List (MT)) false)
   (
    kn (a++([(c,(d,b))]:List (MT))) e f g h i)) none)
 (
  cond (lk N (decide (100<(a.length:Int))))
  (
   kr ([]:List (MT)) false)
  (
   kn a e f g h i))
def Z29 N a b c d e f g h i j kn kr:=(Z30 N a b c d e f g h i j (λa b c d e f g h i j=>Z35 N a b c d e f g h i j kn kr):Option J)
def Z27 N a b c d e f g h i kn kr:=(Z28 N a b c d e f g h i (λa b c d j e f g h i=>Z29 N a b c d j e f g h i kn kr):Option J)
def Z25 N a b c d e f g h i kn kr:=(Z26 N a b c d e f g h i (λa b c d e f g h i=>Z27 N a b c d e f g h i kn kr):Option J)
def Z23 N a b c d e f g h i kn kr:=(Z24 N a b c d e f g h i (λa b c d e f g h i=>Z25 N a b c d e f g h i kn kr) kr:Option J)
def Z21 N a b c d e f kn kr:=(Z22 N a b c d e f (λa g b c d e f h i=>Z23 N a g b c d e f h i kn kr):Option J)
def Z20 N a b c d e f kn kr:=(Z21 N a b c d e f kn kr:Option J)
def Z36{J:Type}(N:Nat)(a:LM)(b c d e:Int)(f:LI)(kn:LM->I4 (LI->Option J)):Option J :=
 kn a b (ah (c+1)) d e f
def Z19 N a b c d e f kn kr:=(Z20 N a b c d e f (λa b c d e f=>Z36 N a b c d e f kn) kr:Option J)
def Z17 N a b c d e f kn k2 kr:=(Z18 N a b c d e f (λa b c d e f=>Z19 N a b c d e f kn kr) k2:Option J)
def Z16L{J:Type}(N:Nat)(k2:LM->I3 (LI->Option J))(kr:LM->Bool->Option J):Nat->LM->Int->Int->Int->Int->LI->Option J
 |0,_,_,_,_,_,_=>none
 |M+1,a,b,c,d,e,f=>Z17 N a b c d e f (λa b c d e f=>Z16L N k2 kr M a b c d e f) k2 kr
def Z16 N a b c d e f k2 kr:=(Z16L N k2 kr N a b c d e f:Option J)
def Z15 N a b c d e f kn kr:=(Z16 N a b c d e f kn kr:Option J)
def Z13 N a b c d e kn kr:=(Z14 N a b c d e (λa b f c d e=>Z15 N a b f c d e kn kr):Option J)
def Z12 N a b c d e kn kr:=(Z13 N a b c d e kn kr:Option J)
def Z37{J:Type}(N:Nat)(a:LM)(b c d:Int)(e:LI)(kn:LM->I3 (LI->Option J)):Option J :=
 kn a (ah (b+1)) c d e
def Z11 N a b c d e kn kr:=(Z12 N a b c d e (λa b c d e=>Z37 N a b c d e kn) kr:Option J)
def Z9 N a b c d e kn k0 kr:=(Z10 N a b c d e (λa b c d e=>Z11 N a b c d e kn kr) k0:Option J)
def Z8L{J:Type}(N:Nat)(k0:LM->Option J)(kr:LM->Bool->Option J):Nat->LM->Int->Int->Int->LI->Option J
 |0,_,_,_,_,_=>none
 |M+1,a,b,c,d,e=>Z9 N a b c d e (λa b c d e=>Z8L N k0 kr M a b c d e) k0 kr
def Z8 N a b c d e k0 kr:=(Z8L N k0 kr N a b c d e:Option J)
def Z7 N a b c d e kn kr:=(Z8 N a b c d e kn kr:Option J)
def Z5 N a b c d kn kr:=(Z6 N a b c d (λa e b c d=>Z7 N a e b c d kn kr):Option J)
def Z38{J:Type}(N:Nat)(a:LM)(kr:LM->Bool->Option J):Option J :=
 kr a true
def Z4 N a b c d kr:=(Z5 N a b c d (λa=>Z38 N a kr) kr:Option J)
def Z2 N a b c kr:=(Z3 N a b c (λd a b c=>Z4 N d a b c kr):Option J)
def Z0 N a kr:=(Z1 N a (λb c d=>Z2 N b c d kr):Option J)
def Spec:Prop:=∀ (v0:MT),Ty.bd (.pair (.int .i64) (.pair (.int .i64) (.sl 0 (.int .i64)))) v0->P v0=true->∃N0,∀N,N0<=N->Z0 N v0 (λv2 v3=>some ((),(v2,(v3,()))))=some ((),((g v0).1,((g v0).2,())))
section
variable {J : Type} {N : Nat}
def Qf(k4:List (Int×Int×List Int)->List Int->Int->Int->Bool->Int->Int->List Int->Int->Int->Option J){S:List (Int×Int×List Int)}{d:List Int}{at_ k m0 m1 p0 p1:Int}{m2:List Int}(hS:S.length<=4000) :
  ∀(M i:Nat) (f:Bool),i<=S.length->S.length-i<M->Z33L N k4 M S d at_ k f (i:Int) m0 m1 m2 p0 p1=k4 S d at_ k (f||eM (S.drop i) d) m0 m1 m2 p0 p1:=by
 intro M;induction M with
 |zero=>intro i f _ h;omega
 |succ M ih =>
  intro i f hi hM;simp only[Z33L,Z34];by_cases h:i<S.length
  ·have e:eM (S.drop i) d=(decide ((S.getD i z3).2.2=d)||eM (S.drop (i+1)) d):=by rw[cK z3 h];rfl
   rw[ct (dt (by omega)),aN (by rw[aS];omega),e];cases f;·rw[eY rfl,ct (aG h),Int.toNat_natCast,ih (i+1) _ h (by omega),aL];rfl
   ·rw[dZ rfl,ih (i+1) _ h (by omega)];rfl
  ·rw[cf (df (by omega)),List.drop_of_length_le (by omega)];simp[eM]
variable {m : Int × Int × List Int} {n : Nat} (hn : m.1 = (n : Int)) (hN : 4000 ≤ N)
include hn hN
theorem row{k2:List (Int×Int×List Int)->Int->Int->Int->List Int->Option J}{kr:List (Int×Int×List Int)->Bool->Option J}{a:Nat}{x:Int×Int×List Int}(hx:bI m.1 x) :
  ∀(M r k:Nat) {S:List (Int×Int×List Int)},k+r=n->r<M->dq m.1 S->S.length<=100->a<S.length->S.getD a z3=x ->
   Z16L N k2 kr M S (a:Int) (k:Int) m.1 m.2.1 m.2.2=match eN x k r S with
    |some S'=>k2 S' (a:Int) m.1 m.2.1 m.2.2
    |none=>kr [] false:=by
 intro M;induction M with
 |zero=>intro r k S _ h;omega
 |succ M ih =>
  intro r k S hk hM hS hl ha hxa;simp only[Z16L,Z17,Z18];cases r with
  |zero =>rw[cf (df (by omega))];rfl
  |succ r =>
   have hs:=hx.shaped;have h0:=hx.2.1;have hb5:=hx.bound;have hP:bR.P x (k:Int)=true:=by simp only[bR.P,hs,Bool.true_and,Bool.and_eq_true,decide_eq_true_eq];omega
   have hg:bR.g x (k:Int)=bB x k:=rfl;rw[ct (dt (by omega))];simp only[Z19,Z20,Z21,Z22];rw[ct (aG ha),Int.toNat_natCast,hxa,ct hP,hg];simp only[Z23,Z24,aL,cp.g];rw[show((bB x k).1,((bB x k).2.1,(bB x k).2.2))=bB x k from rfl];have e1:eN x k (r+1) S=(fg x k S).bind (eN x (k+1) r):=rfl;rw[e1];unfold fg;cases hz:aT (bB x k);·rw[dZ (show(!false)=true from rfl),if_neg (by simp)];rfl
   ·have hf:=hx.mut (k:=k) (by omega) hz;have hcP:cM.P (bB x k)=true:=by simp only[cM.P,Bool.and_eq_true,decide_eq_true_eq];exact⟨hf.dim,hf.2.2.trans hf.2.1.symm⟩
    have hcg:cM.g (bB x k)=cS x k:=rfl;rw[eY (show(!true)=false from rfl),if_pos rfl];simp only[Z25,Z26];rw[show((bB x k).1,((bB x k).2.1,(bB x k).2.2))=bB x k from rfl,ct hcP,hcg];simp only[Z27,Z28,Z29,Z30,Z31,Z32,Z33];refine(Qf _ (by omega) N 0 false (Nat.zero_le _) (by omega)).trans ?_;have e2:(gX S (cS x k))=if eM S (cS x k).2.2=true then S else S++[cS x k]:=rfl
    rw[List.drop_zero,Bool.false_or,e2];have e3:((cS x k).1,((cS x k).2.1,(cS x k).2.2))=cS x k:=rfl;have stp:∀{S':List (Int×Int×List Int)},fg x k S=some S'->Z36 N S' (a:Int) (k:Int) m.1 m.2.1 m.2.2 (λout at5 kx m0 m1 m2=>Z16L N k2 kr M out at5 kx m0 m1 m2)=match eN x (k+1) r S' with
      |some S'=>k2 S' (a:Int) m.1 m.2.1 m.2.2
      |none=>kr [] false:=by
     intro S' h;obtain⟨e,f1,f2,f3⟩:=zD hS hx (by omega) h;simp only[Z36];rw[aN (by rw[aS];omega)];exact ih r (k+1) (by omega) (by omega) f1 f3 (by omega) (by rw[e,zC ha,hxa])
    simp only[Z35,e3];cases hh:eM S (cS x k).2.2
    ·have hb:Nat.blt (S.length+([cS x k]:List (Int×Int×List Int)).length) 1099511627776=true:=Nat.ble_eq_true_of_le (by simp;omega);rw[dZ (show(!false)=true from rfl),ct hb];simp only[Bool.false_eq_true,if_false];by_cases h100:(S++[cS x k]).length<=100;·rw[cf (df (by omega)),if_pos h100];refine(stp (S':=S++[cS x k]) ?_).trans rfl;unfold fg;rw[if_pos hz,e2,hh];simp only[Bool.false_eq_true,if_false];rw[if_pos h100]
     ·rw[ct (dt (by omega)),if_neg h100];rfl
    ·rw[eY (show(!true)=false from rfl),cf (df (by omega))];simp only[if_true];rw[if_pos hl];refine(stp (S':=S) ?_).trans rfl;unfold fg;rw[if_pos hz,e2,hh];simp only[if_true];rw[if_pos hl]
theorem run{k0:List (Int×Int×List Int)->Option J}{kr:List (Int×Int×List Int)->Bool->Option J} :
  ∀(M F a:Nat) {S:List (Int×Int×List Int)},dq m.1 S->S.length<=100->a<=S.length->101-a<M->101-a<F ->
   Z8L N k0 kr M S (a:Int) m.1 m.2.1 m.2.2=match fV n F a S with
    |some S'=>k0 S'
    |none=>kr [] false:=by
 intro M;induction M with
 |zero=>intro F a S _ _ _ h;omega
 |succ M ih =>
  intro F a S hS hl ha hM hF;obtain⟨F,rfl⟩:∃F',F=F'+1:=⟨F-1,by omega⟩;simp only[Z8L,Z9,Z10];have e1:fV n (F+1) a S=if a<S.length then(eN (S.getD a z3) 0 n S).bind (fV n F (a+1))else some S:=rfl
  rw[e1];by_cases h:a<S.length
  ·rw[ct (dt (by omega)),if_pos h];simp only[Z11,Z12,Z13,Z14,Z15,Z16];have hx:=kS hS h;have hb:=hx.bound;refine(row hn hN hx N n 0 (by omega) (by omega) hS hl h rfl).trans ?_;cases hr:eN (S.getD a z3) 0 n S with
   |none=>rfl
   |some S' =>obtain⟨f1,f2,f3,f4⟩:=r7 hx n 0 (by omega) hS hl hr;simp only[Option.bind_some,Z37];rw[aN (by rw[aS];omega)];exact ih F (a+1) f1 f3 (by omega) (by omega) (by omega)
  ·rw[cf (df (by omega)),if_neg h]
end
def Qg{m:Int×Int×List Int}(hp:P m=true):bI m.1 m:=by simp only[P,Bool.and_eq_true,decide_eq_true_eq]at hp;obtain⟨d,hR⟩:=EG (m:=m) (by simpa using hp.1);exact⟨⟨d,hR⟩,rfl,hp.2⟩
def ok:Spec:=λm hb hp=>⟨4000,λN hN=>by
 have hf:=Qg hp;obtain⟨b1,b2,_⟩:=hf.bound;obtain⟨n,hn⟩:=Int.eq_ofNat_of_zero_le (show 0<=m.1 by omega);have hcP:cM.P m=true:=by simp only[cM.P,Bool.and_eq_true,decide_eq_true_eq];exact⟨hf.dim,hf.2.2⟩
 have hcg:cM.g m=cR m:=rfl;simp only[Z0,Z1,Z2,Z3];rw[show(m.1,(m.2.1,m.2.2))=m from rfl,ct hcP,hcg];simp only[Z4,Z5,Z6,Z7,Z8];refine(run (J:=Unit×(List (Int×Int×List Int)×(Bool×Unit))) hn hN N 102 0 (S:=[cR m]) (λx hx=>by rw[List.mem_singleton.1 hx];exact hf.can) (by simp) (Nat.zero_le _) (by omega) (by omega)).trans ?_;have e:gY m=fV n 102 0 [cR m]:=by unfold gY;rw[show m.1.toNat=n by omega]
 unfold g;rw[e];cases fV n 102 0 [cR m]<;>rfl⟩
end bG
namespace bL
def P(l:List (List Int)):Bool:=decide (l.length<=4000)
def g(l:List (List Int)):List (List Int):=lU l
def Z1{J:Type}(N:Nat)(a:LL)(kn:LL->Option J):Option J :=
 kn a
def Z3{J:Type}(N:Nat)(a:LL)(kn:LL->Option J):Option J :=
 cond (lk N (Nat.blt (([]:List (LI)).length+a.length) 1099511627776)) (
  kn (([]:List (LI))++a)) none
def Z6{J:Type}(N:Nat)(a:LL)(kn:LL->Int->Option J):Option J :=
 kn a 1
def Z10{J:Type}(N:Nat)(a:LL)(b:Int)(kn:LL->Int->Option J)(k0:LL->Option J):Option J :=
 cond (lk N (decide (b<(a.length:Int))))
 (
  kn a b)
 (
  k0 a)
def Z14{J:Type}(N:Nat)(a:LL)(b:Int)(kn:LL->LL->Int->Option J):Option J :=
 kn a ([]:List (LI)) b
def Z17{J:Type}(N:Nat)(a b:LL)(c:Int)(kn:LL->LL->I2 (Option J)):Option J :=
 kn a b c 0
def Z21{J:Type}(N:Nat)(a b:LL)(c d:Int)(kn:LL->LL->I2 (Option J))(k2:LL->Int->Option J):Option J :=
 cond (lk N (decide (d<(a.length:Int))))
 (
  kn a b c d)
 (
  k2 b c)
def Z25{J:Type}(N:Nat)(b c:LL)(d a:Int)(kn:LL->LL->I3 (Option J)):Option J :=
 kn b c d a a
def Z27{J:Type}(N:Nat)(a d:LL)(b c e:Int)(kn:LL->LL->I4 (Option J)):Option J :=
 kn a d b c e (mn (ah (c+b)) (a.length:Int))
def Z29{J:Type}(N:Nat)(b c:LL)(d e f a:Int)(kn:LL->LL->I5 (Option J)):Option J :=
 kn b c d e f a a
def Z31{J:Type}(N:Nat)(a d:LL)(b c e f g:Int)(kn:LL->LL->I6 (Option J)):Option J :=
 kn a d b c e f g (mn (ah (c+(ah (2*b)))) (a.length:Int))
def Z34{J:Type}(N:Nat)(a d:LL)(h i b c e f:Int)(kn:LL->LL->I6 (Option J))(k4:LL->LL->I2 (Option J)):Option J :=
 let x1_:=(
   cond (lk N (ax b a.length)) (
   cond (lk N (Nat.blt (d.length+([(a.getD b.toNat [])]:List (LI)).length) 1099511627776)) (
   kn a (d++([(a.getD b.toNat [])]:List (LI))) h i (ah (b+1)) c e f) none) none)
 let x2_:=(
   cond (lk N (ax c a.length)) (
   cond (lk N (Nat.blt (d.length+([(a.getD c.toNat [])]:List (LI)).length) 1099511627776)) (
   kn a (d++([(a.getD c.toNat [])]:List (LI))) h i b (ah (c+1)) e f) none) none)
 let x0_:=(
   cond (lk N (decide (f<=c)))
   x1_
   (
   cond (lk N (decide (b<e)))
   (
   cond (lk N (ax c a.length)) (
   cond (lk N (ax b a.length)) (
   cond (!(lk N ((eR.g (a.getD c.toNat []) (a.getD b.toNat [])))))
   x1_
   x2_) none) none)
   x2_))
 cond (lk N (decide (b<e)))
 x0_
 (
 cond (lk N (decide (c<f)))
 x0_
 (
 k4 a d h i))
def Z33L{J:Type}(N:Nat)(k4:LL->LL->I2 (Option J)):Nat->LL->LL->Int->Int->Int->Int->Int->Int->Option J
 |0,_,_,_,_,_,_,_,_=>none
 |M+1,a,b,c,d,e,f,g,h=>Z34 N a b c d e f g h (λa b c d e f g h=>Z33L N k4 M a b c d e f g h) k4
def Z33 N a b c d e f g h k4:=(Z33L N k4 N a b c d e f g h:Option J)
def Z32 N a b c d e f g h kn:=(Z33 N a b c d e f g h kn:Option J)
def Z30 N a b c d e f g kn:=(Z31 N a b c d e f g (λa b c d e f g h=>Z32 N a b c d e f g h kn):Option J)
def Z28 N a b c d e f kn:=(Z29 N a b c d e f (λa b c d e f g=>Z30 N a b c d e f g kn):Option J)
def Z26 N a b c d e kn:=(Z27 N a b c d e (λa b c d e f=>Z28 N a b c d e f kn):Option J)
def Z24 N a b c d kn:=(Z25 N a b c d (λa b c d e=>Z26 N a b c d e kn):Option J)
def Z23 N a b c d kn:=(Z24 N a b c d kn:Option J)
def Z35{J:Type}(N:Nat)(b c:LL)(a d:Int)(kn:LL->LL->I2 (Option J)):Option J :=
 kn b c a (ah (d+(ah (2*a))))
def Z22 N a b c d kn:=(Z23 N a b c d (λa b c d=>Z35 N a b c d kn):Option J)
def Z20 N a b c d kn k2:=(Z21 N a b c d (λa b c d=>Z22 N a b c d kn) k2:Option J)
def Z19L{J:Type}(N:Nat)(k2:LL->Int->Option J):Nat->LL->LL->Int->Int->Option J
 |0,_,_,_,_=>none
 |M+1,a,b,c,d=>Z20 N a b c d (λa b c d=>Z19L N k2 M a b c d) k2
def Z19 N a b c d k2:=(Z19L N k2 N a b c d:Option J)
def Z18 N a b c d kn:=(Z19 N a b c d kn:Option J)
def Z16 N a b c kn:=(Z17 N a b c (λa b c d=>Z18 N a b c d kn):Option J)
def Z36{J:Type}(N:Nat)(a:LL)(b:Int)(kn:LL->Int->Option J):Option J :=
 kn a b
def Z15 N c a b kn:=(Z16 N c a b (λa b=>Z36 N a b kn):Option J)
def Z13 N a b kn:=(Z14 N a b (λa c b=>Z15 N a c b kn):Option J)
def Z12 N a b kn:=(Z13 N a b kn:Option J)
def Z37{J:Type}(N:Nat)(a:LL)(b:Int)(kn:LL->Int->Option J):Option J :=
 kn a (ah (b*2))
def Z11 N a b kn:=(Z12 N a b (λa b=>Z37 N a b kn):Option J)
def Z9 N a b kn k0:=(Z10 N a b (λa b=>Z11 N a b kn) k0:Option J)
def Z8L{J:Type}(N:Nat)(k0:LL->Option J):Nat->LL->Int->Option J
 |0,_,_=>none
 |M+1,a,b=>Z9 N a b (λa b=>Z8L N k0 M a b) k0
def Z8 N a b k0:=(Z8L N k0 N a b:Option J)
def Z7 N a b kn:=(Z8 N a b kn:Option J)
def Z5 N a kn:=(Z6 N a (λa b=>Z7 N a b kn):Option J)
def Z38{J:Type}(N:Nat)(a:LL)(kr:LL->Option J):Option J :=
 kr a
def Z4 N a kr:=(Z5 N a (λa=>Z38 N a kr):Option J)
def Z2 N a kr:=(Z3 N a (λb=>Z4 N b kr):Option J)
def Z0 N a kr:=(Z1 N a (λa=>Z2 N a kr):Option J)
def Spec:Prop:=∀(v0:LL),Ty.bd (.sl 0 (.sl 0 (.int .i64))) v0->P v0=true->∃N0,∀N,N0<=N->Z0 N v0 (λv2=>some v2)=some (g v0)
section
variable {J : Type} {N : Nat}
def part{l:List (List Int)}{i m:Nat}(h:i<m)(hm:m<=l.length):(l.drop i).take (m-i)=l.getD i []::(l.drop (i+1)).take (m-(i+1)):=by rw[cK [] (by omega),show m-i=(m-(i+1))+1 by omega,List.take_succ_cons]
def Qh(a b:List Int):(!(eR.g a b))=dB b a:=rfl
def inner(k4:List (List Int)->List (List Int)->Int->Int->Option J){out:List (List Int)}{size at_:Int}{mid en:Nat}(hm:mid<=out.length)(he:en<=out.length)(hl:out.length<=4000) :
  ∀(M i j:Nat) (next:List (List Int)),i<=mid->j<=en->(mid-i)+(en-j)<M->next.length+(mid-i)+(en-j)<=4000 ->
   Z33L N k4 M out next size at_ (i:Int) (j:Int) (mid:Int) (en:Int)=k4 out (next++((out.drop i).take (mid-i)).merge ((out.drop j).take (en-j)) dB) size at_:=by
 intro M;induction M with
 |zero=>intro i j next _ _ h;omega
 |succ M ih =>
  intro i j next hi hj hM hn
  simp only[Z33L,Z34];have hb:∀x:List Int,(mid-i)+(en-j)≠0->Nat.blt (next.length+([x]:List (List Int)).length) 1099511627776=true:=λx _=>Nat.ble_eq_true_of_le (by simp;omega);have wi:i<mid->ah ((i:Int)+1)=((i+1:Nat):Int):=λh=>aN (by rw[aS];omega);have wj:j<en->ah ((j:Int)+1)=((j+1:Nat):Int):=λh=>aN (by rw[aS];omega);by_cases h1:i<mid
  ·rw[ct (dt (by omega)),part h1 hm];have left:∀r,k4 out (next++[out.getD i []]++r) size at_=k4 out (next++(out.getD i []::r)) size at_:=λr=>by rw[List.append_assoc];rfl
   by_cases h2:j<en
   ·rw[cf (df (by omega)),ct (dt (by omega)),ct (aG (by omega)),ct (aG (by omega)),Int.toNat_natCast,Int.toNat_natCast,aL,Qh,part h2 he];cases hle:dB (out.getD i []) (out.getD j []);·rw[eY rfl,ct (aG (by omega)),ct (hb _ (by omega)),wj h2,ih i (j+1) _ hi (by omega) (by omega) (by simp;omega),part h1 hm];simp only[List.cons_merge_cons,hle];simp
    ·rw[dZ rfl,ct (aG (by omega)),ct (hb _ (by omega)),wi h1,ih (i+1) j _ (by omega) hj (by omega) (by simp;omega),part h2 he];simp only[List.cons_merge_cons,hle];simp
   ·have e:j=en:=by omega
    subst e;rw[ct (dt (by omega)),ct (aG (by omega)),Int.toNat_natCast,ct (hb _ (by omega)),wi h1,ih (i+1) j _ (by omega) hj (by omega) (by simp;omega),Nat.sub_self,List.take_zero,List.merge_right,List.merge_right,left]
  ·have e:i=mid:=by omega
   subst e;rw[cf (df (by omega)),Nat.sub_self,List.take_zero,List.nil_merge];by_cases h2:j<en;·rw[ct (dt (by omega)),cf (df (by omega)),cf (df (by omega)),ct (aG (by omega)),Int.toNat_natCast,ct (hb _ (by omega)),wj h2,ih i (j+1) _ (Nat.le_refl _) (by omega) (by omega) (by simp;omega),Nat.sub_self,List.take_zero,List.nil_merge,part h2 he,List.append_assoc];rfl
   ·have e:j=en:=by omega
    subst e;rw[cf (df (by omega)),Nat.sub_self,List.take_zero,List.append_nil]
def Qi(k2:List (List Int)->Int->Option J)(hN:9000<=N){out:List (List Int)}{s:Nat}(hs:0<s)(hs2:s<=4000)(hl:out.length<=4000) :
  ∀(F M a:Nat) (next:List (List Int)),out.length-a<=F->out.length-a<M->next.length+(out.length-a)<=4000->a<=20000 ->
   Z19L N k2 M out next (s:Int) (a:Int)=k2 (next++iZ s F (out.drop a)) (s:Int):=by
 intro F;induction F with
 |zero =>
  intro M a next hF hM hn ha
  obtain⟨M,rfl⟩:∃M',M=M'+1:=⟨M-1,by omega⟩;simp only[Z19L,Z20,Z21];rw[cf (df (by omega)),List.drop_of_length_le (by omega)];simp[iZ]
 |succ F ih =>
  intro M a next hF hM hn ha
  obtain⟨M,rfl⟩:∃M',M=M'+1:=⟨M-1,by omega⟩;simp only[Z19L,Z20,Z21];by_cases h:a<out.length
  ·rw[ct (dt (by omega))];simp only[Z22,Z23,Z24,Z25,Z26,Z27,Z28,Z29,Z30,Z31,Z32,Z33];have w1:ah ((a:Int)+(s:Int))=((a+s:Nat):Int):=by rw[bh (by omega) (by omega)];omega
   have w2:ah (2*(s:Int))=((2*s:Nat):Int):=by rw[bh (by omega) (by omega)];omega
   have w3:ah ((a:Int)+((2*s:Nat):Int))=((a+2*s:Nat):Int):=by rw[bh (by omega) (by omega)];omega
   have m1:mn ((a+s:Nat):Int) (out.length:Int)=((min (a+s) out.length:Nat):Int):=by rw[DT];omega
   have m2:mn ((a+2*s:Nat):Int) (out.length:Int)=((min (a+2*s) out.length:Nat):Int):=by rw[DT];omega
   rw[w1,w2,w3,m1,m2];refine(inner _ (Nat.min_le_right _ _) (Nat.min_le_right _ _) hl N a (min (a+s) out.length) next (by omega) (by omega) (by omega) (by omega)).trans ?_;simp only[Z35,w2,w3];have t1:(out.drop a).take (min (a+s) out.length-a)=(out.drop a).take s:=by rw[List.take_eq_take_iff];simp;omega
   have t2:(out.drop (min (a+s) out.length)).take (min (a+2*s) out.length-min (a+s) out.length)=((out.drop a).drop s).take s:=by
    rw[List.drop_drop];by_cases hq:a+s<=out.length;·rw[Nat.min_eq_left hq,List.take_eq_take_iff];simp;omega
    ·rw[List.drop_of_length_le (by omega),List.drop_of_length_le (by omega)];simp
   rw[t1,t2,ih M (a+2*s) _ (by omega) (by omega) (by rw[List.length_append,EN];simp;omega) (by omega)];have e:iZ s (F+1) (out.drop a)=((out.drop a).take s).merge (((out.drop a).drop s).take s) dB++iZ s F ((out.drop a).drop (2*s)):=by show(if out.drop a=[]then[]else _)=_;rw[if_neg (by intro h0;have:=congrArg List.length h0;simp at this;omega)]
   rw[e,List.append_assoc,show out.drop (a+2*s)=(out.drop a).drop (2*s) by rw[List.drop_drop]]
  ·rw[cf (df (by omega)),List.drop_of_length_le (by omega)];simp[iZ]
def Qj(k0:List (List Int)->Option J)(hN:9000<=N){l:List (List Int)}(hl:l.length<=4000) :
  ∀(M s:Nat) (out:List (List Int)),0<s->s<=8000->l.length-s<M->out.Perm l->pz s out->Z8L N k0 M out (s:Int)=k0 (lU l):=by
 intro M;induction M with
 |zero=>intro s out _ _ h;omega
 |succ M ih =>
  intro s out hs hs2 hM hp hb;have hlen:=hp.length_eq;simp only[Z8L,Z9,Z10];by_cases h:s<out.length
  ·rw[ct (dt (by omega))];simp only[Z11,Z12,Z13,Z14,Z15,Z16,Z17,Z18,Z19];refine(Qi _ hN hs (by omega) (by omega) out.length N 0 [] (by omega) (by omega) (by simp;omega) (by omega)).trans ?_;simp only[Z36,Z37,List.nil_append,List.drop_zero];have w:ah ((s:Int)*2)=((2*s:Nat):Int):=by rw[bh (by omega) (by omega)];omega
   obtain⟨p1,p2⟩:=EO hs out.length out (Nat.le_refl _) hb;rw[w];exact ih (2*s) _ (by omega) (by omega) (by omega) (p1.trans hp) p2
  ·rw[cf (df (by omega)),EM hp (OX hb (by omega))]
end
def ok:Spec:=λl hb hp=>⟨9000,λN hN=>by
 have hl:l.length<=4000:=by simpa[P]using hp
 simp only[Z0,Z1,Z2,Z3,Z4,Z5,Z6,Z7,Z8];have hc:Nat.blt (([]:List (List Int)).length+l.length) 1099511627776=true:=Nat.ble_eq_true_of_le (by simp;omega);rw[ct hc,List.nil_append];refine(Qj _ hN hl N 1 l (by omega) (by omega) (by omega) (List.Perm.refl _) (OW l)).trans ?_;simp only[Z38,g]⟩
end bL
namespace cq
def g(m:Int×Int×List Int):List (Int×Int×List Int)×Bool:=dC m
def Z1{J:Type}(N:Nat)(a:MT)(kn:I2 (LI->Option J)):Option J :=
 kn a.1 a.2.1 a.2.2
def Z3{J:Type}(N:Nat)(a b:Int)(c:LI)(kn:I2 (LI->Option J))(kr:LM->Bool->Option J):Option J :=
 cond (!(lk N ((jQ.g (a,(b,c))))))
 (
  kr ([]:List (MT)) false)
 (
  cond (lk N (!(decide (b=a))))
  (
   kr ([]:List (MT)) false)
  (
   kn a b c))
def Z5{J:Type}(N:Nat)(a b:Int)(c:LI)(kn:LM->Bool->I2 (LI->Option J)):Option J :=
 cond (lk N (bG.P (a,(b,c)))) (
  kn (bG.g (a,(b,c))).1 (lk N ((bG.g (a,(b,c))).2)) a b c) none
def Z7{J:Type}(N:Nat)(a:LM)(b:Bool)(c d:Int)(e:LI)(kn:LM->I2 (LI->Option J))(kr:LM->Bool->Option J):Option J :=
 cond (!(b))
 (
  kr ([]:List (MT)) false)
 (
  kn a c d e)
def Z9{J:Type}(N:Nat)(a:LM)(b c:Int)(d:LI)(kn:LM->LL->I2 (LI->Option J)):Option J :=
 kn a ([]:List (LI)) b c d
def Z12{J:Type}(N:Nat)(a:LM)(b:LL)(c d:Int)(e:LI)(kn:LM->LL->I3 (LI->Option J)):Option J :=
 kn a b 0 c d e
def Z15{J:Type}(N:Nat)(c:LL)(a:LM)(b d e:Int)(f:LI)(kn:LL->LM->I3 (LI->Option J))(k0:LL->I2 (LI->Option J)):Option J :=
 cond (lk N (decide (b<(a.length:Int))))
 (
  cond (lk N (ax b a.length)) (
   cond (lk N (Nat.blt (c.length+([(a.getD b.toNat (0,(0,[]))).2.2]:List (LI)).length) 1099511627776)) (
    kn (c++([(a.getD b.toNat (0,(0,[]))).2.2]:List (LI))) a (ah (b+1)) d e f) none) none)
 (
  k0 c d e f)
def Z14L{J:Type}(N:Nat)(k0:LL->I2 (LI->Option J)):Nat->LL->LM->Int->Int->Int->LI->Option J
 |0,_,_,_,_,_,_=>none
 |M+1,a,b,c,d,e,f=>Z15 N a b c d e f (λa b c d e f=>Z14L N k0 M a b c d e f) k0
def Z14 N a b c d e f k0:=(Z14L N k0 N b a c d e f:Option J)
def Z13 N a b c d e f kn:=(Z14 N a b c d e f kn:Option J)
def Z11 N a b c d e kn:=(Z12 N a b c d e (λa b f c d e=>Z13 N a b f c d e kn):Option J)
def Z17{J:Type}(N:Nat)(a:LL)(b c:Int)(d:LI)(kn:LL->I2 (LI->Option J)):Option J :=
 cond (lk N (bL.P a)) (
  kn (bL.g a) b c d) none
def Z19{J:Type}(N:Nat)(a:LL)(b c:Int)(d:LI)(kn:LL->LM->I2 (LI->Option J)):Option J :=
 kn a ([]:List (MT)) b c d
def Z22{J:Type}(N:Nat)(a:LL)(b:LM)(c d:Int)(e:LI)(kn:LL->LM->I3 (LI->Option J)):Option J :=
 kn a b 0 c d e
def Z25{J:Type}(N:Nat)(a:LL)(d:LM)(b c e:Int)(f:LI)(kn:LL->LM->I3 (LI->Option J))(k2:LM->Option J):Option J :=
 cond (lk N (decide (b<(a.length:Int))))
 (
  cond (lk N (ax b a.length)) (
   cond (lk N (dM.P (a.getD b.toNat []))) (
    cond (lk N (Nat.blt (d.length+([(c,(c,(dM.g (a.getD b.toNat []))))]:List (MT)).length) 1099511627776)) (
     kn a (d++([(c,(c,(dM.g (a.getD b.toNat []))))]:List (MT))) (ah (b+1)) c e f) none) none) none)
 (
  k2 d)
def Z24L{J:Type}(N:Nat)(k2:LM->Option J):Nat->LL->LM->Int->Int->Int->LI->Option J
 |0,_,_,_,_,_,_=>none
 |M+1,a,b,c,d,e,f=>Z25 N a b c d e f (λa b c d e f=>Z24L N k2 M a b c d e f) k2
def Z24 N a b c d e f k2:=(Z24L N k2 N a b c d e f:Option J)
def Z23 N a b c d e f kn:=(Z24 N a b c d e f kn:Option J)
def Z21 N a b c d e kn:=(Z22 N a b c d e (λa b f c d e=>Z23 N a b f c d e kn):Option J)
def Z26{J:Type}(N:Nat)(a:LM)(kr:LM->Bool->Option J):Option J :=
 kr a true
def Z20 N b a c d e kr:=(Z21 N b a c d e (λa=>Z26 N a kr):Option J)
def Z18 N a b c d kr:=(Z19 N a b c d (λa e b c d=>Z20 N a e b c d kr):Option J)
def Z16 N a b c d kr:=(Z17 N a b c d (λa b c d=>Z18 N a b c d kr):Option J)
def Z10 N e a b c d kr:=(Z11 N e a b c d (λa b c d=>Z16 N a b c d kr):Option J)
def Z8 N a b c d kr:=(Z9 N a b c d (λa e b c d=>Z10 N a e b c d kr):Option J)
def Z6 N a e b c d kr:=(Z7 N a e b c d (λa b c d=>Z8 N a b c d kr) kr:Option J)
def Z4 N a b c kr:=(Z5 N a b c (λd e a b c=>Z6 N d e a b c kr):Option J)
def Z2 N a b c kr:=(Z3 N a b c (λa b c=>Z4 N a b c kr) kr:Option J)
def Z0 N a kr:=(Z1 N a (λb c d=>Z2 N b c d kr):Option J)
def Spec:Prop:=∀ (v0:MT),Ty.bd (.pair (.int .i64) (.pair (.int .i64) (.sl 0 (.int .i64)))) v0->∃N0,∀N,N0<=N->Z0 N v0 (λv2 v3=>some ((),(v2,(v3,()))))=some ((),((g v0).1,((g v0).2,())))
section
variable {J : Type} {N : Nat}
def one(k0:List (List Int)->Int->Int->List Int->Option J){l:List (Int×Int×List Int)}{m0 m1:Int}{m2:List Int}(hl:l.length<=4000) :
  ∀(M i:Nat) (d:List (List Int)),i<=l.length->l.length-i<M->d.length+(l.length-i)<=4000->Z14L N k0 M d l (i:Int) m0 m1 m2=k0 (d++(l.drop i).map (·.2.2)) m0 m1 m2:=by
 intro M;induction M with
 |zero=>intro i d _ h;omega
 |succ M ih =>
  intro i d hi hM hd;simp only[Z14L,Z15];by_cases h:i<l.length;·have hb:∀x:List Int,Nat.blt (d.length+([x]:List (List Int)).length) 1099511627776=true:=λx=>Nat.ble_eq_true_of_le (by simp;omega);rw[ct (dt (by omega)),ct (aG h),ct (hb _),Int.toNat_natCast,aN (by rw[aS];omega),ih (i+1) _ h (by omega) (by simp;omega),cK z3 h,List.map_cons,List.append_assoc];rfl
  ·rw[cf (df (by omega)),List.drop_of_length_le (by omega)];simp
def two(k2:List (Int×Int×List Int)->Option J){d:List (List Int)}{m0 m1:Int}{m2:List Int}(hl:d.length<=4000)(hd:∀x∈d,x.length<=4000) :
  ∀(M i:Nat) (o:List (Int×Int×List Int)),i<=d.length->d.length-i<M->o.length+(d.length-i)<=4000->Z24L N k2 M d o (i:Int) m0 m1 m2=k2 (o++(d.drop i).map λx=>(m0,(m0,x))):=by
 intro M;induction M with
 |zero=>intro i d _ h;omega
 |succ M ih =>
  intro i o hi hM ho;simp only[Z24L,Z25];by_cases h:i<d.length;·have hb:∀x:Int×Int×List Int,Nat.blt (o.length+([x]:List (Int×Int×List Int)).length) 1099511627776=true:=λx=>Nat.ble_eq_true_of_le (by simp;omega);have hP:dM.P (d.getD i [])=true:=dt (by have:=hd _ (aX (l:=d) [] h);omega);rw[ct (dt (by omega)),ct (aG h),Int.toNat_natCast,ct hP,ct (hb _),aN (by rw[aS];omega),ih (i+1) _ h (by omega) (by simp;omega),cK [] h,List.map_cons,List.append_assoc];rfl
  ·rw[cf (df (by omega)),List.drop_of_length_le (by omega)];simp
end
def ok:Spec:=λm hb=>⟨9000,λN hN=>by
 simp only[Z0,Z1,Z2,Z3,aL];have e0:((m.1,(m.2.1,m.2.2)):Int×Int×List Int)=m:=rfl;have e1:jQ.g m=(aT m&&!decide (bj m=[])):=rfl;rw[e0,e1];unfold g dC iz;cases h1:(aT m&&!decide (bj m=[]));·rfl
 by_cases h2:m.2.1=m.1
 ·rw[dt h2];simp only[Bool.not_true,cond_false,Bool.and_self,if_true];have hp:((aT m&&!decide (bj m=[]))&&decide (m.2.1=m.1))=true:=by rw[h1,dt h2];rfl
  have hP:bG.P m=true:=hp;have hg:bG.g m=match gY m with
   |some S=>(S,true)
   |none=>([],false):=rfl
  simp only[Z4,Z5,aL,e0];try rw[ct hP]
  try simp only[hP,cond_true]
  rw[hg];cases hc:gY m with
  |none=>rfl
  |some S =>
   obtain⟨hf,_,hl⟩:=r9 hp hc;have hx:∀x∈S,x.2.2.length<=25:=λx hx=>(hf x hx).len.2;simp only[Z6,Z7,Bool.not_true,cond_false,Z8,Z9,Z10,Z11,Z12,Z13,Z14];refine(one _ (by omega) N 0 [] (Nat.zero_le _) (by omega) (by simp;omega)).trans ?_;simp only[List.drop_zero,List.nil_append,Z16,Z17];have hSP:bL.P (S.map (·.2.2))=true:=dt (by simp;omega)
   have hSg:bL.g (S.map (·.2.2))=lU (S.map (·.2.2)):=rfl
   rw[ct hSP,hSg];simp only[Z18,Z19,Z20,Z21,Z22,Z23,Z24];have hpm:=r8 (S.map (·.2.2))
   have hlen:(lU (S.map (·.2.2))).length=S.length:=by rw[hpm.length_eq];simp
   refine(two _ (by omega) (λx hx'=>?_) N 0 [] (Nat.zero_le _) (by omega) (by simp;omega)).trans ?_;·obtain⟨y,hy,rfl⟩:=List.mem_map.1 (hpm.mem_iff.1 hx');have:=hx y hy;omega
   ·simp only[List.drop_zero,List.nil_append,Z26];rfl
 ·rw[df h2];rfl⟩
end cq
namespace cU
def P(m:Int×Int×List Int)(most:Int):Bool:=ba m&&decide (most=3)
def g(m:Int×Int×List Int)(most:Int):Bool:=sa m
def Z1{J:Type}(N:Nat)(a:MT)(b:Int)(kn:I3 (LI->Option J)):Option J :=
 kn b a.1 a.2.1 a.2.2
def Z4{J:Type}(N:Nat)(a b c:Int)(d:LI)(kn:I4 (LI->Option J)):Option J :=
 kn a 0 b c d
def Z8{J:Type}(N:Nat)(c a b d:Int)(e:LI)(kn:I4 (LI->Option J))(k0:Option J):Option J :=
 cond (lk N (decide (a<b)))
 (
  kn c a b d e)
 (
  k0)
def Z12{J:Type}(N:Nat)(a b c d:Int)(e:LI)(kn:I5 (LI->Option J)):Option J :=
 kn a b 0 c d e
def Z15{J:Type}(N:Nat)(f a b c d:Int)(e:LI)(kn:I5 (LI->Option J))(k2:I4 (LI->Option J))(kr:Bool->Option J):Option J :=
 cond (lk N (decide (b<a)))
 (
  cond (lk N (aR.P (c,(d,e)) a b)) (
   cond (lk N (aR.P (c,(d,e)) b a)) (
    cond (lk N (decide (f<(dP.g (ah ((aR.g (c,(d,e)) a b)*(aR.g (c,(d,e)) b a)))))))
    (
     kr false)
    (
     kn f a (ah (b+1)) c d e)) none) none)
 (
  k2 f a c d e)
def Z14L{J:Type}(N:Nat)(k2:I4 (LI->Option J))(kr:Bool->Option J):Nat->Int->Int->Int->Int->Int->LI->Option J
 |0,_,_,_,_,_,_=>none
 |M+1,a,b,c,d,e,f=>Z15 N a b c d e f (λa b c d e f=>Z14L N k2 kr M a b c d e f) k2 kr
def Z14 N a b c d e f k2 kr:=(Z14L N k2 kr N a b c d e f:Option J)
def Z13 N a b c d e f kn kr:=(Z14 N a b c d e f kn kr:Option J)
def Z11 N a b c d e kn kr:=(Z12 N a b c d e (λa b f c d e=>Z13 N a b f c d e kn kr):Option J)
def Z10 N a b c d e kn kr:=(Z11 N a b c d e kn kr:Option J)
def Z16{J:Type}(N:Nat)(a b c d:Int)(e:LI)(kn:I4 (LI->Option J)):Option J :=
 kn a (ah (b+1)) c d e
def Z9 N a b c d e kn kr:=(Z10 N a b c d e (λa b c d e=>Z16 N a b c d e kn) kr:Option J)
def Z7 N a b c d e kn k0 kr:=(Z8 N a b c d e (λa b c d e=>Z9 N a b c d e kn kr) k0:Option J)
def Z6L{J:Type}(N:Nat)(k0:Option J)(kr:Bool->Option J):Nat->Int->Int->Int->Int->LI->Option J
 |0,_,_,_,_,_=>none
 |M+1,a,b,c,d,e=>Z7 N a b c d e (λa b c d e=>Z6L N k0 kr M a b c d e) k0 kr
def Z6 N a b c d e k0 kr:=(Z6L N k0 kr N a b c d e:Option J)
def Z5 N a b c d e kn kr:=(Z6 N a b c d e kn kr:Option J)
def Z3 N a b c d kn kr:=(Z4 N a b c d (λa e b c d=>Z5 N a e b c d kn kr):Option J)
def Z17{J:Type}(N:Nat) (kr:Bool->Option J):Option J :=
 kr true
def Z2 N a b c d kr:=(Z3 N a b c d (Z17 N kr) kr:Option J)
def Z0 N b a kr:=(Z1 N b a (λa c d e=>Z2 N a c d e kr):Option J)
def Spec:Prop:=∀ (v0:MT) (v1:Int),Ty.bd (.pair (.int .i64) (.pair (.int .i64) (.sl 0 (.int .i64)))) v0->P v0 v1=true->∃N0,∀N,N0<=N->Z0 N v0 v1 (λv4=>some ((),(v4,())))=some ((),((g v0 v1),()))
section
variable {J : Type} {N : Nat} {m : Int × Int × List Int}
def F2(hs:ba m=true)(i j:Nat):-99<=ae m i j/\ae m i j<=99:=by
 unfold ae;rw[List.getD_eq_getElem?_getD];cases hq:m.2.2[i*m.1.toNat+j]? with
 |none=>simp
 |some u=>exact(nI.1 hs).2 u (List.mem_of_getElem? hq)
def mul_b{a b:Int}(h1:-99<=a/\a<=99)(h2:-99<=b/\b<=99):-9801<=a*b/\a*b<=9801:=by
 have:(a*b).natAbs<=99*99:=by rw[Int.natAbs_mul];exact Nat.mul_le_mul (by omega) (by omega)
 omega
def abs_eq{n:Int}(h:-9801<=n/\n<=9801):dP.g n=max n (-n):=by show mx n (ah (0-n))=_;rw[bh (by omega) (by omega),o5];congr 1;omega
def inner(hs:ba m=true){k2:Int->Int->Int->Int->List Int->Option J}{kr:Bool->Option J}{i:Nat}(hi:i<m.1.toNat) :
  ∀(M r j:Nat),j+r=i->r<M->Z14L N k2 kr M 3 (i:Int) (j:Int) m.1 m.2.1 m.2.2=cond ((List.range' j r).all λj=>!decide (3<max (cz m i j) (-(cz m i j)))) (k2 3 (i:Int) m.1 m.2.1 m.2.2) (kr false):=by
 have hd:=cn hs;obtain⟨n,rr,hn,hr',hn1,hn5,hnr,hr8,hl⟩:=aQ hd;intro M;induction M with
 |zero=>intro r j _ h;omega
 |succ M ih =>
  intro r j hj hM;simp only[Z14L,Z15];cases r with
  |zero=>rw[cf (df (by omega))];rfl
  |succ r =>
   have p1:aR.P (m.1,(m.2.1,m.2.2)) (i:Int) (j:Int)=true:=fG hd (by omega) (by omega);have p2:aR.P (m.1,(m.2.1,m.2.2)) (j:Int) (i:Int)=true:=fG hd (by omega) (by omega);have g1:aR.g (m.1,(m.2.1,m.2.2)) (i:Int) (j:Int)=ae m i j:=fF (by omega) i j;have g2:aR.g (m.1,(m.2.1,m.2.2)) (j:Int) (i:Int)=ae m j i:=fF (by omega) j i;have hb:=mul_b (F2 hs i j) (F2 hs j i);have hw:ah (ae m i j*ae m j i)=cz m i j:=bh (by omega) (by omega);have ha:dP.g (cz m i j)=max (cz m i j) (-(cz m i j)):=abs_eq hb;rw[ct (dt (by omega)),ct p1,ct p2,g1,g2,hw,ha,aN (by rw[aS];omega),List.range'_succ,List.all_cons];by_cases h:3<max (cz m i j) (-(cz m i j));·rw[ct (dt h),dt h];rfl
   ·rw[cf (df h),df h,ih r (j+1) (by omega) (by omega)];rfl
def outer(hs:ba m=true)(hN:100<=N){k0:Option J}{kr:Bool->Option J} :
  ∀(M r i:Nat),i+r=m.1.toNat->r<M->Z6L N k0 kr M 3 (i:Int) m.1 m.2.1 m.2.2=cond ((List.range' i r).all λi=>(List.range' 0 i).all λj=>!decide (3<max (cz m i j) (-(cz m i j)))) k0 (kr false):=by
 obtain⟨n,rr,hn,hr',hn1,hn5,hnr,hr8,hl⟩:=aQ (cn hs);intro M;induction M with
 |zero=>intro r i _ h;omega
 |succ M ih =>
  intro r i hi hM;simp only[Z6L,Z7,Z8];cases r with
  |zero=>rw[cf (df (by omega))];rfl
  |succ r =>
   rw[ct (dt (by omega))];simp only[Z9,Z10,Z11,Z12,Z13,Z14];refine(inner hs (by omega) N i 0 (by omega) (by omega)).trans ?_;rw[List.range'_succ,List.all_cons];cases(List.range' 0 i).all λj=>!decide (3<max (cz m i j) (-(cz m i j)));·rfl
   ·simp only[cond_true,Z16,Bool.true_and];rw[aN (by rw[aS];omega)];exact ih r (i+1) (by omega) (by omega)
end
def ok:Spec:=λm most hb hp=>⟨100,λN hN=>by simp only[P,Bool.and_eq_true,decide_eq_true_eq]at hp;obtain⟨hs,rfl⟩:=hp;obtain⟨n,rr,hn,hr',hn1,hn5,hnr,hr8,hl⟩:=aQ (cn hs);simp only[Z0,Z1,Z2,Z3,Z4,Z5,Z6,Z17];refine(outer hs hN N m.1.toNat 0 (by omega) (by omega)).trans ?_;show cond (sa m) _ _=_;unfold g;cases sa m<;>rfl⟩
end cU
namespace eo
def g(m:Int×Int×List Int):List (Int×Int×List Int)×Bool:=c8 m
def Z1{J:Type}(N:Nat)(a:MT)(kn:I2 (LI->Option J)):Option J :=
 kn a.1 a.2.1 a.2.2
def Z3{J:Type}(N:Nat)(a b:Int)(c:LI)(kn:LM->Bool->Option J):Option J :=
 kn (cq.g (kz.g (a,(b,c)))).1 (lk N ((cq.g (kz.g (a,(b,c)))).2))
def Z6{J:Type}(N:Nat)(a:LM)(b:Bool)(kn:LM->Bool->Int->Option J):Option J :=
 kn a b 0
def Z9{J:Type}(N:Nat)(a:LM)(c:Bool)(b:Int)(kn:LM->Bool->Int->Option J)(k0:LM->Bool->Option J):Option J :=
 cond (lk N (decide (b<(a.length:Int))))
 (
  cond (c)
  (
   cond (lk N (ax b a.length)) (
    cond (lk N (cU.P (a.getD b.toNat (0,(0,[]))) 3)) (
     kn a (lk N ((cU.g (a.getD b.toNat (0,(0,[]))) 3))) (ah (b+1))) none) none)
  (
   k0 a c))
 (
  k0 a c)
def Z8L{J:Type}(N:Nat)(k0:LM->Bool->Option J):Nat->LM->Bool->Int->Option J
 |0,_,_,_=>none
 |M+1,a,b,c=>Z9 N a b c (λa b c=>Z8L N k0 M a b c) k0
def Z8 N a b c k0:=(Z8L N k0 N a b c:Option J)
def Z7 N a b c kn:=(Z8 N a b c kn:Option J)
def Z5 N a b kn:=(Z6 N a b (λa b c=>Z7 N a b c kn):Option J)
def Z10{J:Type}(N:Nat)(a:LM)(b:Bool)(kr:LM->Bool->Option J):Option J :=
 cond (!(b))
 (
  kr ([]:List (MT)) false)
 (
  kr a true)
def Z4 N a b kr:=(Z5 N a b (λa b=>Z10 N a b kr):Option J)
def Z2 N a b c kr:=(Z3 N a b c (λd e=>Z4 N d e kr):Option J)
def Z0 N a kr:=(Z1 N a (λb c d=>Z2 N b c d kr):Option J)
def Spec:Prop:=∀ (v0:MT),Ty.bd (.pair (.int .i64) (.pair (.int .i64) (.sl 0 (.int .i64)))) v0->∃N0,∀N,N0<=N->Z0 N v0 (λv2 v3=>some ((),(v2,(v3,()))))=some ((),((g v0).1,((g v0).2,())))
section
variable {J : Type} {N : Nat}
def loop{k0:List (Int×Int×List Int)->Bool->Option J}{n:Int}{l:List (Int×Int×List Int)}(hl:dq n l)(hlen:l.length<=100) :
  ∀(M r i:Nat),i+r=l.length->r<M->Z8L N k0 M l true (i:Int)=k0 l ((l.drop i).all iA):=by
 intro M;induction M with
 |zero=>intro r i _ h;omega
 |succ M ih =>
  intro r i hi hM;simp only[Z8L,Z9];cases r with
  |zero=>rw[cf (df (by omega)),List.drop_of_length_le (by omega)];rfl
  |succ r =>
   have hf:=kS hl (a:=i) (by omega);have hP:cU.P (l.getD i z3) 3=true:=by simp only[cU.P,hf.shaped,Bool.true_and];rfl
   have hg:cU.g (l.getD i z3) 3=iA (l.getD i z3):=O0 hf;rw[ct (dt (by omega)),dZ rfl,ct (aG (by omega)),Int.toNat_natCast,ct hP,aL,hg,aN (by rw[aS];omega),cK z3 (by omega:i<l.length),List.all_cons];cases iA (l.getD i z3);·obtain⟨M,rfl⟩:∃M',M=M'+1:=⟨M-1,by omega⟩;simp only[Z8L,Z9,cond_false,Bool.false_and,aL];cases decide (((i+1:Nat):Int)<(l.length:Int))<;>rfl
   ·rw[Bool.true_and];exact ih r (i+1) (by omega) (by omega)
end
def ok:Spec:=λm hb=>⟨200,λN hN=>by
 simp only[Z0,Z1,Z2,Z3,aL];have e0:((m.1,(m.2.1,m.2.2)):Int×Int×List Int)=m:=rfl;have e1:cq.g (kz.g m)=dC (fh m):=rfl;rw[e0,e1];simp only[Z4,Z5,Z6,Z7,Z8,g];unfold c8;cases h2:(dC (fh m)).2;·obtain⟨N,rfl⟩:∃N',N=N'+1:=⟨N-1,by omega⟩;simp only[Z8L,Z9,cond_false,aL,Z10,Bool.not_false,cond_true,Bool.false_and,Bool.false_eq_true,if_false];cases decide ((0:Int)<((dC (fh m)).1.length:Int))<;>rfl
 ·obtain⟨_,f1,f2,f3⟩:=zH h2;refine(loop f1 f3 N (dC (fh m)).1.length 0 (by omega) (by omega)).trans ?_;simp only[List.drop_zero,Z10,Bool.true_and];cases(dC (fh m)).1.all iA<;>rfl⟩
end eo
namespace cN
def P(m:Int×Int×List Int)(l:List Int):Bool:=aY m&&kc m l
def g(m:Int×Int×List Int)(l:List Int):Int:=((gr (ae m) (l.map Int.toNat):Nat):Int)
def Z1{J:Type}(N:Nat)(a:MT)(b:LI)(kn:LI->I2 (LI->Option J)):Option J :=
 kn b a.1 a.2.1 a.2.2
def Z3{J:Type}(N:Nat)(a:LI)(b c:Int)(d:LI)(kn:LI->I3 (LI->Option J)):Option J :=
 kn a 0 b c d
def Z6{J:Type}(N:Nat)(a:LI)(b c d:Int)(e:LI)(kn:LI->I4 (LI->Option J)):Option J :=
 kn a b 0 c d e
def Z10{J:Type}(N:Nat)(a:LI)(b c d e:Int)(f:LI)(kn:LI->I4 (LI->Option J))(k0:Int->Option J):Option J :=
 cond (lk N (decide (c<(a.length:Int))))
 (
  kn a b c d e f)
 (
  k0 b)
def Z14{J:Type}(N:Nat)(a:LI)(b c d e:Int)(f:LI)(kn:LI->I5 (LI->Option J)):Option J :=
 kn a b c 0 d e f
def Z17{J:Type}(N:Nat)(a:LI)(h b c d e:Int)(f:LI)(kn:LI->I5 (LI->Option J))(k2:LI->I4 (LI->Option J)):Option J :=
 cond (lk N (decide (c<b)))
 (
  cond (lk N (ax b a.length)) (
   cond (lk N (ax c a.length)) (
    cond (lk N (aR.P (d,(e,f)) (a.getD b.toNat 0) (a.getD c.toNat 0))) (
     cond (lk N (!(decide ((aR.g (d,(e,f)) (a.getD b.toNat 0) (a.getD c.toNat 0))=0))))
     (
      kn a (ah (h+1)) b (ah (c+1)) d e f)
     (
      kn a h b (ah (c+1)) d e f)) none) none) none)
 (
  k2 a h b d e f)
def Z16L{J:Type}(N:Nat)(k2:LI->I4 (LI->Option J)):Nat->LI->Int->Int->Int->Int->Int->LI->Option J
 |0,_,_,_,_,_,_,_=>none
 |M+1,a,b,c,d,e,f,g=>Z17 N a b c d e f g (λa b c d e f g=>Z16L N k2 M a b c d e f g) k2
def Z16 N a b c d e f g k2:=(Z16L N k2 N a b c d e f g:Option J)
def Z15 N a b c d e f g kn:=(Z16 N a b c d e f g kn:Option J)
def Z13 N a b c d e f kn:=(Z14 N a b c d e f (λa b c g d e f=>Z15 N a b c g d e f kn):Option J)
def Z12 N a b c d e f kn:=(Z13 N a b c d e f kn:Option J)
def Z18{J:Type}(N:Nat)(a:LI)(b c d e:Int)(f:LI)(kn:LI->I4 (LI->Option J)):Option J :=
 kn a b (ah (c+1)) d e f
def Z11 N a b c d e f kn:=(Z12 N a b c d e f (λa b c d e f=>Z18 N a b c d e f kn):Option J)
def Z9 N a b c d e f kn k0:=(Z10 N a b c d e f (λa b c d e f=>Z11 N a b c d e f kn) k0:Option J)
def Z8L{J:Type}(N:Nat)(k0:Int->Option J):Nat->LI->Int->Int->Int->Int->LI->Option J
 |0,_,_,_,_,_,_=>none
 |M+1,a,b,c,d,e,f=>Z9 N a b c d e f (λa b c d e f=>Z8L N k0 M a b c d e f) k0
def Z8 N a b c d e f k0:=(Z8L N k0 N a b c d e f:Option J)
def Z7 N a b c d e f kn:=(Z8 N a b c d e f kn:Option J)
def Z5 N a b c d e kn:=(Z6 N a b c d e (λa b f c d e=>Z7 N a b f c d e kn):Option J)
def Z19{J:Type}(N:Nat)(a:Int)(kr:Int->Option J):Option J :=
 kr a
def Z4 N b a c d e kr:=(Z5 N b a c d e (λa=>Z19 N a kr):Option J)
def Z2 N a b c d kr:=(Z3 N a b c d (λa e b c d=>Z4 N a e b c d kr):Option J)
def Z0 N b a kr:=(Z1 N b a (λa c d e=>Z2 N a c d e kr):Option J)
def Spec:Prop:=∀ (v0:MT) (v1:LI),Ty.bd (.pair (.int .i64) (.pair (.int .i64) (.sl 0 (.int .i64)))) v0->Ty.bd (.sl 0 (.int .i64)) v1->P v0 v1=true->∃N0,∀N,N0<=N->Z0 N v0 v1 (λv4=>some ((),(v4,())))=some ((),((g v0 v1),()))
section
variable {J : Type} {N : Nat} {m : Int × Int × List Int} {L : List Nat} (hd : aY m = true) (hL : ∀ x ∈ L, x < m.1.toNat) (h5 : L.length ≤ 5)
include hd hL h5
theorem inner(k2:List Int->Int->Int->Int->Int->List Int->Option J){i:Nat}(hi:i<L.length):∀(M r j:Nat) (c:Nat),j+r=i->c<=100+j->r<M ->
  Z16L N k2 M (ak L) (c:Int) (i:Int) (j:Int) m.1 m.2.1 m.2.2=k2 (ak L) ((c+(List.range' j r).countP λj=>!decide (ae m (L.getD i 0) (L.getD j 0)=0):Nat):Int) (i:Int) m.1 m.2.1 m.2.2:=by
 obtain⟨n,rr,hn,hr',hn1,hn5,hnr,hr8,hl⟩:=aQ hd;intro M;induction M with
 |zero=>intro r j c _ _ h;omega
 |succ M ih =>
  intro r j c hj hc hM;simp only[Z16L,Z17];cases r with
  |zero=>rw[cf (df (by omega))];rfl
  |succ r =>
   have a1:=hL _ (aX (l:=L) (j:=i) 0 hi);have a2:=hL _ (aX (l:=L) (j:=j) 0 (by omega));have p1:aR.P (m.1,(m.2.1,m.2.2)) ((L.getD i 0:Nat):Int) ((L.getD j 0:Nat):Int)=true:=fG hd (by omega) a2;have g1:aR.g (m.1,(m.2.1,m.2.2)) ((L.getD i 0:Nat):Int) ((L.getD j 0:Nat):Int)=ae m (L.getD i 0) (L.getD j 0):=fF (by omega) _ _;rw[ct (dt (by omega)),ct (aG (by rw[aU];exact hi)),ct (aG (by rw[aU];omega)),Int.toNat_natCast,Int.toNat_natCast,d6,d6,ct p1,g1,List.range'_succ,List.countP_cons,aN (j:=j) (by rw[aS];omega)];by_cases h:ae m (L.getD i 0) (L.getD j 0)=0;·rw[cf (nf h),if_neg (by rw[decide_eq_true h];decide)];exact ih r (j+1) c (by omega) (by omega) (by omega)
   ·rw[ct (nt h),if_pos (by rw[decide_eq_false h];rfl),aN (by rw[aS];omega),ih r (j+1) (c+1) (by omega) (by omega) (by omega)];congr 2;omega
theorem outer(hN:10<=N)(k0:Int->Option J):∀(M r i:Nat) (c:Nat),i+r=L.length->c<=10*i->r<M ->
  Z8L N k0 M (ak L) (c:Int) (i:Int) m.1 m.2.1 m.2.2=k0 ((c+((List.range' i r).map λi=>(List.range' 0 i).countP λj=>!decide (ae m (L.getD i 0) (L.getD j 0)=0)).sum:Nat):Int):=by
 intro M;induction M with
 |zero=>intro r i c _ _ h;omega
 |succ M ih =>
  intro r i c hi hc hM;simp only[Z8L,Z9,Z10];cases r with
  |zero=>rw[cf (df (by rw[aU];omega))];rfl
  |succ r =>
   rw[ct (dt (by rw[aU];omega))];simp only[Z11,Z12,Z13,Z14,Z15,Z16,Z18];refine(inner hd hL h5 _ (by omega) N i 0 c (by omega) (by omega) (by omega)).trans ?_;have hcp:(List.range' 0 i).countP (λj=>!decide (ae m (L.getD i 0) (L.getD j 0)=0))<=i:=by have:=List.countP_le_length (p:=λj=>!decide (ae m (L.getD i 0) (L.getD j 0)=0)) (l:=List.range' 0 i);simpa using this
   rw[aN (by rw[aS];omega),ih r (i+1) _ (by omega) (by omega) (by omega),List.range'_succ,List.map_cons,List.sum_cons,Nat.add_assoc]
end
def ok:Spec:=λm l hb hl hp=>⟨10,λN hN=>by simp only[P,Bool.and_eq_true]at hp;obtain⟨hd,hp⟩:=hp;obtain⟨L,rfl,hL,h5⟩:=zL hp;simp only[Z1,Z3,Z6,Z10,Z14,Z17,Z16,Z15,Z13,Z12,Z18,Z11,Z9,Z8,Z7,Z5,Z19,Z4,Z2,Z0];refine(outer hd hL h5 hN _ N L.length 0 0 (by omega) (by omega) (by omega)).trans ?_;rw[Nat.zero_add];unfold g gr;rw[fc]⟩
end cN
namespace cO
def g(n:Int):ByteArray:=bW n
def P(n:Int):Bool:=dI n
def Z1{J:Type}(N:Nat)(a:Int)(kn:Int->Option J):Option J :=
 kn a
def Z3{J:Type}(N:Nat)(a:Int)(kn:List Int->Int->Option J):Option J :=
 kn ([]:List Int) a
def Z5{J:Type}(N:Nat)(b:List Int)(a:Int)(kn:List Int->I2 (Option J)):Option J :=
 kn b a a
def Z9{J:Type}(N:Nat)(b:List Int)(c a:Int)(kn:List Int->I2 (Option J))(k0:List Int->Int->Option J):Option J :=
 cond (lk N (!(decide (a=0))))
 (
  cond (lk N (true)) (
   cond (lk N (decide ((Int.tmod a 10)<0)))
   (
    cond (lk N (Nat.blt (b.length+([(w8 ((ah (48+(ah (0-(Int.tmod a 10)))))))]:List Int).length) 1099511627776)) (
     cond (lk N (true)) (
      kn (b++([(w8 ((ah (48+(ah (0-(Int.tmod a 10)))))))]:List Int)) c (ah (Int.tdiv a 10))) none) none)
   (
    cond (lk N (Nat.blt (b.length+([(w8 ((ah (48+(Int.tmod a 10)))))]:List Int).length) 1099511627776)) (
     cond (lk N (true)) (
      kn (b++([(w8 ((ah (48+(Int.tmod a 10)))))]:List Int)) c (ah (Int.tdiv a 10))) none) none)) none)
 (
  cond (lk N (decide ((b.length:Int)=0)))
  (
   cond (lk N (true)) (
    cond (lk N (decide ((Int.tmod a 10)<0)))
    (
     cond (lk N (Nat.blt (b.length+([(w8 ((ah (48+(ah (0-(Int.tmod a 10)))))))]:List Int).length) 1099511627776)) (
      cond (lk N (true)) (
       kn (b++([(w8 ((ah (48+(ah (0-(Int.tmod a 10)))))))]:List Int)) c (ah (Int.tdiv a 10))) none) none)
    (
     cond (lk N (Nat.blt (b.length+([(w8 ((ah (48+(Int.tmod a 10)))))]:List Int).length) 1099511627776)) (
      cond (lk N (true)) (
       kn (b++([(w8 ((ah (48+(Int.tmod a 10)))))]:List Int)) c (ah (Int.tdiv a 10))) none) none)) none)
  (
   k0 b c))
def Z8L{J:Type}(N:Nat)(k0:List Int->Int->Option J):Nat->List Int->Int->Int->Option J
 |0,_,_,_=>none
 |M+1,a,b,c=>Z9 N a b c (λa b c=>Z8L N k0 M a b c) k0
def Z8 N a b c k0:=(Z8L N k0 N a b c:Option J)
def Z7 N a b c kn:=(Z8 N a b c kn:Option J)
def Z11{J:Type}(N:Nat)(a:List Int)(b:Int)(kn:List Int->List Int->Int->Option J):Option J :=
 kn a ([]:List Int) b
def Z13{J:Type}(N:Nat)(b a:List Int)(c:Int)(kn:List Int->List Int->Option J):Option J :=
 cond (lk N (decide (c<0)))
 (
  cond (lk N (Nat.blt (a.length+([45]:List Int).length) 1099511627776)) (
   kn b (a++([45]:List Int))) none)
 (
  kn b a)
def Z16{J:Type}(N:Nat)(a b:List Int)(kn:List Int->List Int->Int->Option J):Option J :=
 kn a b (ah ((a.length:Int)-1))
def Z19{J:Type}(N:Nat)(b c:List Int)(a:Int)(kn:List Int->List Int->Int->Option J)(k2:List Int->Option J):Option J :=
 cond (lk N (decide (0<=a)))
 (
  cond (lk N (ax a b.length)) (
   cond (lk N (Nat.blt (c.length+([(b.getD a.toNat 0)]:List Int).length) 1099511627776)) (
    kn b (c++([(b.getD a.toNat 0)]:List Int)) (ah (a-1))) none) none)
 (
  k2 c)
def Z18L{J:Type}(N:Nat)(k2:List Int->Option J):Nat->List Int->List Int->Int->Option J
 |0,_,_,_=>none
 |M+1,a,b,c=>Z19 N a b c (λa b c=>Z18L N k2 M a b c) k2
def Z18 N a b c k2:=(Z18L N k2 N a b c:Option J)
def Z17 N a b c kn:=(Z18 N a b c kn:Option J)
def Z15 N a b kn:=(Z16 N a b (λa b c=>Z17 N a b c kn):Option J)
def Z20{J:Type}(N:Nat)(a:List Int)(kr:ByteArray->Option J):Option J :=
 kr (strOfNums a)
def Z14 N b a kr:=(Z15 N b a (λa=>Z20 N a kr):Option J)
def Z12 N a b c kr:=(Z13 N a b c (λa b=>Z14 N a b kr):Option J)
def Z10 N a b kr:=(Z11 N a b (λa c b=>Z12 N a c b kr):Option J)
def Z6 N a b c kr:=(Z7 N a b c (λa b=>Z10 N a b kr):Option J)
def Z4 N a b kr:=(Z5 N a b (λa b c=>Z6 N a b c kr):Option J)
def Z2 N a kr:=(Z3 N a (λb a=>Z4 N b a kr):Option J)
def Z0 N a kr:=(Z1 N a (λa=>Z2 N a kr):Option J)
def Spec:Prop:=∀ (v0:Int),P v0=true->∃N0,∀N,N0<=N->Z0 N v0 (λv2=>some ((),(v2,())))=some ((),((g v0),()))
def done{J:Type}{N M:Nat}(k0:List Int->Int->Option J){ds:List Int}(hd:ds≠[])(n:Int):Z8L N k0 (M+1) ds n 0=k0 ds n:=by have hl:ds.length≠0:=λh=>hd (List.length_eq_zero_iff.1 h);simp only[Z8L,Z9];rw[cf (show(!decide True)=false from rfl),cf (df (by omega))]
def loop{J:Type}{N:Nat}(k0:List Int->Int->Option J)(n:Int):∀(c M:Nat) (ds:List Int) (k:Int),k.natAbs<10 ^ c->k.natAbs<9223372036854775809->1<=c->c<M->ds.length+c<=100->(k≠0\/ds=[]) ->
  Z8L N k0 M ds n k=k0 (ds++fW k.natAbs) n:=by
 intro c;induction c with
 |zero=>intro M ds k _ _ h;omega
 |succ c ih =>
  intro M ds k hk hk2 _ hM hd hor;obtain⟨M,rfl⟩:∃m,M=m+1:=⟨M-1,by omega⟩;have hq:ah (Int.tdiv k 10)=Int.tdiv k 10:=by have:=zN k;exact bh (by omega) (by omega)
  have hstep:Z8L N k0 (M+1) ds n k=Z8L N k0 M (ds++[48+((k.natAbs%10:Nat):Int)]) n (Int.tdiv k 10):=by
   have hb:∀x:Int,Nat.blt (ds.length+([x]:List Int).length) 1099511627776=true:=λx=>Nat.ble_eq_true_of_le (by simp;omega);simp only[Z8L,Z9,hq,hb,aL,cond_true];by_cases hk0:k=0;·subst hk0;have hds:ds=[]:=hor.resolve_left (by simp);subst hds;rfl
   ·rw[nt hk0,cond_true];by_cases hneg:Int.tmod k 10<0;·rw[dt hneg,cond_true,Pc hneg]
    ·rw[df hneg,cond_false,Pb hneg]
  rw[hstep];by_cases hsm:k.natAbs<10
  ·have e0:Int.tdiv k 10=0:=by have:=zN k;omega
   obtain⟨M,rfl⟩:∃m,M=m+1:=⟨M-1,by omega⟩;rw[e0,done k0 (by simp) n,EZ hsm,Nat.mod_eq_of_lt hsm]
  ·have hc:1<=c:=by
    rcases Nat.eq_zero_or_pos c with h|h;·subst h;omega
    ·exact h
   have hd2:=zN k;rw[ih M _ (Int.tdiv k 10) (by rw[hd2,Nat.div_lt_iff_lt_mul (by omega),<-Nat.pow_succ];exact hk) (by omega) hc (by omega) (by simp;omega) (.inl (by omega)),hd2,E3 hsm,List.append_assoc];rfl
def back{J:Type}{N:Nat}(k2:List Int->Option J){ds:List Int}(hd:ds.length<=100):∀(j M:Nat) (out:List Int),j<=ds.length->j<M->out.length+j<=1000->Z18L N k2 M ds out ((j:Int)-1)=k2 (out++(ds.take j).reverse):=by
 intro j;induction j with
 |zero =>intro M out _ hM _;obtain⟨M,rfl⟩:∃m,M=m+1:=⟨M-1,by omega⟩;simp only[Z18L,Z19];rw[cf (df (by omega)),List.take_zero,List.reverse_nil,List.append_nil]
 |succ j ih =>
  intro M out hj hM ho;obtain⟨M,rfl⟩:∃m,M=m+1:=⟨M-1,by omega⟩;have e:((j+1:Nat):Int)-1=(j:Int):=by omega
  have hb:∀x:Int,Nat.blt (out.length+([x]:List Int).length) 1099511627776=true:=λx=>Nat.ble_eq_true_of_le (by simp;omega);simp only[Z18L,Z19,e];rw[ct (dt (by omega)),ct (aG hj),ct (hb _),Int.toNat_natCast,bh (by omega) (by omega),ih M _ (by omega) (by omega) (by simp;omega),<-lP 0 hj,List.reverse_append,List.append_assoc];rfl
def Qk{u:Nat}:∀(c:Nat),u<10 ^ c->1<=c->(fW u).length<=c:=by
 intro c;induction c generalizing u with
 |zero=>intro _ h;omega
 |succ c ih =>
  intro h _;by_cases hs:u<10;·rw[EZ hs];simp
  ·rw[E3 hs,List.length_cons];have hc:1<=c:=by
    rcases Nat.eq_zero_or_pos c with h'|h';·subst h';omega
    ·exact h'
   have:=ih (u:=u / 10) (by rw[Nat.div_lt_iff_lt_mul (by omega),<-Nat.pow_succ];exact h) hc;omega
def ok:Spec:=λn hp=>⟨200,λN hN=>by
 simp only[P,dI,Bool.and_eq_true,decide_eq_true_eq]at hp;have h19:n.natAbs<10 ^ 19:=by
  have:(10:Nat) ^ 19=10000000000000000000:=by decide
  omega
 have hlen:=Qk 19 h19 (by omega);simp only[Z0,Z1,Z2,Z3,Z4,Z5,Z6,Z7,Z8];refine(loop _ n 19 N [] n h19 (by omega) (by omega) (by omega) (by simp) (.inr rfl)).trans ?_;rw[List.nil_append];have hl0:fW n.natAbs=(fW n.natAbs).take (fW n.natAbs).length:=by rw[List.take_length]
 have fin:∀out:List Int,out.length<=10->Z18L N (λout6=>some ((),(strOfNums out6,()))) N (fW n.natAbs) out (((fW n.natAbs).length:Int)-1)=some ((),(strOfNums (out++(fW n.natAbs).reverse),())):=λout ho=>by rw[back _ (by omega) _ N out (Nat.le_refl _) (by omega) (by omega),List.take_length]
 simp only[Z10,Z11,Z12,Z13];by_cases hneg:n<0;·rw[ct (dt hneg),ct (show Nat.blt (([]:List Int).length+([45]:List Int).length) 1099511627776=true from rfl)];simp only[Z14,Z15,Z16,Z17,Z18,Z20];rw[bh (by omega) (by omega),fin _ (by simp),g,bW,Lib.itoa,if_pos hneg];have:=O9 n.natAbs;simp only[List.nil_append,List.singleton_append];rw[this]
 ·rw[cf (df hneg)];simp only[Z14,Z15,Z16,Z17,Z18,Z20];rw[bh (by omega) (by omega),fin _ (by simp),g,bW,Lib.itoa,if_neg hneg,List.nil_append,O8,show n.natAbs=n.toNat by omega]⟩
end cO
namespace de
def P(m:Int×Int×List Int)(i:Int):Bool:=aY m&&(decide (0<=i)&&decide (i<m.1))
def g(m:Int×Int×List Int)(i:Int):Int:=((a6 m i.toNat).length:Int)
def Z1{J:Type}(N:Nat)(a:MT)(b:Int)(kn:I3 (LI->Option J)):Option J :=
 kn b a.1 a.2.1 a.2.2
def Z3{J:Type}(N:Nat)(a b c:Int)(d:LI)(kn:I4 (LI->Option J)):Option J :=
 kn a 0 b c d
def Z6{J:Type}(N:Nat)(a b c d:Int)(e:LI)(kn:I5 (LI->Option J)):Option J :=
 kn a b 0 c d e
def Z9{J:Type}(N:Nat)(c f a b d:Int)(e:LI)(kn:I5 (LI->Option J))(k0:Int->Option J):Option J :=
 cond (lk N (decide (a<b)))
 (
  cond (lk N (aR.P (b,(d,e)) c a)) (
   cond (lk N (!(decide ((aR.g (b,(d,e)) c a)=0))))
   (
    kn c (ah (f+1)) (ah (a+1)) b d e)
   (
    kn c f (ah (a+1)) b d e)) none)
 (
  k0 f)
def Z8L{J:Type}(N:Nat)(k0:Int->Option J):Nat->Int->Int->Int->Int->Int->LI->Option J
 |0,_,_,_,_,_,_=>none
 |M+1,a,b,c,d,e,f=>Z9 N a b c d e f (λa b c d e f=>Z8L N k0 M a b c d e f) k0
def Z8 N a b c d e f k0:=(Z8L N k0 N a b c d e f:Option J)
def Z7 N a b c d e f kn:=(Z8 N a b c d e f kn:Option J)
def Z5 N a b c d e kn:=(Z6 N a b c d e (λa b f c d e=>Z7 N a b f c d e kn):Option J)
def Z10{J:Type}(N:Nat)(a:Int)(kr:Int->Option J):Option J :=
 kr a
def Z4 N b a c d e kr:=(Z5 N b a c d e (λa=>Z10 N a kr):Option J)
def Z2 N a b c d kr:=(Z3 N a b c d (λa e b c d=>Z4 N a e b c d kr):Option J)
def Z0 N b a kr:=(Z1 N b a (λa c d e=>Z2 N a c d e kr):Option J)
def Spec:Prop:=∀ (v0:MT) (v1:Int),Ty.bd (.pair (.int .i64) (.pair (.int .i64) (.sl 0 (.int .i64)))) v0->P v0 v1=true->∃N0,∀N,N0<=N->Z0 N v0 v1 (λv4=>some ((),(v4,())))=some ((),((g v0 v1),()))
def loop{J:Type}{N:Nat}{m:Int×Int×List Int}(hd:aY m=true)(k0:Int->Option J){i:Nat}(hi:i<m.1.toNat):∀(M r j:Nat) (c:Nat),j+r=m.1.toNat->c<=j->r<M ->
  Z8L N k0 M (i:Int) (c:Int) (j:Int) m.1 m.2.1 m.2.2=k0 ((c+((List.range' j r).filter λj=>!decide (ae m i j=0)).length:Nat):Int):=by
 obtain⟨n,rr,hn,hr',hn1,hn5,hnr,hr8,hl⟩:=aQ hd;intro M;induction M with
 |zero=>intro r j c _ _ h;omega
 |succ M ih =>
  intro r j c hj hc hM;simp only[Z8L,Z9];cases r with
  |zero=>rw[cf (df (by omega))];rfl
  |succ r =>
   have p1:aR.P (m.1,(m.2.1,m.2.2)) (i:Int) (j:Int)=true:=fG hd (by omega) (by omega);have g1:aR.g (m.1,(m.2.1,m.2.2)) (i:Int) (j:Int)=ae m i j:=fF (by omega) i j;rw[ct (dt (by omega)),ct p1,g1,List.range'_succ,List.filter_cons,aN (j:=j) (by rw[aS];omega)];by_cases h:ae m i j=0;·rw[cf (nf h),if_neg (by simp[h])];exact ih r (j+1) c (by omega) (by omega) (by omega)
   ·rw[ct (nt h),if_pos (by simp[h]),aN (by rw[aS];omega),ih r (j+1) (c+1) (by omega) (by omega) (by omega),List.length_cons];congr 2;omega
def ok:Spec:=λm i hb hp=>⟨10,λN hN=>by simp only[P,Bool.and_eq_true,decide_eq_true_eq]at hp;obtain⟨hd,h0,h1⟩:=hp;obtain⟨x,rfl⟩:=Int.eq_ofNat_of_zero_le h0;obtain⟨n,r,hn,hr,hn1,hn5,hnr,hr8,hl⟩:=aQ hd;simp only[Z1,Z3,Z6,Z9,Z8,Z7,Z5,Z10,Z4,Z2,Z0];refine(loop hd _ (by omega) N m.1.toNat 0 0 (by omega) (by omega) (by omega)).trans ?_;rw[Nat.zero_add,<-List.range_eq_range'];rfl⟩
end de
namespace bC
def P(m:Int×Int×List Int)(l:List Int):Bool:=aT m&&kc m l
def g(m:Int×Int×List Int)(l:List Int):ByteArray:=fj m (l.map Int.toNat)
def Z1{J:Type}(N:Nat)(a:MT)(b:LI)(kn:LI->I2 (LI->Option J)):Option J :=
 kn b a.1 a.2.1 a.2.2
def Z3{J:Type}(N:Nat)(a:LI)(b c:Int)(d:LI)(kn:LI->ByteArray->I2 (LI->Option J)):Option J :=
 cond (lk N (cO.P (a.length:Int))) (
  kn a (cO.g (a.length:Int)) b c d) none
def Z5{J:Type}(N:Nat)(a:LI)(b:ByteArray)(c d:Int)(e:LI)(kn:LI->ByteArray->Bool->I2 (LI->Option J)):Option J :=
 kn a b false c d e
def Z7{J:Type}(N:Nat)(a:LI)(b:ByteArray)(c:Bool)(d e:Int)(f:LI)(kn:LI->ByteArray->Bool->I3 (LI->Option J)):Option J :=
 kn a b c 1 d e f
def Z9{J:Type}(N:Nat)(a:LI)(b:ByteArray)(c:Bool)(d e f:Int)(g:LI)(kn:LI->ByteArray->Bool->Int->ByteArray->I2 (LI->Option J)):Option J :=
 kn a b c d (⟨#[65]⟩:ByteArray) e f g
def Z12{J:Type}(N:Nat)(a:LI)(b:ByteArray)(c:Bool)(d:Int)(e:ByteArray)(f g:Int)(h:LI)(kn:LI->ByteArray->Bool->Int->ByteArray->I3 (LI->Option J)):Option J :=
 kn a b c d e 0 f g h
def Z16{J:Type}(N:Nat)(a:LI)(b:ByteArray)(c:Bool)(d:Int)(e:ByteArray)(f g h:Int)(i:LI)(kn:LI->ByteArray->Bool->Int->ByteArray->I3 (LI->Option J))(k0:LI->ByteArray->Bool->Int->ByteArray->Option J):Option J :=
 cond (lk N (decide (f<(a.length:Int))))
 (
  kn a b c d e f g h i)
 (
  k0 a b c d e)
def Z20{J:Type}(N:Nat)(a:LI)(f:ByteArray)(j:Bool)(h:Int)(i:ByteArray)(b c d:Int)(e:LI)(kn:LI->ByteArray->Bool->Int->ByteArray->I3 (LI->Option J)):Option J :=
 cond (j)
 (
  kn a f true h i b c d e)
 (
  cond (lk N (ax b a.length)) (
   cond (lk N (de.P (c,(d,e)) (a.getD b.toNat 0))) (
    kn a f (lk N (decide ((de.g (c,(d,e)) (a.getD b.toNat 0))=3))) h i b c d e) none) none)
def Z22{J:Type}(N:Nat)(a:LI)(b:ByteArray)(c:Bool)(d:Int)(e:ByteArray)(f g h:Int)(i:LI)(kn:LI->ByteArray->Bool->Int->ByteArray->I4 (LI->Option J)):Option J :=
 kn a b c d e f 0 g h i
def Z26{J:Type}(N:Nat)(a:LI)(b:ByteArray)(c:Bool)(d:Int)(e:ByteArray)(f g h i:Int)(j:LI)(kn:LI->ByteArray->Bool->Int->ByteArray->I4 (LI->Option J))(k2:LI->ByteArray->Bool->Int->ByteArray->I3 (LI->Option J)):Option J :=
 cond (lk N (decide (g<(a.length:Int))))
 (
  kn a b c d e f g h i j)
 (
  k2 a b c d e f h i j)
def Z30{J:Type}(N:Nat)(a:LI)(c:ByteArray)(d:Bool)(e:Int)(f:ByteArray)(b g h i:Int)(j:LI)(kn:LI->ByteArray->Bool->Int->ByteArray->I5 (LI->Option J)):Option J :=
 cond (lk N (ax b a.length)) (
  kn a c d e f b g (a.getD b.toNat 0) h i j) none
def Z32{J:Type}(N:Nat)(a:LI)(c:ByteArray)(d:Bool)(e:Int)(f:ByteArray)(g b h i j:Int)(l:LI)(kn:LI->ByteArray->Bool->Int->ByteArray->I6 (LI->Option J)):Option J :=
 cond (lk N (ax b a.length)) (
  kn a c d e f g b h (a.getD b.toNat 0) i j l) none
def Z34{J:Type}(N:Nat)(f:LI)(h:ByteArray)(i:Bool)(j:Int)(l:ByteArray)(m o a b c d:Int)(e:LI)(kn:LI->ByteArray->Bool->Int->ByteArray->I7 (LI->Option J)):Option J :=
 cond (lk N (aR.P (c,(d,e)) a b)) (
  cond (lk N (aR.P (c,(d,e)) b a)) (
   kn f h i j l m o a b (dP.g (ah ((aR.g (c,(d,e)) a b)*(aR.g (c,(d,e)) b a)))) c d e) none) none
def Z36{J:Type}(N:Nat)(a:LI)(b:ByteArray)(c:Bool)(l:Int)(d:ByteArray)(e f m o g h i:Int)(j:LI)(kn:LI->ByteArray->Bool->ByteArray->I7 (LI->Option J))(k3:LI->ByteArray->Bool->Int->ByteArray->I4 (LI->Option J)):Option J :=
 cond (lk N (decide (g<=1)))
 (
  k3 a b c l d e f h i j)
 (
  kn a b c d e f m o g h i j)
def Z38{J:Type}(N:Nat)(a:LI)(b:ByteArray)(c:Bool)(d:ByteArray)(e f g h i j l:Int)(m:LI)(kn:LI->ByteArray->Bool->Int->ByteArray->I6 (LI->Option J)):Option J :=
 kn a b c i d e f g h j l m
def Z40{J:Type}(N:Nat)(f:LI)(h:ByteArray)(i:Bool)(j:Int)(o:ByteArray)(l m a e b c:Int)(d:LI)(kn:LI->ByteArray->Bool->Int->ByteArray->I6 (LI->Option J)):Option J :=
 cond (lk N (de.P (b,(c,d)) a)) (
  cond (lk N (decide ((de.g (b,(c,d)) a)=1)))
  (
   cond (lk N (aR.P (b,(c,d)) e a)) (
    cond (lk N (decide ((dP.g (aR.g (b,(c,d)) e a))=2)))
    (
     kn f h i j (⟨#[66]⟩:ByteArray) l m a e b c d)
    (
     kn f h i j o l m a e b c d)) none)
  (
   kn f h i j o l m a e b c d)) none
def Z41{J:Type}(N:Nat)(d:LI)(e:ByteArray)(f:Bool)(h:Int)(i:ByteArray)(j l m o a b:Int)(c:LI)(kn:LI->ByteArray->Bool->Int->ByteArray->I4 (LI->Option J)):Option J :=
 cond (lk N (de.P (a,(b,c)) m)) (
  cond (lk N (decide ((de.g (a,(b,c)) m)=1)))
  (
   cond (lk N (aR.P (a,(b,c)) m o)) (
    cond (lk N (decide ((dP.g (aR.g (a,(b,c)) m o))=2)))
    (
     cond (lk N (!(dE i (⟨#[66]⟩:ByteArray))))
     (
      kn d e f h (⟨#[67]⟩:ByteArray) j l a b c)
     (
      kn d e f h i j l a b c))
    (
     kn d e f h i j l a b c)) none)
  (
   kn d e f h i j l a b c)) none
def Z39 N a b c d e f g h i j l m kn:=(Z40 N a b c d e f g h i j l m (λa b c d e f g h i j l m=>Z41 N a b c d e f g h i j l m kn):Option J)
def Z37 N a b c d e f g h m i j l kn:=(Z38 N a b c d e f g h m i j l (λa b c o d e f g h i j l=>Z39 N a b c o d e f g h i j l kn):Option J)
def Z35 N a b c o d e f g h i j l m kn k3:=(Z36 N a b c o d e f g h i j l m (λa b c d e f g h i j l m=>Z37 N a b c d e f g h i j l m kn) k3:Option J)
def Z33 N a b c d e f g h i j l m kn k3:=(Z34 N a b c d e f g h i j l m (λa b c d e f g h i o j l m=>Z35 N a b c d e f g h i o j l m kn k3):Option J)
def Z31 N a b c d e f g h i j l kn k3:=(Z32 N a b c d e f g h i j l (λa b c d e f g h m i j l=>Z33 N a b c d e f g h m i j l kn k3):Option J)
def Z29 N a b c d e f g h i j kn k3:=(Z30 N a b c d e f g h i j (λa b c d e f g l h i j=>Z31 N a b c d e f g l h i j kn k3):Option J)
def Z28 N a b c d e f g h i j kn:=(Z29 N a b c d e f g h i j kn kn:Option J)
def Z42{J:Type}(N:Nat)(a:LI)(b:ByteArray)(c:Bool)(d:Int)(e:ByteArray)(f g h i:Int)(j:LI)(kn:LI->ByteArray->Bool->Int->ByteArray->I4 (LI->Option J)):Option J :=
 kn a b c d e f (ah (g+1)) h i j
def Z27 N a b c d e f g h i j kn:=(Z28 N a b c d e f g h i j (λa b c d e f g h i j=>Z42 N a b c d e f g h i j kn):Option J)
def Z25 N a b c d e f g h i j kn k2:=(Z26 N a b c d e f g h i j (λa b c d e f g h i j=>Z27 N a b c d e f g h i j kn) k2:Option J)
def Z24L{J:Type}(N:Nat)(k2:LI->ByteArray->Bool->Int->ByteArray->I3 (LI->Option J)):Nat->LI->ByteArray->Bool->Int->ByteArray->Int->Int->Int->Int->LI->Option J
 |0,_,_,_,_,_,_,_,_,_,_=>none
 |M+1,a,b,c,d,e,f,g,h,i,j=>Z25 N a b c d e f g h i j (λa b c d e f g h i j=>Z24L N k2 M a b c d e f g h i j) k2
def Z24 N a b c d e f g h i j k2:=(Z24L N k2 N a b c d e f g h i j:Option J)
def Z23 N a b c d e f g h i j kn:=(Z24 N a b c d e f g h i j kn:Option J)
def Z21 N a b c d e f g h i kn:=(Z22 N a b c d e f g h i (λa b c d e f j g h i=>Z23 N a b c d e f j g h i kn):Option J)
def Z19 N a b c d e f g h i kn:=(Z20 N a b c d e f g h i (λa b c d e f g h i=>Z21 N a b c d e f g h i kn):Option J)
def Z18 N a b c d e f g h i kn:=(Z19 N a b c d e f g h i kn:Option J)
def Z43{J:Type}(N:Nat)(a:LI)(b:ByteArray)(c:Bool)(d:Int)(e:ByteArray)(f g h:Int)(i:LI)(kn:LI->ByteArray->Bool->Int->ByteArray->I3 (LI->Option J)):Option J :=
 kn a b c d e (ah (f+1)) g h i
def Z17 N a b c d e f g h i kn:=(Z18 N a b c d e f g h i (λa b c d e f g h i=>Z43 N a b c d e f g h i kn):Option J)
def Z15 N a b c d e f g h i kn k0:=(Z16 N a b c d e f g h i (λa b c d e f g h i=>Z17 N a b c d e f g h i kn) k0:Option J)
def Z14L{J:Type}(N:Nat)(k0:LI->ByteArray->Bool->Int->ByteArray->Option J):Nat->LI->ByteArray->Bool->Int->ByteArray->Int->Int->Int->LI->Option J
 |0,_,_,_,_,_,_,_,_,_=>none
 |M+1,a,b,c,d,e,f,g,h,i=>Z15 N a b c d e f g h i (λa b c d e f g h i=>Z14L N k0 M a b c d e f g h i) k0
def Z14 N a b c d e f g h i k0:=(Z14L N k0 N a b c d e f g h i:Option J)
def Z13 N a b c d e f g h i kn:=(Z14 N a b c d e f g h i kn:Option J)
def Z11 N a b c d e f g h kn:=(Z12 N a b c d e f g h (λa b c d e i f g h=>Z13 N a b c d e i f g h kn):Option J)
def Z44{J:Type}(N:Nat)(d:LI)(a:ByteArray)(e:Bool)(c:Int)(b:ByteArray)(kr:ByteArray->Option J):Option J :=
 cond (e)
 (
  cond (Nat.blt ((⟨#[68]⟩:ByteArray).size+a.size) 4611686018427387904) (
   kr ((⟨#[68]⟩:ByteArray)++a)) none)
 (
  cond (lk N (decide (c=3)))
  (
   cond (Nat.blt ((⟨#[71]⟩:ByteArray).size+a.size) 4611686018427387904) (
    kr ((⟨#[71]⟩:ByteArray)++a)) none)
  (
   cond (lk N (decide (c=2)))
   (
    cond (lk N (decide ((d.length:Int)=2)))
    (
     cond (Nat.blt ((⟨#[66]⟩:ByteArray).size+a.size) 4611686018427387904) (
      kr ((⟨#[66]⟩:ByteArray)++a)) none)
    (
     cond (lk N (decide (c=2)))
     (
      cond (lk N (dE b (⟨#[65]⟩:ByteArray)))
      (
       cond (Nat.blt ((⟨#[70]⟩:ByteArray).size+a.size) 4611686018427387904) (
        kr ((⟨#[70]⟩:ByteArray)++a)) none)
      (
       cond (Nat.blt (b.size+a.size) 4611686018427387904) (
        kr (b++a)) none))
     (
      cond (Nat.blt (b.size+a.size) 4611686018427387904) (
       kr (b++a)) none)))
   (
    cond (lk N (decide (c=2)))
    (
     cond (lk N (dE b (⟨#[65]⟩:ByteArray)))
     (
      cond (Nat.blt ((⟨#[70]⟩:ByteArray).size+a.size) 4611686018427387904) (
       kr ((⟨#[70]⟩:ByteArray)++a)) none)
     (
      cond (Nat.blt (b.size+a.size) 4611686018427387904) (
       kr (b++a)) none))
    (
     cond (Nat.blt (b.size+a.size) 4611686018427387904) (
      kr (b++a)) none))))
def Z10 N a b c d e f g h kr:=(Z11 N a b c d e f g h (λa b c d e=>Z44 N a b c d e kr):Option J)
def Z8 N a b c d e f g kr:=(Z9 N a b c d e f g (λa b c d h e f g=>Z10 N a b c d h e f g kr):Option J)
def Z6 N a b c d e f kr:=(Z7 N a b c d e f (λa b c g d e f=>Z8 N a b c g d e f kr):Option J)
def Z4 N a b c d e kr:=(Z5 N a b c d e (λa b f c d e=>Z6 N a b f c d e kr):Option J)
def Z2 N a b c d kr:=(Z3 N a b c d (λa e b c d=>Z4 N a e b c d kr):Option J)
def Z0 N b a kr:=(Z1 N b a (λa c d e=>Z2 N a c d e kr):Option J)
def Spec:Prop:=∀ (v0:MT) (v1:LI),Ty.bd (.pair (.int .i64) (.pair (.int .i64) (.sl 0 (.int .i64)))) v0->Ty.bd (.sl 0 (.int .i64)) v1->P v0 v1=true->∃N0,∀N,N0<=N->Z0 N v0 v1 (λv4=>some ((),(v4,())))=some ((),((g v0 v1),()))
def mul_b{a b:Int}(h1:-99<=a/\a<=99)(h2:-99<=b/\b<=99):-9801<=a*b/\a*b<=9801:=by
 have:(a*b).natAbs<=99*99:=by rw[Int.natAbs_mul];exact Nat.mul_le_mul (by omega) (by omega)
 omega
def abs_eq{n:Int}(h:-9801<=n/\n<=9801):dP.g n=max n (-n):=by show mx n (ah (0-n))=_;rw[bh (by omega) (by omega),o5];congr 1;omega
section
variable {J : Type} {N : Nat} {m : Int × Int × List Int} {L : List Nat} (hs : aT m = true) (hL : ∀ x ∈ L, x < m.1.toNat) (h5 : L.length ≤ 5)
include hs hL h5
theorem inner(k2:List Int->ByteArray->Bool->Int->ByteArray->Int->Int->Int->List Int->Option J)(nb:ByteArray)(br:Bool){i:Nat}(hi:i<L.length):∀(M r j:Nat) (s:Int×UInt8),j+r=L.length->r<M ->
  Z24L N k2 M (ak L) nb br s.1 (bN s.2) (i:Int) (j:Int) m.1 m.2.1 m.2.2 =
   k2 (ak L) nb br ((L.drop j).foldl (λs f=>jF m s (L.getD i 0) f) s).1 (bN ((L.drop j).foldl (λs f=>jF m s (L.getD i 0) f) s).2) (i:Int) m.1 m.2.1 m.2.2:=by
 have hsh:=cV hs;have hd:=cn hsh;obtain⟨n,rr,hn,hr',hn1,hn5,hnr,hr8,hl⟩:=aQ hd;intro M;induction M with
 |zero=>intro r j s _ h;omega
 |succ M ih =>
  intro r j s hj hM;simp only[Z24L,Z25,Z26];by_cases hjl:j<L.length
  ·rw[ct (dt (by rw[aU];omega))];simp only[Z27,Z28,Z29,Z30,Z31,Z32,Z33,Z34,Z35,Z36,Z37,Z38,Z39,Z40,Z41,Z42];have a1:=hL _ (aX (l:=L) (j:=i) 0 hi);have a2:=hL _ (aX (l:=L) (j:=j) 0 hjl);have p1:aR.P (m.1,(m.2.1,m.2.2)) ((L.getD i 0:Nat):Int) ((L.getD j 0:Nat):Int)=true:=fG hd (by omega) a2;have g1:aR.g (m.1,(m.2.1,m.2.2)) ((L.getD i 0:Nat):Int) ((L.getD j 0:Nat):Int)=ae m (L.getD i 0) (L.getD j 0):=fF (by omega) _ _;have p2:aR.P (m.1,(m.2.1,m.2.2)) ((L.getD j 0:Nat):Int) ((L.getD i 0:Nat):Int)=true:=fG hd (by omega) a1;have g2:aR.g (m.1,(m.2.1,m.2.2)) ((L.getD j 0:Nat):Int) ((L.getD i 0:Nat):Int)=ae m (L.getD j 0) (L.getD i 0):=fF (by omega) _ _;have pd:de.P (m.1,(m.2.1,m.2.2)) ((L.getD i 0:Nat):Int)=true:=by show(aY m&&_)=true;rw[hd,dt (show(0:Int)<=((L.getD i 0:Nat):Int) by omega),dt (show((L.getD i 0:Nat):Int)<m.1 by omega)];rfl
   have gd:de.g (m.1,(m.2.1,m.2.2)) ((L.getD i 0:Nat):Int)=((dg m (L.getD i 0):Nat):Int):=rfl;have b1:=eZ hsh (L.getD i 0) (L.getD j 0);have b2:=eZ hsh (L.getD j 0) (L.getD i 0);have hb:=mul_b b1 b2;have hx:dP.g (ah (ae m (L.getD i 0) (L.getD j 0)*ae m (L.getD j 0) (L.getD i 0)))=wt (ae m) (L.getD i 0) (L.getD j 0):=by rw[bh (by omega) (by omega),abs_eq hb];exact(zP hs a1 a2).1.symm
   have hA1:dP.g (ae m (L.getD i 0) (L.getD j 0))=aI (ae m (L.getD i 0) (L.getD j 0)):=aV.abs_eq b1;have hA2:dP.g (ae m (L.getD j 0) (L.getD i 0))=aI (ae m (L.getD j 0) (L.getD i 0)):=aV.abs_eq b2;have next:∀s':Int×UInt8,Z24L N k2 M (ak L) nb br s'.1 (bN s'.2) (i:Int) ((j+1:Nat):Int) m.1 m.2.1 m.2.2=_:=λs'=>ih (r-1) (j+1) s' (by omega) (by omega)
   rw[cK 0 hjl,List.foldl_cons];simp only[Int.toNat_natCast,d6,aN (j:=j) (by rw[aS];omega),g1,g2,gd,hx,hA1,hA2];rw[ct (aG (by rw[aU];exact hi)),ct (aG (by rw[aU];exact hjl)),ct p1,ct p2];by_cases h1:wt (ae m) (L.getD i 0) (L.getD j 0)<=1;·rw[ct (dt h1)];have:jF m s (L.getD i 0) (L.getD j 0)=s:=if_pos h1;rw[this];exact next s
   ·have e:jF m s (L.getD i 0) (L.getD j 0)=_:=if_neg h1;rw[cf (df h1),ct pd,e];by_cases h2:dg m (L.getD i 0)=1
    ·rw[ct (dt (by omega)),ct p2];by_cases h3:aI (ae m (L.getD j 0) (L.getD i 0))=2
     ·rw[ct (dt h3),ct pd,ct (dt (by omega)),ct p1,if_neg (by rw[if_pos ⟨h2,h3⟩];exact λh=>h.2.2 rfl),if_pos ⟨h2,h3⟩];by_cases h4:aI (ae m (L.getD i 0) (L.getD j 0))=2;·rw[ct (dt h4),cf (show(!dE (bN 66) (bN 66))=false by rw[sf];rfl)];exact next (_,66)
      ·rw[cf (df h4)];exact next (_,66)
     ·rw[cf (df h3),ct pd,ct (dt (by omega)),ct p1,if_neg (c:=dg m (L.getD i 0)=1/\aI (ae m (L.getD j 0) (L.getD i 0))=2) (λh=>h3 h.2)];by_cases h4:aI (ae m (L.getD i 0) (L.getD j 0))=2
      ·rw[ct (dt h4)];by_cases h5:s.2=66;·rw[cf (show(!dE (bN s.2) (bN 66))=false by rw[sf,dt h5];rfl),if_neg (λh=>h.2.2 h5)];exact next (_,s.2)
       ·rw[ct (show(!dE (bN s.2) (bN 66))=true by rw[sf,df h5];rfl),if_pos ⟨h2,h4,h5⟩];exact next (_,67)
      ·rw[cf (df h4),if_neg (λh=>h4 h.2.1)];exact next (_,s.2)
    ·rw[cf (df (by omega)),ct pd,cf (df (by omega)),if_neg (λh=>h2 h.1),if_neg (λh=>h2 h.1)];exact next (_,s.2)
  ·rw[cf (df (by rw[aU];omega)),List.drop_of_length_le (by omega)];rfl
theorem outer(hN:10<=N)(k0:List Int->ByteArray->Bool->Int->ByteArray->Option J)(nb:ByteArray):∀(M r i:Nat) (s:Int×UInt8),i+r=L.length->r<M ->
  Z14L N k0 M (ak L) nb ((L.take i).any λi=>decide (dg m i=3)) s.1 (bN s.2) (i:Int) m.1 m.2.1 m.2.2 =
   k0 (ak L) nb (L.any λi=>decide (dg m i=3)) ((L.drop i).foldl (λs e=>lY m L s e) s).1 (bN ((L.drop i).foldl (λs e=>lY m L s e) s).2):=by
 have hsh:=cV hs;have hd:=cn hsh;obtain⟨n,rr,hn,hr',hn1,hn5,hnr,hr8,hl⟩:=aQ hd;intro M;induction M with
 |zero=>intro r i s _ h;omega
 |succ M ih =>
  intro r i s hi hM;simp only[Z14L,Z15,Z16];by_cases hil:i<L.length
  ·rw[ct (dt (by rw[aU];omega))];simp only[Z17,Z18,Z19,Z20,Z21,Z22,Z23,Z24,Z43];have a1:=hL _ (aX (l:=L) (j:=i) 0 hil);have pd:de.P (m.1,(m.2.1,m.2.2)) ((L.getD i 0:Nat):Int)=true:=by show(aY m&&_)=true;rw[hd,dt (show(0:Int)<=((L.getD i 0:Nat):Int) by omega),dt (show((L.getD i 0:Nat):Int)<m.1 by omega)];rfl
   have gd:de.g (m.1,(m.2.1,m.2.2)) ((L.getD i 0:Nat):Int)=((dg m (L.getD i 0):Nat):Int):=rfl;have key:∀br,(br=(L.take (i+1)).any λi=>decide (dg m i=3)) ->
     Z24L N (λlist1 n5 branch6 heavy7 name8 i9 m2_0 m2_1 m2_2=>Z14L N k0 M list1 n5 branch6 heavy7 name8 (ah (i9+1)) m2_0 m2_1 m2_2) N (ak L) nb br s.1 (bN s.2) (i:Int) 0 m.1 m.2.1 m.2.2 =
      k0 (ak L) nb (L.any λi=>decide (dg m i=3)) ((L.drop i).foldl (λs e=>lY m L s e) s).1 (bN ((L.drop i).foldl (λs e=>lY m L s e) s).2):=by
    intro br hbr;refine(inner hs hL h5 _ nb br hil N L.length 0 s (by omega) (by omega)).trans ?_;rw[cK 0 hil,List.foldl_cons,aN (by rw[aS];omega),hbr];exact ih (r-1) (i+1) (lY m L s (L.getD i 0)) (by omega) (by omega)
   have et:(L.take (i+1)).any (λi=>decide (dg m i=3))=((L.take i).any (λi=>decide (dg m i=3))||decide (dg m (L.getD i 0)=3)):=by rw[<-lP 0 hil,List.any_append,List.any_cons,List.any_nil,Bool.or_false]
   cases hb:(L.take i).any λi=>decide (dg m i=3);·rw[cond_false,ct (aG (by rw[aU];exact hil)),Int.toNat_natCast,d6,ct pd,gd];refine key _ ?_;rw[et,hb,Bool.false_or,aL,decide_eq_decide];omega
   ·rw[cond_true];refine key _ ?_;rw[et,hb];rfl
  ·rw[cf (df (by rw[aU];omega)),List.drop_of_length_le (by omega),List.take_of_length_le (by omega)];rfl
end
def ok:Spec:=λm l hb hl hp=>⟨10,λN hN=>by
 simp only[P,Bool.and_eq_true]at hp;obtain⟨hs,hp⟩:=hp;obtain⟨L,rfl,hL,h5⟩:=zL hp;have hp1:dI ((ak L).length:Int)=true:=by rw[aU];unfold dI;rw[dt (by omega),dt (by omega)];rfl
 have hz:=uY hp1;have hlt:∀c:UInt8,Nat.blt ((bN c).size+(bW ((ak L).length:Int)).size) 4611686018427387904=true:=λc=>Nat.ble_eq_true_of_le (by have:(bN c).size=1:=rfl;omega);simp only[Z1,Z3,Z5,Z7,Z9,Z12,Z16,Z20,Z22,Z26,Z30,Z32,Z34,Z36,Z38,Z40,Z41,Z39,Z37,Z35,Z33,Z31,Z29,Z28,Z42,Z27,Z25,Z24,Z23,Z21,Z19,Z18,Z43,Z17,Z15,Z14,Z13,Z11,Z44,Z10,Z8,Z6,Z4,Z2,Z0];rw[ct (show cO.P _=true from hp1)];refine(outer hs hL h5 hN _ _ N L.length 0 (1,65) (by omega) (by omega)).trans ?_;have ew:g m (ak L)=bN (se m L)++bW ((ak L).length:Int):=by unfold g fj;rw[fc,aU]
 rw[ew];have e0:((L.drop 0).foldl (λs e=>lY m L s e) ((1:Int),(65:UInt8)))=fX m L:=rfl;have fin:∀c:UInt8,cond (Nat.blt ((bN c).size+(bW ((ak L).length:Int)).size) 4611686018427387904) (some ((),(bN c++bW ((ak L).length:Int),()))) none=some ((),(bN c++bW ((ak L).length:Int),())):=λc=>by rw[hlt c];rfl
 rw[e0];unfold se;by_cases h1:(L.any λi=>decide (dg m i=3))=true;·rw[if_pos h1,h1,cond_true];exact fin 68
 ·rw[if_neg h1,Bool.eq_false_iff.2 h1,cond_false];by_cases h2:(fX m L).1=3;·rw[ct (dt h2),if_pos h2];exact fin 71
  ·rw[cf (df h2),if_neg h2];by_cases h3:(fX m L).1=2
   ·rw[ct (dt h3),if_pos h3];by_cases h4:L.length=2;·rw[ct (dt (by rw[aU];omega)),if_pos h4];exact fin 66
    ·rw[cf (df (by rw[aU];omega)),if_neg h4,ct (dt h3)];by_cases h6:(fX m L).2=65;·rw[ct (show dE (bN (fX m L).2) (bN 65)=true by rw[sf,dt h6]),if_pos h6];exact fin 70
     ·rw[cf (show dE (bN (fX m L).2) (bN 65)=false by rw[sf,df h6]),if_neg h6];exact fin _
   ·rw[cf (df h3),if_neg h3,cf (df h3)];exact fin _⟩
end bC
namespace aZ
def g(m:Int×Int×List Int):ByteArray:=if(c8 m).2=true then nN fj (c8 m).1 else ByteArray.empty
def Z1{J:Type}(N:Nat)(a:MT)(kn:I2 (LI->Option J)):Option J :=
 kn a.1 a.2.1 a.2.2
def Z3{J:Type}(N:Nat)(a b:Int)(c:LI)(kn:LM->Bool->I2 (LI->Option J)):Option J :=
 kn (eo.g (a,(b,c))).1 (lk N ((eo.g (a,(b,c))).2)) a b c
def Z5{J:Type}(N:Nat)(a:LM)(b:Bool)(c d:Int)(e:LI)(kn:LM->I2 (LI->Option J))(kr:ByteArray->Option J):Option J :=
 cond (!(b))
 (
  kr ByteArray.empty)
 (
  kn a c d e)
def Z8{J:Type}(N:Nat)(a:LM)(b c:Int)(d:LI)(kn:LM->I3 (LI->Option J)):Option J :=
 kn a 0 b c d
def Z12{J:Type}(N:Nat)(a:LM)(b c d:Int)(e:LI)(kn:LM->I3 (LI->Option J))(k0:Option J):Option J :=
 cond (lk N (decide (b<(a.length:Int))))
 (
  kn a b c d e)
 (
  k0)
def Z16{J:Type}(N:Nat)(a:LM)(b c d:Int)(e:LI)(kn:LM->List ByteArray->I3 (LI->Option J)):Option J :=
 kn a ([]:List ByteArray) b c d e
def Z18{J:Type}(N:Nat)(a:LM)(b:List ByteArray)(c d e:Int)(f:LI)(kn:LM->List ByteArray->LI->I3 (LI->Option J)):Option J :=
 kn a b ([]:List Int) c d e f
def Z20{J:Type}(N:Nat)(a:LM)(b:List ByteArray)(c:LI)(d e f:Int)(g:LI)(kn:LM->List ByteArray->LI->Int->Bool->I2 (LI->Option J)):Option J :=
 kn a b c d true e f g
def Z23{J:Type}(N:Nat)(a:LM)(b:List ByteArray)(c:LI)(d:Int)(e:Bool)(f g:Int)(h:LI)(kn:LM->List ByteArray->LI->Int->Bool->I3 (LI->Option J)):Option J :=
 kn a b c d e 0 f g h
def Z27{J:Type}(N:Nat)(b:LM)(c:List ByteArray)(i:LI)(d:Int)(e:Bool)(f a g:Int)(h:LI)(kn:LM->List ByteArray->LI->Int->Bool->I3 (LI->Option J))(k2:LM->List ByteArray->Int->Bool->I2 (LI->Option J)):Option J :=
 cond (lk N (decide (f<a)))
 (
  kn b c i d e f a g h)
 (
  k2 b c d e a g h)
def Z31{J:Type}(N:Nat)(c:LM)(d:List ByteArray)(a:LI)(e:Int)(f:Bool)(b h i:Int)(j:LI)(kn k3:LM->List ByteArray->LI->Int->Bool->I3 (LI->Option J)):Option J :=
 cond (lk N ((dv.g a b)))
 (
  k3 c d a e f b h i j)
 (
  kn c d a e f b h i j)
def Z33{J:Type}(N:Nat)(a:LM)(d:List ByteArray)(e:LI)(b:Int)(f:Bool)(c h i:Int)(j:LI)(kn:LM->List ByteArray->LI->LI->Int->Bool->I3 (LI->Option J)):Option J :=
 cond (lk N (ax b a.length)) (
  cond (lk N (cg.P (a.getD b.toNat (0,(0,[]))) c)) (
   kn a d e (cg.g (a.getD b.toNat (0,(0,[]))) c).1 b f c h i j) none) none
def Z35{J:Type}(N:Nat)(c:LM)(d:List ByteArray)(b a:LI)(e:Int)(f:Bool)(g h i:Int)(j:LI)(kn:LM->List ByteArray->LI->LI->Int->Bool->I3 (LI->Option J)):Option J :=
 cond (lk N (Nat.blt (b.length+a.length) 1099511627776)) (
  kn c d (b++a) a e f g h i j) none
def Z37{J:Type}(N:Nat)(a:LM)(d:List ByteArray)(e b:LI)(c:Int)(l:Bool)(f h i:Int)(j:LI)(kn:LM->List ByteArray->LI->LI->Int->Bool->I3 (LI->Option J)):Option J :=
 cond (l)
 (
  cond (lk N (ax c a.length)) (
   cond (lk N (cN.P (a.getD c.toNat (0,(0,[]))) b)) (
    kn a d e b c (lk N (decide ((cN.g (a.getD c.toNat (0,(0,[]))) b)=(ah ((b.length:Int)-1))))) f h i j) none) none)
 (
  kn a d e b c false f h i j)
def Z39{J:Type}(N:Nat)(a:LM)(d:List ByteArray)(e c:LI)(b:Int)(f:Bool)(h i j:Int)(l:LI)(kn:LM->List ByteArray->LI->Int->Bool->Int->ByteArray->I2 (LI->Option J)):Option J :=
 cond (lk N (ax b a.length)) (
  cond (lk N (bC.P (a.getD b.toNat (0,(0,[]))) c)) (
   kn a d e b f h (bC.g (a.getD b.toNat (0,(0,[]))) c) i j l) none) none
def Z41{J:Type}(N:Nat)(a:LM)(b:List ByteArray)(c:LI)(d:Int)(e:Bool)(f:Int)(g:ByteArray)(h i:Int)(j:LI)(kn:LM->List ByteArray->LI->Int->Bool->Int->ByteArray->I3 (LI->Option J)):Option J :=
 kn a b c d e f g 0 h i j
def Z45{J:Type}(N:Nat)(d:LM)(a:List ByteArray)(e:LI)(f:Int)(g:Bool)(h:Int)(c:ByteArray)(b i j:Int)(l:LI)(kn k4:LM->List ByteArray->LI->Int->Bool->Int->ByteArray->I3 (LI->Option J)):Option J :=
 cond (lk N (decide (b<(a.length:Int))))
 (
  cond (lk N (ax b a.length)) (
   cond (lk N (mL (a.getD b.toNat ByteArray.empty) c||dE (a.getD b.toNat ByteArray.empty) c))
   (
    kn d a e f g h c (ah (b+1)) i j l)
   (
    k4 d a e f g h c b i j l)) none)
 (
  k4 d a e f g h c b i j l)
def Z44L{J:Type}(N:Nat)(k4:LM->List ByteArray->LI->Int->Bool->Int->ByteArray->I3 (LI->Option J)):Nat->LM->List ByteArray->LI->Int->Bool->Int->ByteArray->Int->Int->Int->LI->Option J
 |0,_,_,_,_,_,_,_,_,_,_,_=>none
 |M+1,a,b,c,d,e,f,g,h,i,j,l=>Z45 N a b c d e f g h i j l (λa b c d e f g h i j l=>Z44L N k4 M a b c d e f g h i j l) k4
def Z44 N a b c d e f g h i j l k4:=(Z44L N k4 N a b c d e f g h i j l:Option J)
def Z43 N a b c d e f g h i j l kn:=(Z44 N a b c d e f g h i j l kn:Option J)
def Z46{J:Type}(N:Nat)(d:LM)(b:List ByteArray)(e:LI)(f:Int)(g:Bool)(h:Int)(c:ByteArray)(a i j:Int)(l:LI)(kn:LM->List ByteArray->LI->Int->Bool->I3 (LI->Option J)):Option J :=
 let x4_:=(lk N (bF 0 a&&bF a b.length));let x6_:=(lk N (Nat.blt (([]:List ByteArray).length+((b.drop 0).take a.toNat).length) 1099511627776));let x7_:=(([]:List ByteArray)++((b.drop 0).take a.toNat));let x9_:=(lk N (Nat.blt (x7_.length+([c]:List ByteArray).length) 1099511627776));let x5_:=(
   cond (lk N (Nat.blt ((x7_++([c]:List ByteArray)).length+((b.drop a.toNat).take (b.length-a).toNat).length) 1099511627776)) (
   kn d ((x7_++([c]:List ByteArray))++((b.drop a.toNat).take (b.length-a).toNat)) e f g h i j l) none)
 let x0_:=(
   cond x9_ x5_ none)
 let x2_:=(
   cond x6_ x0_ none)
 let x3_:=(
   cI (
   cond x9_ (
   cond x4_ x5_ none) none)
   (
   cond x4_ x0_ none))
 let x11_:=(
   cI (
   cond x4_ (
   bo x2_) none)
   (
   cond x4_ x2_ none))
 let x1_:=(
   cI (
   cond x6_ x3_ none)
   (
   cond x4_ x2_ none))
 let x8_:=(
   cI (
   cond x6_ (
   cI x3_
   (
   cond x4_ x0_ none)) none)
   (
   cI x1_
   (
   cond x4_ (
   bo x2_) none)))
 let x10_:=(
   cI (
   cond x4_ x1_ none)
   (
   cond x4_ (
   cond x4_ x2_ none) none))
 cI (
 cI (
 cond x4_ x8_ none)
 (
 cI x10_
 (
 cond x4_ x11_ none)))
 (
 cI (
 cond x4_ (
 cI x8_
 (
 cI (
 cI x1_
 (
 cond x4_ x2_ none))
 (
 cond x4_ (
 cI (
 bo x2_)
 x2_) none))) none)
 (
 cI (
 cI x10_
 (
 cI (
 cond x4_ (
 cI x1_
 (
 cond x4_ x2_ none)) none)
 (
 cond x4_ (
 bo (
 cond x4_ x2_ none)) none)))
 (
 cond x4_ (
 cI x11_
 (
 cI (
 cond x4_ (
 cI (
 bo x2_)
 x2_) none)
 (
 bo (
 cond x4_ x2_ none)))) none)))
def Z42 N a b c d e f g h i j l kn:=(Z43 N a b c d e f g h i j l (λa b c d e f g h i j l=>Z46 N a b c d e f g h i j l kn):Option J)
def Z40 N a b c d e f g h i j kn:=(Z41 N a b c d e f g h i j (λa b c d e f g l h i j=>Z42 N a b c d e f g l h i j kn):Option J)
def Z38 N a b c j d e f g h i kn:=(Z39 N a b c j d e f g h i (λa b c d e f l g h i=>Z40 N a b c d e f l g h i kn):Option J)
def Z36 N a b c d e f g h i j kn:=(Z37 N a b c d e f g h i j (λa b c d e f g h i j=>Z38 N a b c d e f g h i j kn):Option J)
def Z34 N a b c d e f g h i j kn:=(Z35 N a b c d e f g h i j (λa b c d e f g h i j=>Z36 N a b c d e f g h i j kn):Option J)
def Z32 N a b c d e f g h i kn:=(Z33 N a b c d e f g h i (λa b c j d e f g h i=>Z34 N a b c j d e f g h i kn):Option J)
def Z30 N a b c d e f g h i kn k3:=(Z31 N a b c d e f g h i (λa b c d e f g h i=>Z32 N a b c d e f g h i kn) k3:Option J)
def Z29 N a b c d e f g h i kn:=(Z30 N a b c d e f g h i kn kn:Option J)
def Z47{J:Type}(N:Nat)(a:LM)(b:List ByteArray)(c:LI)(d:Int)(e:Bool)(f g h:Int)(i:LI)(kn:LM->List ByteArray->LI->Int->Bool->I3 (LI->Option J)):Option J :=
 kn a b c d e (ah (f+1)) g h i
def Z28 N a b c d e f g h i kn:=(Z29 N a b c d e f g h i (λa b c d e f g h i=>Z47 N a b c d e f g h i kn):Option J)
def Z26 N a b c d e f g h i kn k2:=(Z27 N a b c d e f g h i (λa b c d e f g h i=>Z28 N a b c d e f g h i kn) k2:Option J)
def Z25L{J:Type}(N:Nat)(k2:LM->List ByteArray->Int->Bool->I2 (LI->Option J)):Nat->LM->List ByteArray->LI->Int->Bool->Int->Int->Int->LI->Option J
 |0,_,_,_,_,_,_,_,_,_=>none
 |M+1,a,b,c,d,e,f,g,h,i=>Z26 N a b c d e f g h i (λa b c d e f g h i=>Z25L N k2 M a b c d e f g h i) k2
def Z25 N a b c d e f g h i k2:=(Z25L N k2 N a b c d e f g h i:Option J)
def Z24 N a b c d e f g h i kn:=(Z25 N a b c d e f g h i kn:Option J)
def Z22 N a b c d e f g h kn:=(Z23 N a b c d e f g h (λa b c d e i f g h=>Z24 N a b c d e i f g h kn):Option J)
def Z49{J:Type}(N:Nat)(a:LM)(b:List ByteArray)(c:Int)(d:Bool)(e f:Int)(g:LI)(kn:List ByteArray->Option J)(k1:LM->I3 (LI->Option J)):Option J :=
 cond (!(d))
 (
  k1 a c e f g)
 (
  kn b)
def Z51{J:Type}(N:Nat)(a:List ByteArray)(kn:List ByteArray->ByteArray->Option J):Option J :=
 kn a ByteArray.empty
def Z54{J:Type}(N:Nat)(a:List ByteArray)(b:ByteArray)(kn:List ByteArray->ByteArray->Int->Option J):Option J :=
 kn a b 0
def Z57{J:Type}(N:Nat)(b:List ByteArray)(c:ByteArray)(a:Int)(kn:List ByteArray->ByteArray->Int->Option J)(k6:ByteArray->Option J):Option J :=
 cond (lk N (decide (a<(b.length:Int))))
 (
  cond (lk N (decide (0<a)))
  (
   cond (Nat.blt (c.size+(⟨#[32]⟩:ByteArray).size) 4611686018427387904) (
    cond (lk N (ax a b.length)) (
     cond (Nat.blt ((c++(⟨#[32]⟩:ByteArray)).size+(b.getD a.toNat ByteArray.empty).size) 4611686018427387904) (
      kn b ((c++(⟨#[32]⟩:ByteArray))++(b.getD a.toNat ByteArray.empty)) (ah (a+1))) none) none) none)
  (
   cond (lk N (ax a b.length)) (
    cond (Nat.blt (c.size+(b.getD a.toNat ByteArray.empty).size) 4611686018427387904) (
     kn b (c++(b.getD a.toNat ByteArray.empty)) (ah (a+1))) none) none))
 (
  k6 c)
def Z56L{J:Type}(N:Nat)(k6:ByteArray->Option J):Nat->List ByteArray->ByteArray->Int->Option J
 |0,_,_,_=>none
 |M+1,a,b,c=>Z57 N a b c (λa b c=>Z56L N k6 M a b c) k6
def Z56 N a b c k6:=(Z56L N k6 N a b c:Option J)
def Z55 N a b c kn:=(Z56 N a b c kn:Option J)
def Z53 N a b kn:=(Z54 N a b (λa b c=>Z55 N a b c kn):Option J)
def Z58{J:Type}(N:Nat)(a:ByteArray)(kr:ByteArray->Option J):Option J :=
 kr a
def Z52 N b a kr:=(Z53 N b a (λa=>Z58 N a kr):Option J)
def Z50 N a kr:=(Z51 N a (λa b=>Z52 N a b kr):Option J)
def Z48 N b a c d e f g k1 kr:=(Z49 N b a c d e f g (λa=>Z50 N a kr) k1:Option J)
def Z21 N a b h c d e f g k1 kr:=(Z22 N a b h c d e f g (λa b c d e f g=>Z48 N a b c d e f g k1 kr):Option J)
def Z19 N a b c d e f g k1 kr:=(Z20 N a b c d e f g (λa b c d h e f g=>Z21 N a b c d h e f g k1 kr):Option J)
def Z17 N a b c d e f k1 kr:=(Z18 N a b c d e f (λa b g c d e f=>Z19 N a b g c d e f k1 kr):Option J)
def Z15 N a b c d e k1 kr:=(Z16 N a b c d e (λa f b c d e=>Z17 N a f b c d e k1 kr):Option J)
def Z14 N a b c d e kn kr:=(Z15 N a b c d e kn kr:Option J)
def Z59{J:Type}(N:Nat)(a:LM)(b c d:Int)(e:LI)(kn:LM->I3 (LI->Option J)):Option J :=
 kn a (ah (b+1)) c d e
def Z13 N a b c d e kn kr:=(Z14 N a b c d e (λa b c d e=>Z59 N a b c d e kn) kr:Option J)
def Z11 N a b c d e kn k0 kr:=(Z12 N a b c d e (λa b c d e=>Z13 N a b c d e kn kr) k0:Option J)
def Z10L{J:Type}(N:Nat)(k0:Option J)(kr:ByteArray->Option J):Nat->LM->Int->Int->Int->LI->Option J
 |0,_,_,_,_,_=>none
 |M+1,a,b,c,d,e=>Z11 N a b c d e (λa b c d e=>Z10L N k0 kr M a b c d e) k0 kr
def Z10 N a b c d e k0 kr:=(Z10L N k0 kr N a b c d e:Option J)
def Z9 N a b c d e kn kr:=(Z10 N a b c d e kn kr:Option J)
def Z7 N a b c d kn kr:=(Z8 N a b c d (λa e b c d=>Z9 N a e b c d kn kr):Option J)
def Z60{J:Type}(N:Nat) (kr:ByteArray->Option J):Option J :=
 kr ByteArray.empty
def Z6 N a b c d kr:=(Z7 N a b c d (Z60 N kr) kr:Option J)
def Z4 N a e b c d kr:=(Z5 N a e b c d (λa b c d=>Z6 N a b c d kr) kr:Option J)
def Z2 N a b c kr:=(Z3 N a b c (λd e a b c=>Z4 N d e a b c kr):Option J)
def Z0 N a kr:=(Z1 N a (λb c d=>Z2 N b c d kr):Option J)
def Spec:Prop:=∀ (v0:MT),Ty.bd (.pair (.int .i64) (.pair (.int .i64) (.sl 0 (.int .i64)))) v0->∃N0,∀N,N0<=N->Z0 N v0 (λv2=>some ((),(v2,())))=some ((),((g v0),()))
section
variable {J : Type} {N : Nat} {l : List (Int × Int × List Int)} {m0 m1 : Int} {m2 : List Int}
theorem Ql(k4:(List (Int×Int×List Int))->List ByteArray->List Int->Int->Bool->Int->ByteArray->Int->Int->Int->List Int->Option J)(aC:List ByteArray)(hn:aC.length<=5)(seen:List Int)(i:Int)(tr:Bool)(k:Int)(nm:ByteArray) :
  ∀(M a:Nat),a<=aC.length->aC.length-a<M->Z44L N k4 M l aC seen i tr k nm (a:Int) m0 m1 m2=k4 l aC seen i tr k nm ((a+((aC.drop a).takeWhile λy=>bU y nm).length:Nat):Int) m0 m1 m2:=by
 intro M;induction M with
 |zero=>intro a _ h;omega
 |succ M ih =>
  intro a ha hM;simp only[Z44L,Z45];by_cases h:a<aC.length
  ·rw[ct (dt (by omega)),ct (aG h),Int.toNat_natCast,Pp,cK ByteArray.empty h];by_cases hle:bU (aC.getD a ByteArray.empty) nm=true;·rw[ct hle,aN (by rw[aS];omega),List.takeWhile_cons_of_pos (p:=λy=>bU y nm) hle,List.length_cons];refine(ih (a+1) (by omega) (by omega)).trans ?_;congr 2;omega
   ·rw[cf (Bool.eq_false_iff.2 hle),List.takeWhile_cons_of_neg (p:=λy=>bU y nm) hle];rfl
  ·rw[cf (df (by omega)),List.drop_of_length_le (by omega)];rfl
theorem Qm(kn:(List (Int×Int×List Int))->List ByteArray->List Int->Int->Bool->Int->Int->Int->List Int->Option J)(aC:List ByteArray)(hn:aC.length<=5)(seen:List Int)(i:Int)(tr:Bool)(k:Int)(nm:ByteArray) :
  Z46 N l aC seen i tr k nm (((aC.takeWhile λy=>bU y nm).length:Nat):Int) m0 m1 m2 kn=kn l (g0 aC nm) seen i tr k m0 m1 m2:=by
 have ht:(aC.takeWhile λy=>bU y nm).length<=aC.length:=by have:=congrArg List.length (List.takeWhile_append_dropWhile (p:=λy=>bU y nm) (l:=aC));rw[List.length_append]at this;omega
 have hA:(bF 0 (((aC.takeWhile λy=>bU y nm).length:Nat):Int)&&bF (((aC.takeWhile λy=>bU y nm).length:Nat):Int) (aC.length:Int))=true:=by rw[show bF 0 (((aC.takeWhile λy=>bU y nm).length:Nat):Int)=true from dt (by omega),show bF (((aC.takeWhile λy=>bU y nm).length:Nat):Int) (aC.length:Int)=true from dt (by omega)];rfl
 have e1:(aC.drop 0).take (((aC.takeWhile λy=>bU y nm).length:Nat):Int).toNat=aC.takeWhile λy=>bU y nm:=by
  rw[List.drop_zero,Int.toNat_natCast];conv=>lhs;rw[<-List.takeWhile_append_dropWhile (p:=λy=>bU y nm) (l:=aC)]
  rw[List.takeWhile_append_dropWhile];exact(List.prefix_iff_eq_take.1 (List.takeWhile_prefix _)).symm
 have e2:(aC.drop (((aC.takeWhile λy=>bU y nm).length:Nat):Int).toNat).take ((aC.length:Int)-(((aC.takeWhile λy=>bU y nm).length:Nat):Int)).toNat=aC.dropWhile λy=>bU y nm:=by
  rw[Int.toNat_natCast];have:aC.drop (aC.takeWhile λy=>bU y nm).length=aC.dropWhile λy=>bU y nm:=by
   conv=>lhs;arg 2;rw[<-List.takeWhile_append_dropWhile (p:=λy=>bU y nm) (l:=aC)]
   rw[List.drop_left]
  rw[this];refine List.take_of_length_le ?_;have:=congrArg List.length this;rw[List.length_drop]at this;omega
 have e3:([]++aC.takeWhile (λy=>bU y nm))++[nm]++aC.dropWhile (λy=>bU y nm)=g0 aC nm:=by unfold g0;simp
 have l3:=congrArg List.length e3;have hi:(g0 aC nm).length=aC.length+1:=(zW aC nm).length_eq;have b1:Nat.blt (([]:List ByteArray).length+(aC.takeWhile λy=>bU y nm).length) 1099511627776=true:=Nat.ble_eq_true_of_le (by simp;omega);have b2:Nat.blt (([]++aC.takeWhile λy=>bU y nm).length+[nm].length) 1099511627776=true:=Nat.ble_eq_true_of_le (by simp;omega);have b3:Nat.blt (([]++aC.takeWhile (λy=>bU y nm)++[nm]).length+(aC.dropWhile λy=>bU y nm).length) 1099511627776=true:=Nat.ble_eq_true_of_le (by rw[List.length_append]at l3;omega);unfold Z46;simp only[aL,hA,e1,e2,b1,b2,b3,e3,cond_true,oM]
theorem Qn(k6:ByteArray->Option J)(aC:List ByteArray)(hn:aC.length<=5)(hsz:∀b∈aC,b.size<=22):∀(M k:Nat),k<=aC.length->aC.length-k<M ->
  Z56L N k6 M aC (fJ (aC.take k)) (k:Int)=k6 (fJ aC):=by
 intro M;induction M with
 |zero=>intro k _ h;omega
 |succ M ih =>
  intro k hk hM;simp only[Z56L,Z57];by_cases h:k<aC.length
  ·have hb:=hsz _ (aX (l:=aC) (j:=k) ByteArray.empty h);have hjl:(fJ (aC.take k)).size<=115:=by
    have:=zT (B:=22) (sep:=[32]) (xs:=(aC.take k).map (·.data.toList)) (λy hy=>by obtain⟨b,hb',rfl⟩:=List.mem_map.1 hy;have:=hsz b (List.mem_of_mem_take hb');rw[Array.length_toList];exact this)
    rw[List.length_map,List.length_take]at this;simp only[List.length_cons,List.length_nil]at this;unfold fJ;show(Lib.join ((aC.take k).map (·.data.toList)) [32]).toArray.size<=115
    rw[List.size_toArray];omega
   have htk:aC.take (k+1)=aC.take k++[aC.getD k ByteArray.empty]:=(lP _ h).symm;have hdat:du (aC.getD k ByteArray.empty).data.toList=aC.getD k ByteArray.empty:=rfl;rw[ct (dt (by omega)),aN (by rw[aS];omega)];by_cases h0:0<k
   ·have hne:(aC.take k).map (·.data.toList)≠[]:=by intro e;have:=congrArg List.length e;rw[List.length_map,List.length_take,List.length_nil]at this;omega
    have e:fJ (aC.take k)++(⟨#[32]⟩:ByteArray)++aC.getD k ByteArray.empty=fJ (aC.take (k+1)):=by rw[htk];unfold fJ;rw[List.map_append,List.map_cons,List.map_nil,Po hne];show du _++du [32]++du (aC.getD k ByteArray.empty).data.toList=du _;rw[zV,zV]
    have s1:(fJ (aC.take k)++(⟨#[32]⟩:ByteArray)).size=(fJ (aC.take k)).size+1:=by rw[ByteArray.size_append];rfl
    rw[ct (dt (by omega)),dZ (show Nat.blt ((fJ (aC.take k)).size+(⟨#[32]⟩:ByteArray).size) 4611686018427387904=true from Nat.ble_eq_true_of_le (by have:(⟨#[32]⟩:ByteArray).size=1:=rfl;omega)),ct (aG h),Int.toNat_natCast,dZ (show Nat.blt (_+(aC.getD _ ByteArray.empty).size) 4611686018427387904=true from Nat.ble_eq_true_of_le (by omega)),e];exact ih (k+1) (by omega) (by omega)
   ·obtain rfl:k=0:=by omega
    have e:fJ (aC.take 0)++aC.getD 0 ByteArray.empty=fJ (aC.take (0+1)):=by rw[htk];unfold fJ;show du []++du (aC.getD 0 ByteArray.empty).data.toList=du (Lib.join [(aC.getD 0 ByteArray.empty).data.toList] [32]);rw[zV,Lib.join_cons];simp[Lib.joinTail]
    rw[cf (df (by omega)),ct (aG h),Int.toNat_natCast,dZ (show Nat.blt (_+(aC.getD _ ByteArray.empty).size) 4611686018427387904=true from Nat.ble_eq_true_of_le (by omega)),e];exact ih 1 (by omega) (by omega)
  ·rw[cf (df (by omega)),List.take_of_length_le (by omega)]
theorem kL(hN:200<=N){n:Int}(hl:dq n l){i:Nat}(hi:i<l.length)(hm:m0=n)(k2:(List (Int×Int×List Int))->List ByteArray->Int->Bool->Int->Int->List Int->Option J) :
  ∀(M r k:Nat) (out:List (List Nat)),k+r=n.toNat->r<M->gH (l.getD i z3) k out ->
  Z25L N k2 M l (gv [] (out.map (fj (l.getD i z3)))) (ak out.flatten) (i:Int) (out.all (gu (l.getD i z3))) (k:Int) m0 m1 m2 =
   k2 l (gv [] ((fH (l.getD i z3) (List.range' k r) out).map (fj (l.getD i z3)))) (i:Int) ((fH (l.getD i z3) (List.range' k r) out).all (gu (l.getD i z3))) m0 m1 m2:=by
 have hx:bI n (l.getD i z3):=kS hl hi;have hb:=hx.bound;have h1:=hx.2.1;intro M;induction M with
 |zero=>intro r k out _ h;omega
 |succ M ih =>
  intro r k out hk hM hC;simp only[Z25L,Z26,Z27];cases r with
  |zero=>rw[cf (df (by omega))];rfl
  |succ r =>
   rw[ct (dt (by omega)),List.range'_succ,fH];simp only[Z28,Z29,Z30,Z31];have hflat:=Pv (out:=out) (λp hp=>(pC hx hC hp).2.2.1);have hol:=hC.len;by_cases hin:k∈out.flatten;·rw[ct (dv.g_iff.2 (uL.2 hin)),if_pos hin];simp only[Z47];rw[aN (by rw[aS];omega)];exact ih r (k+1) out (by omega) (by omega) hC.up
   ·have hf:dv.g (ak out.flatten) (k:Int)=false:=by
     cases hc:dv.g (ak out.flatten) (k:Int);·rfl
     ·exact absurd (uL.1 (dv.g_iff.1 hc)) hin
    rw[cf hf,if_neg hin];simp only[Z32,Z33,Z34,Z35,Z36,Z37,Z38,Z39,Z40,Z41,Z42,Z43,Z44,Z47];have hkx:k<(l.getD i z3).1.toNat:=by omega
    have hC':=hC.step hkx;obtain⟨q1,q2,q3,q4,q5⟩:=pC hx hC' (p:=(bf (l.getD i z3) k).1) (by simp);have p1:cg.P (l.getD i z3) (k:Int)=true:=by show(aY (l.getD i z3)&&(decide (0<=(k:Int))&&decide ((k:Int)<(l.getD i z3).1)))=true;rw[hx.dim,dt (show(0:Int)<=(k:Int) by omega),dt (show(k:Int)<(l.getD i z3).1 by omega)];rfl
    have g1:(cg.g (l.getD i z3) (k:Int)).1=ak (bf (l.getD i z3) k).1:=rfl;have p2:cN.P (l.getD i z3) (ak (bf (l.getD i z3) k).1)=true:=by show(aY (l.getD i z3)&&kc (l.getD i z3) _)=true;rw[hx.dim,zM q2 q3];rfl
    have g2:cN.g (l.getD i z3) (ak (bf (l.getD i z3) k).1)=((gr (ae (l.getD i z3)) (bf (l.getD i z3) k).1:Nat):Int):=by show((gr (ae (l.getD i z3)) ((ak (bf (l.getD i z3) k).1).map Int.toNat):Nat):Int)=_;rw[fc]
    have p3:bC.P (l.getD i z3) (ak (bf (l.getD i z3) k).1)=true:=by show(aT (l.getD i z3)&&kc (l.getD i z3) _)=true;rw[hx.sizes,zM q2 q3];rfl
    have g3:bC.g (l.getD i z3) (ak (bf (l.getD i z3) k).1)=fj (l.getD i z3) (bf (l.getD i z3) k).1:=by show fj (l.getD i z3) ((ak (bf (l.getD i z3) k).1).map Int.toNat)=_;rw[fc]
    have b1:Nat.blt ((ak out.flatten).length+(ak (bf (l.getD i z3) k).1).length) 1099511627776=true:=Nat.ble_eq_true_of_le (by rw[aU,aU];omega);have e1:ak out.flatten++ak (bf (l.getD i z3) k).1=ak (out++[(bf (l.getD i z3) k).1]).flatten:=by unfold ak;simp
    have e2:ah (((ak (bf (l.getD i z3) k).1).length:Int)-1)=((bf (l.getD i z3) k).1.length:Int)-1:=by rw[aU];exact bh (by omega) (by omega)
    have hnl:(gv [] (out.map (fj (l.getD i z3)))).length<=5:=by rw[zY,List.length_map];omega
    have tail:∀tr:Bool,tr=(out++[(bf (l.getD i z3) k).1]).all (gu (l.getD i z3)) ->
      Z44L N (λl3 names6 seen7 i5 trees8 kx9 name12 at13 m1_0 m1_1 m1_2=>Z46 N l3 names6 seen7 i5 trees8 kx9 name12 at13 m1_0 m1_1 m1_2 (λl3 names6 seen7 i5 trees8 kx9 m1_0 m1_1 m1_2=>Z25L N k2 M l3 names6 seen7 i5 trees8 (ah (kx9+1)) m1_0 m1_1 m1_2)) N l (gv [] (out.map (fj (l.getD i z3)))) (ak (out++[(bf (l.getD i z3) k).1]).flatten) (i:Int) tr (k:Int) (fj (l.getD i z3) (bf (l.getD i z3) k).1) 0 m0 m1 m2 =
       k2 l (gv [] ((fH (l.getD i z3) (List.range' (k+1) r) (out++[(bf (l.getD i z3) k).1])).map (fj (l.getD i z3)))) (i:Int) ((fH (l.getD i z3) (List.range' (k+1) r) (out++[(bf (l.getD i z3) k).1])).all (gu (l.getD i z3))) m0 m1 m2:=by
     intro tr htr;refine(Ql _ _ hnl _ _ _ _ _ N 0 (by omega) (by omega)).trans ?_;rw[List.drop_zero,Nat.zero_add];refine(Qm _ _ hnl _ _ _ _ _).trans ?_;have e3:g0 (gv [] (out.map (fj (l.getD i z3)))) (fj (l.getD i z3) (bf (l.getD i z3) k).1)=gv [] ((out++[(bf (l.getD i z3) k).1]).map (fj (l.getD i z3))):=by rw[List.map_append,List.map_cons,List.map_nil,Fl]
     rw[e3,aN (by rw[aS];omega),htr];exact ih r (k+1) _ (by omega) (by omega) hC'
    have eall:(out++[(bf (l.getD i z3) k).1]).all (gu (l.getD i z3))=(out.all (gu (l.getD i z3))&&decide (gr (ae (l.getD i z3)) (bf (l.getD i z3) k).1+1=(bf (l.getD i z3) k).1.length)):=by rw[List.all_append,List.all_cons,List.all_nil,Bool.and_true];rfl
    rw[ct (aG hi),Int.toNat_natCast,ct p1,g1,ct b1,e1];cases hT:out.all (gu (l.getD i z3));·rw[cond_false,ct (aG hi),ct p3,g3];refine tail _ ?_;rw[eall,hT];rfl
    ·rw[cond_true,ct (aG hi),ct p2,ct (aG hi),ct p3,g3,g2,e2];refine tail _ ?_;rw[eall,hT,aL,Bool.true_and,decide_eq_decide];omega
theorem outer(hN:200<=N){n:Int}(hl:dq n l)(h100:l.length<=100)(hm:m0=n)(k0:Option J)(kr:ByteArray->Option J):∀(M i:Nat),i<=l.length->l.length-i<M ->
  Z10L N k0 kr M l (i:Int) m0 m1 m2=match(l.drop i).find? gZ with
   |none=>k0
   |some x=>kr (fJ (dy ((dK x).map (fj x)))):=by
 intro M;induction M with
 |zero=>intro i _ h;omega
 |succ M ih =>
  intro i hi hM;simp only[Z10L,Z11,Z12];by_cases h:i<l.length
  ·have hx:bI n (l.getD i z3):=kS hl h;have hb:=hx.bound;have h1:=hx.2.1;rw[ct (dt (by omega)),cK z3 h,List.find?_cons];simp only[Z13,Z14,Z15,Z16,Z17,Z18,Z19,Z20,Z21,Z22,Z23,Z24,Z25];refine(kL hN hl h hm _ N n.toNat 0 [] (by omega) (by omega) ⟨(λp hp=>by cases hp),by simp⟩).trans ?_;have ec:fH (l.getD i z3) (List.range' 0 n.toNat) []=dK (l.getD i z3):=by unfold dK;rw[List.range_eq_range',h1]
   rw[ec];simp only[Z48,Z49];have et:(dK (l.getD i z3)).all (gu (l.getD i z3))=gZ (l.getD i z3):=rfl;rw[et];cases ht:gZ (l.getD i z3);·rw[Bool.not_false,cond_true];simp only[Z59];rw[aN (by rw[aS];omega)];exact ih (i+1) (by omega) (by omega)
   ·rw[Bool.not_true,cond_false];simp only[Z50,Z51,Z52,Z53,Z54,Z55,Z56,Z58];have hC:=zR (l.getD i z3);have hlen:=hC.len;have:=Qn (N:=N) (λs14=>kr s14) (gv [] ((dK (l.getD i z3)).map (fj (l.getD i z3)))) (by rw[zY,List.length_map];omega) (λb hb'=>by obtain⟨p,hp,rfl⟩:=List.mem_map.1 (Pu.1 hb');exact Fp (pC hx hC hp).2.2.1) N 0 (by omega) (by rw[zY,List.length_map];omega);refine Eq.trans (by exact this) ?_;rw[zX]
  ·rw[cf (df (by omega)),List.drop_of_length_le (by omega)];rfl
end
def ok:Spec:=λm hb=>⟨200,λN hN=>by
 have gf:eo.g (m.1,(m.2.1,m.2.2))=c8 m:=rfl;simp only[Z0,Z1,Z2,Z3,Z4,Z5,Z6,Z7,Z8,Z9,Z10,Z60,gf,aL];unfold g;cases hf:(c8 m).2;·rfl
 ·obtain⟨h1,h2⟩:=Fo hf;refine(outer hN h1 h2 rfl _ _ N 0 (by omega) (by omega)).trans ?_;rw[List.drop_zero,if_pos rfl];unfold nN;cases(c8 m).1.find? gZ<;>rfl⟩
end aZ
namespace gB
def g(n low high:Int):Bool:=b7 n low high
def Z0{J:Type}(N:Nat)(a b c:Int)(kr:Bool->Option J):Option J :=
 cond (lk N (decide (b<=a)))
 (
  kr (lk N (decide (a<=c))))
 (
  kr false)
def Spec:Prop:=∀ (v0 v1 v2:Int),∃N0,∀N,N0<=N->Z0 N v0 v1 v2 (λv6=>some ((),(v6,())))=some ((),((g v0 v1 v2),()))
def ok:Spec:=λn low high=>⟨0,λN hN=>by simp only[Z0,aL,g,b7];cases decide (low<=n)<;>rfl⟩
end gB
namespace gC
def g(x:Int):Bool:=!b7 x (-99) 99
def Z0{J:Type}(N:Nat)(a:Int)(kr:Bool->Option J):Option J :=
 kr (!(lk N ((gB.g a (-99) 99))))
def Spec:Prop:=∀ (v0:Int),∃N0,∀N,N0<=N->Z0 N v0 (λv2=>some ((),(v2,())))=some ((),((g v0),()))
def ok:Spec:=λn=>⟨0,λN hN=>by simp only[Z0,g,aL,gB.g]⟩
end gC
namespace ft
def go(p:Int->Bool):List Int->Nat->Int
 |[],_=>-1
 |x::xs,j=>if p x=true then(j:Int)else go p xs (j+1)
def g(s:List Int)(_:Unit):Int:=go gC.g s 0
def Z1{J:Type}(N:Nat)(a:LI)(b:Unit)(kn:LI->Option J):Option J :=
 kn a
def Z4{J:Type}(N:Nat)(a:LI)(kn:LI->I2 (Option J)):Option J :=
 kn a (a.length:Int) 0
def Z7{J:Type}(N:Nat)(b:LI)(c a:Int)(kn:LI->I2 (Option J))(k0:Option J)(kr:Int->Option J):Option J :=
 cond (lk N (decide (a<c)))
 (
  cond (lk N (ax a b.length)) (
   cond (lk N ((gC.g (b.getD a.toNat 0))))
   (
    kr a)
   (
    kn b c (ah (a+1)))) none)
 (
  k0)
def Z6L{J:Type}(N:Nat)(k0:Option J)(kr:Int->Option J):Nat->LI->Int->Int->Option J
 |0,_,_,_=>none
 |M+1,a,b,c=>Z7 N a b c (λa b c=>Z6L N k0 kr M a b c) k0 kr
def Z6 N a b c k0 kr:=(Z6L N k0 kr N a b c:Option J)
def Z5 N a b c kn kr:=(Z6 N a b c kn kr:Option J)
def Z3 N a kn kr:=(Z4 N a (λa b c=>Z5 N a b c kn kr):Option J)
def Z8{J:Type}(N:Nat) (kr:Int->Option J):Option J :=
 kr (-1)
def Z2 N a kr:=(Z3 N a (Z8 N kr) kr:Option J)
def Z0 N a b kr:=(Z1 N a b (λa=>Z2 N a kr):Option J)
def Spec:Prop:=∀ (v0:LI) (v1:Unit),Ty.bd (.sl 0 (.int .i64)) v0->∃N0,∀N,N0<=N->Z0 N v0 v1 (λv4=>some ((),(v4,())))=some ((),((g v0 v1),()))
def loop{J:Type}(N:Nat)(kr:Int->Option J)(a:List Int)(ha:a.length<=maxLen):∀(M j:Nat),j<=a.length->a.length-j<M ->
  Z6L N (kr (-1)) kr M a (a.length:Int) (j:Int)=kr (go gC.g (a.drop j) j):=by
 intro M;induction M with
 |zero=>intro j _ h;omega
 |succ M ih =>
  intro j hj hM;simp only[Z6L,Z7];by_cases h:j<a.length
  ·rw[ct (dt (by omega)),ct (aG h),Int.toNat_natCast,aN (by omega),ih (j+1) h (by omega),cK 0 h,go];cases e:gC.g (a.getD j 0);·rw[cf rfl,if_neg (by simp)]
   ·rw[ct rfl,if_pos rfl]
  ·rw[cf (df (by omega)),List.drop_of_length_le (by omega),go]
def ok:Spec:=λa _ ha=>⟨a.length+1,λN hN=>by simp only[Z1,Z4,Z7,Z6,Z5,Z3,Z8,Z2,Z0];exact(loop N (λt=>some ((),(t,()))) a ha.1 N 0 (by omega) (by omega)).trans rfl⟩
def go_pos(p:Int->Bool):∀(l:List Int) (j:Nat),0<=go p l j↔∃x∈l,p x=true
 |[],j=>by simp[go]
 |x::xs,j=>by
  rw[go];by_cases h:p x=true;·rw[if_pos h];simp[h]
  ·rw[if_neg h,go_pos p xs];simp[h]
end ft
namespace ln
def g(s:List Int)(_:Unit):Bool:=s.any gC.g
def Z0{J:Type}(N:Nat)(a:LI)(b:Unit)(kr:Bool->Option J):Option J :=
 kr (lk N (decide (0<=(ft.g a ()))))
def Spec:Prop:=∀ (v0:LI) (v1:Unit),Ty.bd (.sl 0 (.int .i64)) v0->∃N0,∀N,N0<=N->Z0 N v0 v1 (λv4=>some ((),(v4,())))=some ((),((g v0 v1),()))
def ok:Spec:=λa _ ha=>⟨0,λN hN=>by
 simp only[Z0,aL,g];have:=(show 0<=ft.g a ()↔∃x∈a,gC.g x=true from ft.go_pos gC.g a 0);cases e:a.any gC.g;·rw[df (λh=>by have:=this.1 h;rw[<-List.any_eq_true,e]at this;cases this)]
 ·rw[dt (this.2 (List.any_eq_true.1 e))]⟩
end ln
namespace lq
def g(m:Int×Int×List Int):Bool:=ba m
def Z0{J:Type}(N:Nat)(a:MT)(kr:Bool->Option J):Option J :=
 cond (lk N ((gB.g a.1 1 5)))
 (
  cond (lk N ((gB.g a.2.1 a.1 8)))
  (
   cond (lk N (decide ((a.2.2.length:Int)=(ah (a.1*a.2.1)))))
   (
    kr (!(lk N ((ln.g a.2.2 ())))))
   (
    kr false))
  (
   kr false))
 (
  kr false)
def Spec:Prop:=∀ (v0:MT),Ty.bd (.pair (.int .i64) (.pair (.int .i64) (.sl 0 (.int .i64)))) v0->∃N0,∀N,N0<=N->Z0 N v0 (λv2=>some ((),(v2,())))=some ((),((g v0),()))
def ok:Spec:=λm hb=>⟨0,λN hN=>by
 simp only[Z0,g,aL,gB.g,ba,aY,ln.g,List.not_any_eq_all_not,lQ];cases h1:b7 m.1 1 5;·rfl
 cases h2:b7 m.2.1 m.1 8;·rfl
 have e1:=eK.1 h1;have e2:=eK.1 h2;have e3:0<=m.1*m.2.1:=Int.mul_nonneg (by omega) (by omega);have e4:m.1*m.2.1<=5*8:=Int.mul_le_mul (by omega) (by omega) (by omega) (by omega);rw[bh (by omega) (by omega)];cases h3:decide ((m.2.2.length:Int)=m.1*m.2.1);·rfl
 simp[gC.g]⟩
end lq
namespace cb
def P(m:Int×Int×List Int)(i j:Int):Bool:=o9 m i j
def g(m:Int×Int×List Int)(i j:Int):Int:=pc m i j
def Z0{J:Type}(N:Nat)(a:MT)(b c:Int)(kr:Int->Option J):Option J :=
 cond (lk N (ax (ah ((ah (b*a.1))+c)) a.2.2.length)) (
  kr (a.2.2.getD (ah ((ah (b*a.1))+c)).toNat 0)) none
def Spec:Prop:=∀ (v0:MT) (v1 v2:Int),Ty.bd (.pair (.int .i64) (.pair (.int .i64) (.sl 0 (.int .i64)))) v0->P v0 v1 v2=true->∃N0,∀N,N0<=N->Z0 N v0 v1 v2 (λv6=>some ((),(v6,())))=some ((),((g v0 v1 v2),()))
def ok:Spec:=λm i j hb hp=>⟨0,λN hN=>by obtain⟨h1,h2,h3⟩:=Ed hb.2.2.1 hp;simp only[Z0,g,pc,h1];rw[ct (DS h2 h3)]⟩
end cb
namespace cZ
def P(a b:Int):Bool:=decide (0<=a)&&(decide (a<9223372036854775808)&&(decide (0<=b)&&decide (b<9223372036854775808)))
def g(a b:Int):Int:=(Int.gcd a b:Int)
def Z1{J:Type}(N:Nat)(a b:Int)(kn:I2 (Option J)):Option J :=
 kn a b
def Z5{J:Type}(N:Nat)(b a:Int)(kn:I2 (Option J))(k0:Int->Option J):Option J :=
 cond (lk N (!(decide (a=0))))
 (
  cond (lk N (!(decide (a=0)))) (
   kn a (Int.tmod b a)) none)
 (
  k0 b)
def Z4L{J:Type}(N:Nat)(k0:Int->Option J):Nat->Int->Int->Option J
 |0,_,_=>none
 |M+1,a,b=>Z5 N a b (λa b=>Z4L N k0 M a b) k0
def Z4 N a b k0:=(Z4L N k0 N a b:Option J)
def Z3 N a b kn:=(Z4 N a b kn:Option J)
def Z6{J:Type}(N:Nat)(a:Int)(kr:Int->Option J):Option J :=
 kr (mx a (ah (0-a)))
def Z2 N a b kr:=(Z3 N a b (λa=>Z6 N a kr):Option J)
def Z0 N a b kr:=(Z1 N a b (λa b=>Z2 N a b kr):Option J)
def Spec:Prop:=∀ (v0 v1:Int),P v0 v1=true->∃N0,∀N,N0<=N->Z0 N v0 v1 (λv4=>some ((),(v4,())))=some ((),((g v0 v1),()))
def loop{J:Type}(N:Nat)(k0:Int->Option J):∀(M:Nat) (a b:Nat),b<M->Z4L N k0 M (a:Int) (b:Int)=k0 (Nat.gcd b a:Nat):=by
 intro M;induction M with
 |zero=>intro a b h;omega
 |succ M ih =>
  intro a b hM;simp only[Z4L,Z5];by_cases h:b=0;·subst h;rw[cf (by simp),Nat.gcd_zero_left]
  ·rw[ct (nt (by omega)),ct (nt (by omega)),show Int.tmod (a:Int) (b:Int)=((a%b:Nat):Int)from rfl,ih _ _ (by have:=Nat.mod_lt a (Nat.pos_of_ne_zero h);omega),<-Nat.gcd_rec]
def ok:Spec:=λa b hp=>⟨b.toNat+1,λN hN=>by
 simp only[P,Bool.and_eq_true,decide_eq_true_eq]at hp;obtain⟨h1,h2,h3,h4⟩:=hp;obtain⟨x,rfl⟩:=Int.eq_ofNat_of_zero_le h1;obtain⟨y,rfl⟩:=Int.eq_ofNat_of_zero_le h3;simp only[Z1,Z5,Z4,Z3,Z6,Z2,Z0,g];rw[loop N _ N x y (by omega),Nat.gcd_comm];have hl:Nat.gcd x y<=max x y:=by
  rcases Nat.eq_zero_or_pos x with h|h;·subst h;rw[Nat.gcd_zero_left];omega
  ·have:=Nat.gcd_le_left y h;omega
 show some ((),(mx ((Nat.gcd x y:Nat):Int) (ah (0-((Nat.gcd x y:Nat):Int))),()))=some ((),(((Nat.gcd x y:Nat):Int),()));rw[bh (by omega) (by omega),o5];congr 3;omega⟩
end cZ
end
end Go.Fw
