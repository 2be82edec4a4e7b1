/- The framework: what a symbolic run of the model's code tells, proved sound. Nothing is assumed. -/
import Derived.Test.YtkjnhmjfdfiklaaGreatDoorFwa
import Derived.ArgAppend
import Derived.OrdersHeld
set_option linter.defProp false
set_option linter.unusedVariables false
set_option linter.unusedSectionVars false
set_option linter.unusedSimpArgs false
namespace Go.Fw
open Go.RowKit
def nK:Option St->bD
 |some V=>.ok V
 |none=>.fail
def sj:Operand->Operand->Bool
 |.tmp x,.tmp y=>Nat.beq x y
 |.const (.int k a),.const (.int k' b)=>ma k k'&&decide (a=b)
 |_,_=>false
def pN:Nat->List (Nat×Operand)->Bool
 |_,[]=>true
 |i,(j,_)::r=>Nat.beq i j&&pN (i+1) r
def mo:List ai->Bool
 |[]=>true
 |.undef::_=>false
 |_::cs=>mo cs
def wC(T:bj)(V:St)(t:Nat)(p:SV)(x:SV):bD :=
 match T t,p,x.cells with
 |some i,.c (.box b f),some vs=>cond (Nat.beq vs.length i.zero.length&&mo vs) (nK (Br V b f vs)) .fail
 |some i,.c (.elt r j f),some vs=>cond (Nat.beq vs.length i.zero.length) (match V.row r with
  |some row=>cond (Nat.beq f 0&&(Nat.beq vs.length row.t.nc&&row.deep))
    (match dJ V.row row.t vs with
    |some y=>cond (dL (aH vs)&&!(bF r (aH vs))) (match absorbs (some r) (aH vs) V with
     |some σ1=>.ok { σ1 with row:=au σ1.row r (some { row with xs:=row.xs.set j.toNat y }) }
     |none=>.fail) .fail
    |none=>.fail)
    (match vs with
    |[c]=>match nC row.t (row.xs.getD j.toNat row.t.dflt) f c with
     |some y=>.ok { V with row:=au V.row r (some { row with xs:=row.xs.set j.toNat y }) }
     |none=>.fail
    |_=>.fail)
  |none=>.fail) .fail
 |_,_,_=>.fail
def wD(T:bj)(V:St)(d t len:Nat)(parts:List (Nat×Operand)):bD :=
 match T t with
 |some ti=>match ti.el with
  |some e=>match T e,nD V parts with
   |some ei,some ps=>cond (Nat.beq ps.length len&&(pN 0 parts&&(Nat.beq ei.zero.length ei.ty.nc&&Nat.ble (len*ei.ty.nc) 16777216)))
     (match jX (λi=>some (i*ei.ty.nc,ei.ty.nc)) (List.replicate len ei.zero).flatten ps with
     |some cs =>
      let ccs:=eS ei.ty.nc len cs;match nE V.row ei.ty ccs with
      |some ys=>cond (dL (aH ccs.flatten)&&!(bF (aW d 0) (aH ccs.flatten))) (match absorbs (some (aW d 0)) (aH ccs.flatten) V with
       |some σ1=>match σ1.row (aW d 0)with
        |none=>.ok { slot:=au σ1.slot d (.c (.own (aW d 0))),box:=σ1.box,row:=au σ1.row (aW d 0) (some ⟨e,ei.ty,ys,true,false⟩) }
        |some _=>.fail
       |none=>.fail) .fail
      |none=>match nF ei.ty ccs with
       |some ys=>newRow V d ⟨e,ei.ty,ys,false,false⟩
       |none=>.fail
     |none=>.fail) .fail
   |_,_=>.fail
  |none=>.fail
 |none=>.fail
def wE(T:bj)(V:St)(d t:Nat)(l c:Operand):bD :=
 match T t,pL V l with
 |some ti,some m=>match ti.el with
  |some e=>match T e with
   |some ei=>match dJ (λ_=>none) ei.ty ei.zero with
    |some z=>cond (sj l c&&(Nat.beq ei.zero.length ei.ty.nc&&(Nat.ble ei.bytes 128&&Nat.beq (aH ei.zero).length 0)))
      (.chk (bT 0 m&&decide (m<1099511627776)) (newRow V d ⟨e,ei.ty,List.replicate m.toNat z,true,false⟩)) .fail
    |none=>.fail
   |none=>.fail
  |none=>.fail
 |_,_=>.fail
def pO(V:St)(d r:Nat)(row:ae)(x:ai):bD :=
 let go (σ1:St) (ys:List row.t.den):bD:=.chk (Nat.blt (row.xs.length+ys.length) 1099511627776) (.ok { slot:=au (σ1.mapc (d6 r)).slot d (.c (.own r)),box:=(σ1.mapc (d6 r)).box,row:=au σ1.row r (some { row with xs:=row.xs++ys }) });match x with
 |.nil=>go V []
 |.own q=>match V.row q with
  |some row2=>match dI row2.t row.t row2.xs with
   |some ys=>cond row.t.flat (go V ys) (cond (!(Nat.beq q r)&&(row.deep&&row2.deep)) (match absorb q (some r) V with
    |some σ1=>go σ1 ys
    |none=>.fail) (cond (!row.deep&&!(Nat.beq q r)) (match absorb q none V with
     |some σ1=>go σ1 ys
     |none=>.fail) .fail))
   |none=>.fail
  |none=>.fail
 |.sn _ t' xs p=>match dI t' row.t xs with
  |some ys=>cond row.t.flat (go V ys) (cond (!row.deep&&p.isNone) (go V ys) .fail)
  |none=>.fail
 |.part q lo m=>match V.row q with
  |some row2=>match dI row2.t row.t ((row2.xs.drop lo.toNat).take m.toNat)with
   |some ys=>cond row.t.flat (go V ys) .fail
   |none=>.fail
  |none=>.fail
 |_=>.fail
def nL(V:St)(t:Ty):ai->Bool
 |.own q=>match V.row q with
  |some row=>row.deep
  |none=>true
 |.sn _ _ _ _=>t.flat
 |_=>true
def BL(V:St)(k:IntKind):ai->Option (List Int)
 |.own q=>match V.row q with
  |some row=>dI row.t (.int k) row.xs
  |none=>none
 |.sn _ t xs _=>dI t (.int k) xs
 |_=>none
def wF(V:St)(d e:Nat)(k:IntKind)(xs:List Int)(x:ai):bD:=match BL V k x with
 |some ys=>.chk (Nat.blt 0 ys.length&&Nat.blt (xs.length+ys.length) 1099511627776) (newRow V d ⟨e,.int k,xs++ys,true,false⟩)
 |none=>.fail
def sm(row:ae)(dp:Bool):Option ae:=cond (row.deep&&(!row.t.flat&&!dp)) (match row.xs with
 |[]=>some ⟨row.e,row.t,[],false,row.nilE⟩
 |_::_=>none) none
def wG(T:bj)(V:St)(d t:Nat)(s x:SV):bD :=
 match T t,s,x with
 |some ti,.c s,.c x=>match ti.el with
  |some e=>match T e with
   |some ei=>cond (Nat.ble ei.bytes 128) (match s with
    |.own r=>match V.row r with
     |some row=>cond (Nat.beq row.e e&&Nat.beq ei.zero.length row.t.nc) (match sm row (nL V row.t x)with
      |some row'=>pO { V with row:=au V.row r (some row') } d r row' x
      |none=>pO V d r row x) .fail
     |none=>.fail
    |.nil=>cond (Nat.beq ei.zero.length ei.ty.nc) (match V.row (aW d 0)with
     |none=>pO { V with row:=au V.row (aW d 0) (some ⟨e,ei.ty,[],nL V ei.ty x,true⟩) } d (aW d 0) ⟨e,ei.ty,[],nL V ei.ty x,true⟩ x
     |some _=>.fail) .fail
    |.full _ (.int k) xs _=>cond (Nat.beq ei.zero.length 1) (wF V d e k xs x) .fail
    |_=>.fail) .fail
   |none=>.fail
  |none=>.fail
 |_,_,_=>.fail
def fk(V:St)(d:Option Nat)(s:SV):St:=match d with
 |some d=>V.put d s
 |none=>V
def newMap(V:St)(d t:Nat)(kt:Ty):bD :=
 match V.box d with
 |none=>.ok { slot:=au V.slot d (.c (.mp d)),box:=au V.box d (some (cd+t,[.mset kt []])),row:=V.row }
 |some _=>.fail
def pP(V:St)(ti:TI)(f:(t:Ty)->List t.den->t.den->List t.den)(c:ai):ai->Option St
 |.mp b=>match V.box b with
  |some (te,[.mset t xs])=>cond (gc ti t&&Nat.ble cd te) (match gM t [c]with
   |some y=>some { V with box:=au V.box b (some (te,[.mset t (f t xs y)])) }
   |none=>none) none
  |_=>none
 |_=>none
def so(T:bj)(V:St)(dst:Option Nat)(op:Op):bD :=
 match op,dst with
 |.alloc t,some d=>match T t with
  |some i=>cond (Nat.blt 0 i.zero.length) (newBox V d t i.zero) .fail
  |none=>.fail
 |.box t x,some d=>match T t,(ev V x).cells with
  |some i,some cs=>cond (Nat.beq cs.length i.zero.length&&(Nat.blt 0 cs.length&&mo cs)) (newBox V d t cs) .fail
  |_,_=>.fail
 |.store t p x,none=>wC T V t (ev V p) (ev V x)
 |.makeSlice t l c,some d=>wE T V d t l c
 |.makeMap t none,some d=>match T t with
  |some ti=>match ti.ty with
   |.pair kt _=>cond (gc ti kt) (newMap V d t kt) .fail
   |_=>.fail
  |none=>.fail
 |.mapUpdate t m k v,none=>match T t,ev V m,ev V k,ev V v with
  |some ti,.c u,.c c,.c (.bool true)=>nK (pP V ti (λkt xs y=>j8 kt xs y) c u)
  |_,_,_,_=>.fail
 |.insert t m k v,none=>match T t,ev V m,ev V k,ev V v with
  |some ti,.c u,.c c,.c (.bool true)=>nK (pP V ti (λkt xs y=>j8 kt xs y) c u)
  |_,_,_,_=>.fail
 |.call { callee:=.builtin .delete,args:=args,argTypes:=ts },dst=>match args.toList,ts.toList with
  |[m,k],[t,_]=>match T t,ev V m,ev V k with
   |some ti,.c u,.c c=>match pP V ti (λkt xs y=>sb kt xs y) c u with
    |some V'=>.ok (fk V' dst (.tup []))
    |none=>.fail
   |_,_,_=>.fail
  |_,_=>.fail
 |.buildSlice t len parts,some d=>wD T V d t len parts.toList
 |.call { callee:=.builtin .append,args:=args,argTypes:=ts },some d=>match args.toList,ts.toList with
  |[s,x],[t,t']=>cond (Nat.beq t t') (wG T V d t (ev V s) (ev V x)) .fail
  |_,_=>.fail
 |_,_=>.fail
section
variable {P : Program} {V V' : St} {E : aP} {w : World} {w0 : World} {lab0 : Nat → aC} {oo : Nat → Value} {n : Nat} {a : Act} {T : bj} [DC]
def mq:Op->Bool
 |.makeSlice _ _ _=>true
 |.alloc _=>true
 |.box _ _=>true
 |.buildSlice _ _ _=>true
 |_=>false
def bS.alloc(w:World)(o:Obj):bS w (w.alloc o):=⟨rfl,⟨rfl,λ_=>Nat.le_refl _⟩,rfl,by simp,me o⟩
def Ll(P:Program)(w0:World)(lab0:Nat->aC)(oo:Nat->Value)(n:Nat)(o:Oper)(a:Act)(w:World)(V':St):Prop :=
 (∃v w' E',(execOp a.eval o).run P w=.ok (.value v) w'/\(mq o.op=true->bS w w')/\R w0 lab0 oo n V' E' (a.put o.dst v) w')\/(∃w' E',(execOp a.eval o).run P w=.ok .skip w'/\R w0 lab0 oo n V' E' (a.put o.dst undef) w')
def BM{d te:Nat}{cs:List ai}(h:(Fw.newBox V d te cs).run=some V'):V.box d=none/\V'={ slot:=au V.slot d (.c (.box d 0)),box:=au V.box d (some (te,cs)),row:=V.row }/\te<cd:=by
 unfold Fw.newBox at h;split at h
 ·rename_i hb;cases ht:Nat.blt te cd;·rw[ht]at h;cases h
  ·rw[ht]at h;injection h with h;exact⟨hb,h.symm,by simpa using ht⟩
 ·cases h
def R.iput(h:R w0 lab0 oo n V E a w){d:Option Nat}{s:SV}{v:Value}(hd:∀d',d=some d'->d'<n)(hs:aL V E w s v):R w0 lab0 oo n (fk V d s) E (a.put d v) w:=by
 cases d with
 |none=>exact h
 |some d=>exact h.put (hd d rfl) hs
def Lm{d t:Nat}{kt:Ty}(h:(Fw.newMap V d t kt).run=some V'):V.box d=none/\V'={ slot:=au V.slot d (.c (.mp d)),box:=au V.box d (some (cd+t,[.mset kt []])),row:=V.row }:=by
 unfold Fw.newMap at h;split at h;·rename_i hb;injection h with h;exact⟨hb,h.symm⟩
 ·cases h
def wH{ti:TI}{f:(t:Ty)->List t.den->t.den->List t.den}{c u:ai}(h:pP V ti f c u=some V'):∃b te kt xs y,u=.mp b/\V.box b=some (te,[.mset kt xs])/\gc ti kt=true/\cd<=te/\gM kt [c]=some y /\
  V'={ V with box:=au V.box b (some (te,[.mset kt (f kt xs y)])) }:=by
 unfold pP at h;split at h
 ·split at h
  ·rename_i te kt xs hb;cases hq:(gc ti kt&&Nat.ble cd te);·rw[hq]at h;cases h
   ·rw[hq]at h;simp only[Bool.and_eq_true]at hq;simp only[cond_true]at h;split at h;·rename_i y hy;injection h with h;exact⟨_,te,kt,xs,y,rfl,hb,hq.1,Nat.le_of_ble_eq_true hq.2,hy,h.symm⟩
    ·cases h
  ·cases h
 ·cases h
def wI{d:Nat}{row:ae}(h:(Fw.newRow V d row).run=some V'):V.row (aW d 0)=none/\V'={ slot:=au V.slot d (.c (.own (aW d 0))),box:=V.box,row:=au V.row (aW d 0) (some row) }:=by
 unfold Fw.newRow at h;split at h;·rename_i hb;injection h with h;exact⟨hb,h.symm⟩
 ·cases h
def Ln(h:R w0 lab0 oo n V E a w){l c:Operand}{m:Int}(hl:pL V l=some m)(hs:sj l c=true):∃k,a.eval l=.int k m/\a.eval c=.int k m:=by
 obtain⟨k,hk⟩:=BG h hl;refine⟨k,hk, ?_⟩;unfold sj at hs;split at hs;·have:=Nat.eq_of_beq_eq_true hs;subst this;exact hk
 ·simp only[Bool.and_eq_true,decide_eq_true_eq]at hs;obtain⟨h1,rfl⟩:=hs;have:=rY h1;subst this;exact hk
 ·cases hs
def Lo(hT:be P T)(h:R w0 lab0 oo n V E a w){d t:Nat}{l c:Operand}(hd:d<n)(hr:(wE T V d t l c).run=some V') :
  ∃v w' E',(Instr.makeSlice t (a.eval l) (a.eval c)).run P w=.ok v w'/\bS w w'/\R w0 lab0 oo n V' E' (a.put (some d) v) w':=by
 unfold wE at hr;split at hr
 ·rename_i ti m ht hm;split at hr
  ·rename_i e he;split at hr
   ·rename_i ei hei;split at hr
    ·rename_i z hz;cases hq:(sj l c&&(Nat.beq ei.zero.length ei.ty.nc&&(Nat.ble ei.bytes 128&&Nat.beq (aH ei.zero).length 0)));·rw[hq]at hr;cases hr
     ·rw[hq]at hr;simp only[Bool.and_eq_true]at hq;simp only[cond_true,bD.run]at hr;cases hg:(bT 0 m&&decide (m<1099511627776));·rw[hg]at hr;cases hr
      ·rw[hg]at hr;simp only[Bool.and_eq_true,sh,decide_eq_true_eq]at hg;obtain⟨h1,rfl⟩:=wI hr;obtain⟨k,k1,k2⟩:=Ln h hm hq.1;rw[k1,k2];exact h.make hT ht he hei (Nat.eq_of_beq_eq_true hq.2.1) (Nat.le_of_ble_eq_true hq.2.2.1) hz (List.eq_nil_of_length_eq_zero (Nat.eq_of_beq_eq_true hq.2.2.2)) hg.1 hg.2 k hd h1
    ·cases hr
   ·cases hr
  ·cases hr
 ·cases hr
def BN{s:SV}{cs:List ai}{v:Value}(h:s.cells=some cs)(hs:aL V E w s v)(hb:∀c∈cs,c≠.undef):∀u∈v.cells.toList,u.oneCell'=true:=by
 have hr:=pH h hs;have key:∀{cs:List ai}{us:List Value},ak (am V E w) cs us->(∀c∈cs,c≠.undef)->∀u∈us,u.oneCell'=true:=by
  intro cs;induction cs with
  |nil=>intro us h _ u hu;cases us with
   |nil=>simp at hu
   |cons _ _=>exact h.elim
  |cons c cs ih =>
   intro us h hb u hu;cases us with
   |nil=>exact h.elim
   |cons x us =>
    rcases List.mem_cons.1 hu with rfl|hu
    ·have hc:=h.1;have hne:=hb c (by simp);cases c with
     |undef=>exact absurd rfl hne
     |err b=>exact gK.one hc
     |bor v0 e t xs=>obtain⟨_,A,n,c,hv,_⟩:=hc;injection hv with hv;subst hv;rfl
     |sn e t xs p=>obtain⟨A,n,c,hv,_⟩:=hc;injection hv with hv;subst hv;rfl
     |full e t xs p=>obtain⟨_,A,rfl⟩:=hc;rfl
     |own r=>obtain⟨_,_,A,n,c,rfl⟩:=hc;rfl
     |part r lo n=>obtain⟨row,A,c,_,_,_,_,rfl,_⟩:=hc;rfl
     |box b f=>obtain⟨rfl,_⟩:=hc;rfl
     |elt r i f=>obtain⟨row,g,n,c,_,_,_,_,_,rfl⟩:=hc;rfl
     |selt t x p f=>obtain⟨ad,cs,rfl,_⟩:=hc;rfl
     |fn f caps=>obtain⟨rfl,_⟩:=hc;rfl
     |mp b=>obtain⟨rfl,_⟩:=hc;rfl
     |_=>obtain rfl:u=_:=hc;rfl
    ·exact ih h.2 (λc hc=>hb c (by simp[hc])) u hu
 exact key hr hb
def wJ:∀{cs:List ai},mo cs=true->∀c∈cs,c≠.undef
  |[],_,c,hc=>by simp at hc
  |x::cs,h,c,hc=>by
    cases x<;>first
      |cases h
      | (rcases List.mem_cons.1 hc with rfl|hc
         · exact λe=>by cases e
         · exact wJ (cs:=cs) (by simpa[mo]using h) c hc)
def wK(hT:be P T){t:Nat}{ti:TI}(ht:T t=some ti){v:Value}(hl:v.cells.size=ti.zero.length){g o:Nat}{w':World}(hs:(storeCells ⟨g,o,none⟩ v.cells.toList 0).run P w=.ok () w') :
  (Instr.storeAt t (.pointer (some ⟨g,o,none⟩)) v).run P w=.ok () w':=by
 simp[Instr.storeAt,Instr.sureAddr,storeVar,nG hT ht,hl,hs]
def Lp(hT:be P T)(h:R w0 lab0 oo n V E a w){t:Nat}{p x:SV}{vp vx:Value}(hp:aL V E w p vp)(hx:aL V E w x vx)(hr:(wC T V t p x).run=some V') :
  ∃w' E',(Instr.storeAt t vp vx).run P w=.ok () w'/\R w0 lab0 oo n V' E' a w':=by
 unfold wC at hr;split at hr
 ·rename_i i b f vs ht hvs;cases hq:(Nat.beq vs.length i.zero.length&&mo vs);·rw[hq]at hr;cases hr
  ·rw[hq]at hr;simp only[Bool.and_eq_true]at hq;have hlen:=Nat.eq_of_beq_eq_true hq.1;have hvr:=pH hvs hx;have hone:=BN hvs hx (wJ hq.2);unfold Br at hr;simp only[cond_true]at hr;split at hr
   ·rename_i te cs hb;cases hf:(Nat.blt te cd&&Nat.ble (f+vs.length) cs.length);·rw[hf]at hr;cases hr
    ·rw[hf]at hr;simp only[cond_true,nK,bD.run,Option.some.injEq]at hr;subst hr;simp only[Bool.and_eq_true]at hf;obtain⟨rfl,_⟩:=(show am V E w (.box b f) vp from hp);obtain⟨g1,g2⟩:=h.storeBox (P:=P) hb (by simpa using hf.1) (Nat.le_of_ble_eq_true hf.2) hvr hone;exact⟨_,E,wK hT ht (by rw[<-Array.length_toList,<-hvr.len,hlen]) g1,g2⟩
   ·cases hr
 ·rename_i i r j f vs ht hvs;cases hq:Nat.beq vs.length i.zero.length;·rw[hq]at hr;cases hr
  ·rw[hq]at hr;have hlen:=Nat.eq_of_beq_eq_true hq;have hvr:=pH hvs hx;simp only[cond_true]at hr;split at hr
   ·rename_i row hrow;obtain⟨row',g,m,c,e1,e2,e3,e4,e5,rfl⟩:=(show am V E w (.elt r j f) vp from hp);rw[hrow]at e1;injection e1 with e1;subst e1;have hsz:vx.cells.size=i.zero.length:=by rw[<-Array.length_toList,<-hvr.len,hlen]
    cases hk:(Nat.beq f 0&&(Nat.beq vs.length row.t.nc&&row.deep))
    ·rw[hk]at hr;simp only[cond_false]at hr;split at hr
     ·rename_i c';split at hr;·rename_i y hy;simp only[bD.run,Option.some.injEq]at hr;subst hr;obtain⟨u,hu,hcu⟩:=cv hvr;obtain⟨k1,k2,k3,k4⟩:=wk hy hcu;obtain⟨w',j1,j2⟩:=h.storeElt (P:=P) hrow e2 (i:=j.toNat) (f:=f) (us:=[u]) (y:=y) (by omega) (by simp;omega) (λv hv=>by simp at hv;subst hv;exact k2) k3 k4;rw[<-hu]at j1;exact⟨w',E,wK hT ht hsz j1,j2⟩
      ·cases hr
     ·cases hr
    ·rw[hk]at hr;simp only[cond_true]at hr;simp only[Bool.and_eq_true]at hk;have hf:=Nat.eq_of_beq_eq_true hk.1;subst hf;split at hr
     ·rename_i y hy;cases hn:(dL (aH vs)&&!(bF r (aH vs)));·rw[hn]at hr;cases hr
      ·rw[hn]at hr;simp only[cond_true]at hr;simp only[Bool.and_eq_true,Bool.not_eq_true']at hn;split at hr;·rename_i σ1 hab;simp only[bD.run,Option.some.injEq]at hr;subst hr;obtain⟨w',E',j1,j2⟩:=h.storeEltW (P:=P) hrow hk.2.2 e2 (i:=j.toNat) (by omega) hvr (iW hn.1) (λhm=>by rw[gO.2 hm]at hn;cases hn.2) hy hab;exact⟨w',E',wK hT ht hsz (by rw[Nat.add_zero];exact j1),j2⟩
       ·cases hr
     ·cases hr
   ·cases hr
 ·cases hr
def BO{α β:Type}{Q:α->β->Prop}:∀{as:List (List α)}{bs:List (List β)},ak (ak Q) as bs->ak Q as.flatten bs.flatten
 |[],[],_=>trivial
 |_::_,_::_,h=>h.1.app (BO h.2)
def BP{place:Nat->Option (Nat×Nat)}:∀{ps:List (Nat×List ai)}{cs cs':List ai},jX place cs ps=some cs'->cs'.length=cs.length
 |[],cs,cs',h=>by simp only[jX,Option.some.injEq]at h;subst h;rfl
 | (i,vs)::ps,cs,cs',h=>by
  simp only[jX]at h;split at h
  ·rename_i off sz _;cases hq:(Nat.beq vs.length sz&&Nat.ble (off+vs.length) cs.length);·rw[hq]at h;cases h
   ·rw[hq]at h;simp only[Bool.and_eq_true]at hq;have h2:=Nat.le_of_ble_eq_true hq.2;rw[BP h];simp only[dK,List.length_append,List.length_take,List.length_drop];omega
  ·cases h
def BQ{α:Type}{m:Nat}:∀{k:Nat}{l:List α},(eS m k l).length=k
 |0,_=>rfl
 |k+1,l=>by simp[eS,BQ]
def Lt(hT:be P T)(h:R w0 lab0 oo n V E a w){d t len:Nat}{parts:Array (Nat×Operand)}(hd:d<n)(hr:(wD T V d t len parts.toList).run=some V') :
  ∃v w' E',(Instr.buildSlice t len (parts.map λ(i,x)=>(i,a.eval x))).run P w=.ok v w'/\bS w w'/\R w0 lab0 oo n V' E' (a.put (some d) v) w':=by
 unfold wD at hr;split at hr
 ·rename_i ti ht;split at hr
  ·rename_i e he;split at hr
   ·rename_i ei ps hei hps;cases hq:(Nat.beq ps.length len&&(pN 0 parts.toList&&(Nat.beq ei.zero.length ei.ty.nc&&Nat.ble (len*ei.ty.nc) 16777216)));·rw[hq]at hr;cases hr
    ·rw[hq]at hr;simp only[cond_true]at hr;simp only[Bool.and_eq_true]at hq;have hnc:=Nat.eq_of_beq_eq_true hq.2.2.1;have hle:=Nat.le_of_ble_eq_true hq.2.2.2;obtain⟨inf,dd,z,i1,i2,i3,i4,i5,i6,i7,i8⟩:=fL hT hei;have hz:=(mh (V:=V) (E:=E) (w:=w) i6).1;have hzl:z.cells.size=ei.ty.nc:=by rw[<-Array.length_toList,<-hz.len,hnc]
     have hu:=iV hT ht he;split at hr
     ·rename_i cs hcs;have hzz:ak (am V E w) (List.replicate len ei.zero).flatten (madeCells z.cells (len*z.cells.size)).toList:=by rw[Bw _ _ (by rw[hzl];exact ei.ty.nc_pos)];exact BO (ak.rep hz len)
      obtain⟨arr,k1,k2⟩:=wd hcs (we h hps) hzz;have hcl:cs.length=len*ei.ty.nc:=by rw[BP hcs,j0 (m:=ei.ty.nc) (λc hc=>by rw[(List.mem_replicate.1 hc).2];exact hnc),List.length_replicate]
      have harr:arr.size=len*ei.ty.nc:=by rw[<-Array.length_toList,<-k2.len,hcl]
      have e3:(parts.map λ(i,x)=>(i,a.eval x)).toList=parts.toList.map λq=>(q.1,a.eval q.2):=by simp
      have hrun:(Instr.buildSlice t len (parts.map λ(i,x)=>(i,a.eval x))).run P w=.ok (.slice (some ⟨w.heap.size,0,none⟩) len len) (w.alloc (.cells arr e)):=by
       have hz0:(zeroValue e).run P w=.ok z w:=by simp[zeroValue,typeInfo,i1,i5]
       have hs0:=nG hT hei w;rw[hnc]at hs0;have hn:¬ (2 ^ 24<len*ei.ty.nc):=by omega
       by_cases h0:len*ei.ty.nc=0;·have harr0:arr=#[]:=Array.eq_empty_of_size_eq_zero (by omega);have hm0:(madeCells z.cells (len*z.cells.size))=#[]:=Array.eq_empty_of_size_eq_zero (by rw[size_madeCells,hzl];exact h0);rw[hm0]at k1;simp only[Instr.buildSlice,Sem.run_bind,run_underlying hu,Result.andThen_ok,hs0,Sem.run_ite];simp[h0,e3,k1,Go.newRow,Array.range_zero']
       ·simp only[Instr.buildSlice,Sem.run_bind,run_underlying hu,Result.andThen_ok,hs0,Sem.run_ite];have hm1:(Array.range (len*ei.ty.nc)).map (λx=>z.cells[x%z.cells.size]!)=madeCells z.cells (len*z.cells.size):=by unfold madeCells;rw[hzl]
        simp[h0,hn,hz0,e3,hm1,k1,Go.newRow]
      have hck:ak (ak (am V E w)) (eS ei.ty.nc len cs) (eS ei.ty.nc len arr.toList):=Bu k2;have hlc:(eS ei.ty.nc len cs).length=len:=BQ;have hlen:len<1099511627776:=by have:=ei.ty.nc_pos;have:len*1<=len*ei.ty.nc:=Nat.mul_le_mul_left _ this;omega
      split at hr
      ·rename_i ys hys;cases hn:(dL (aH (eS ei.ty.nc len cs).flatten)&&!(bF (aW d 0) (aH (eS ei.ty.nc len cs).flatten)));·rw[hn]at hr;cases hr
       ·rw[hn]at hr;simp only[cond_true]at hr;simp only[Bool.and_eq_true,Bool.not_eq_true']at hn;split at hr
        ·rename_i σ1 hab;split at hr;·rename_i hfree;simp only[bD.run,Option.some.injEq]at hr;subst hr;obtain⟨E',g⟩:=h.litD (d:=d) (r:=aW d 0) (e:=e) (arr:=arr) hd hys (by rw[hlc];exact hck) (by rw[hlc];exact harr) (by rw[hlc];exact hlen) (iW hn.1) (λhm=>by rw[gO.2 hm]at hn;cases hn.2) hab hfree;rw[hlc]at g;exact⟨_,_,E',hrun,bS.alloc _ _,g⟩
         ·cases hr
        ·cases hr
      ·split at hr;·rename_i ys hys;obtain⟨h1,rfl⟩:=wI hr;obtain⟨E',g⟩:=h.litS (d:=d) (r:=aW d 0) (e:=e) (arr:=arr) hd hys (by rw[hlc];exact hck) (by rw[hlc];exact harr) (by rw[hlc];exact hlen) h1;rw[hlc]at g;exact⟨_,_,E',hrun,bS.alloc _ _,g⟩
       ·cases hr
     ·cases hr
   ·cases hr
  ·cases hr
 ·cases hr
def R.appPut{v':Value}{w':World}{E':aP}{σ1:St}{d r:Nat}{row':ae}(hd:d<n)(hv:∃A m c,v'=Value.slice A m c)(he:v'=E'.rv r)
  (g:R w0 lab0 oo n { (σ1.mapc (d6 r))with row:=au σ1.row r (some row') } E' a w') :
  R w0 lab0 oo n { slot:=au (σ1.mapc (d6 r)).slot d (.c (.own r)),box:=(σ1.mapc (d6 r)).box,row:=au σ1.row r (some row') } E' (a.put (some d) v') w' :=
 g.put hd (s:=.c (.own r)) ⟨he,by show(au σ1.row r (some row') r).isSome=true;rw[a6];rfl,hv⟩
def kT{c:Bool}{o:bD}(h:(bD.chk c o).run=some V'):c=true/\o.run=some V':=by
 cases c;·cases h
 ·exact⟨rfl,h⟩
def BR(h:R w0 lab0 oo n V E a w){r:Nat}{lo m:Int}{row:ae}{u:Value}(hr:V.row r=some row)(hc:am V E w (.part r lo m) u){S:Nat->Prop}(hS:∀k,dM E.lab r k\/E.lab k=.st->S k) :
  Rd w S (.sl row.e row.t) [u] ((row.xs.drop lo.toNat).take m.toNat):=by
 obtain⟨row',A,c,e1,e2,e3,e4,rfl,e6,e7,e8⟩:=hc;rw[hr]at e1;injection e1 with e1;subst e1;have hrd:Rd w S (.sl row.e row.t) [E.rv r] row.xs:=(h.rows r row hr).rd (λk hk=>hS k (.inl (.inl hk))) (λk hk=>by
  cases hd:row.deep;·rw[hd]at hk;exact hS k (.inr hk)
  ·rw[hd]at hk;exact hS k (.inl (.inr hk)))
 have hlen:((row.xs.drop lo.toNat).take m.toNat).length=m.toNat:=by rw[List.length_take,List.length_drop];omega
 refine⟨A,m.toNat,c,rfl,hlen,e6,e7, ?_⟩;by_cases hm:m.toNat=0;·exact .inl hm
 ·obtain⟨g,q,d,k1,rfl⟩:=e8 (by omega);obtain⟨A',n',c',j1,j2,j3,j4,j5⟩:=hrd;rw[k1]at j1;injection j1 with j1;injection j1 with i1 i2 i3;rcases j5 with h0|⟨ad,css,k2,k3,k4,k5⟩;·omega
  ·rw[<-i1]at k2;injection k2 with k2;subst k2;refine .inr ⟨_,(css.drop lo.toNat).take m.toNat,rfl,k3,(k4.drop _).take _,λi u hu=>?_⟩;have hcl:∀c∈css,c.length=row.t.nc:=ak.fst (λ_ _ h=>h.len) k4;have hfl:∀(css:List (List Value)) (j:Nat),(∀c∈css,c.length=row.t.nc)->(css.drop j).flatten=css.flatten.drop (j*row.t.nc):=by
    intro css j;induction css generalizing j with
    |nil=>intro _;simp
    |cons c css ih =>
     intro hc;cases j with
     |zero=>simp
     |succ j =>rw[List.drop_succ_cons,ih j λc hc'=>hc c (List.mem_cons_of_mem _ hc'),List.flatten_cons,Nat.succ_mul,Nat.add_comm,List.drop_append,hc c List.mem_cons_self];simp[hc c List.mem_cons_self]
   have hpre:((css.drop lo.toNat).take m.toNat).flatten[i]? = some u->css.flatten[lo.toNat*row.t.nc+i]? = some u:=by
    intro hu;have h1:(css.drop lo.toNat).flatten=((css.drop lo.toNat).take m.toNat).flatten++((css.drop lo.toNat).drop m.toNat).flatten:=by rw[<-List.flatten_append,List.take_append_drop]
    have h2:(css.drop lo.toNat).flatten[i]? = some u:=by rw[h1,List.getElem?_append_left (List.getElem?_eq_some_iff.1 hu).1];exact hu
    rw[hfl css lo.toNat hcl,List.getElem?_drop]at h2;exact h2
   have:=k5 _ _ (hpre hu);rw[add_lit]at this ⊢;simpa using this
def wL(hT:be P T)(h:R w0 lab0 oo n V E a w){d t r:Nat}{ti ei:TI}{row:ae}{x:ai}{vx:Value}(hd:d<n)(hrow:V.row r=some row)(ht:T t=some ti)(he:ti.el=some row.e)(hei:T row.e=some ei)(hnc:ei.zero.length=row.t.nc)(hbytes:ei.bytes<=128)
  (hx:am V E w x vx) (hr:(pO V d r row x).run=some V') (ty:TypeId) :
  ∃v w' E',(Builtin.append_ #[t,t] ty #[E.rv r,vx]).run P w=.ok v w'/\R w0 lab0 oo n V' E' (a.put (some d) v) w':=by
 unfold pO at hr;split at hr
 ·obtain⟨hc,hr⟩:=kT hr;simp only[bD.run,Option.some.injEq]at hr;subst hr;obtain rfl:vx=_:=hx;have hlen:row.xs.length+([]:List row.t.den).length<1099511627776:=by simpa using hc
  obtain⟨v',w',E',k1,k2,k3,k4⟩:=h.append hT hrow ht he hei hnc hbytes (A:=none) (k:=0) (c:=0) (css2:=[]) (ys:=[]) rfl (.inl rfl) (by
   unfold r9;cases row.deep;·exact trivial
   ·exact⟨[],trivial,List.nodup_nil,λk hk=>by simp at hk⟩) (λ_ Ls css k1 k2 k3 _=>⟨[],trivial,by simpa using k2,λk hk=>by simp at hk⟩) hlen ty
  exact⟨v',w',E',k1,R.appPut hd k2 k3 k4⟩
 ·rename_i q;obtain⟨rfl,_⟩:=hx;split at hr
  ·rename_i row2 hrow2;split at hr
   ·rename_i ys hys;obtain⟨htt,hys'⟩:=gQ hys;cases hf:row.t.flat
    ·rw[hf]at hr;simp only[cond_false]at hr;cases hq:(!(Nat.beq q r)&&(row.deep&&row2.deep))
     ·rw[hq]at hr;simp only[cond_false]at hr;cases hq2:(!row.deep&&!(Nat.beq q r));·rw[hq2]at hr;cases hr
      ·rw[hq2]at hr;simp only[cond_true]at hr;simp only[Bool.and_eq_true,Bool.not_eq_true']at hq2;split at hr
       ·rename_i σ1 hab;obtain⟨hc,hr⟩:=kT hr;simp only[bD.run,Option.some.injEq]at hr;subst hr;have hne:q≠r:=λe=>by rw[e,jy]at hq2;cases hq2.2
        obtain⟨G,row2',hq',_,hσ1⟩:=h.absorb hab;have hr1:σ1.row r=some row:=by rw[hσ1];exact(bi _ _ (Ne.symm hne)).trans hrow
        obtain⟨e2,t2,xs2,dp2,nl2⟩:=row2;have htt':t2=row.t:=htt;subst htt';have hys2:xs2=ys:=hys';subst hys2;have hrd:=(h.rows q _ hrow2).rd (S:=λk=>dc E.lab q none k=.st) (λk hk=>jY (.inl hk)) (λk hk=>by
         cases dp2;·have hk':E.lab k=.st:=hk;exact(gN (by rw[hk'];simp) (by rw[hk'];simp)).trans hk'
         ·exact jY (.inr hk))
        obtain⟨A,k,c,css,hv,hs⟩:=fM.of_rd (lab:=dc E.lab q none) hrd;have hs':fM w (dc E.lab q none) row.e row.t xs2 (λk=>dc E.lab q none k=.st) A k css:=⟨hs.len,hs.cells,hs.rd⟩;obtain⟨v',w',E',k1,k2,k3,k4⟩:=G.appendShallow (E:={ E with lab:=dc E.lab q none }) hT hr1 hq2.1 ht he hei hnc hbytes (c:=c) hs' (by simpa using hc) ty;rw[hv];exact⟨v',w',E',k1,R.appPut hd k2 k3 k4⟩
       ·cases hr
     ·rw[hq]at hr;simp only[cond_true]at hr;simp only[Bool.and_eq_true,Bool.not_eq_true']at hq;split at hr
      ·rename_i σ1 hab;obtain⟨hc,hr⟩:=kT hr;simp only[bD.run,Option.some.injEq]at hr;subst hr;have hne:q≠r:=λe=>by rw[e,jy]at hq;cases hq.1
       obtain⟨v',w',E',k1,k2,k3,k4⟩:=h.appendDeep hT hne hrow hrow2 hq.2.1 hq.2.2 ht he hei hnc hbytes htt hys' hab (by simpa using hc) ty;exact⟨v',w',E',k1,R.appPut hd k2 k3 k4⟩
      ·cases hr
    ·rw[hf]at hr;simp only[cond_true]at hr;obtain⟨hc,hr⟩:=kT hr;simp only[bD.run,Option.some.injEq]at hr;subst hr;obtain⟨e2,t2,xs2,dp2,nl2⟩:=row2;have htt':t2=row.t:=htt;subst htt';have hys2:xs2=ys:=hys';subst hys2;have hrd:=(h.rows q _ hrow2).rd (S:=λ_=>True) (λk hk=>trivial) (λk hk=>trivial);obtain⟨A,k,c,css,hv,hs⟩:=fM.of_rd (lab:=E.lab) hrd;have hs':fM w E.lab row.e row.t xs2 (λ_=>True) A k css:=⟨hs.len,hs.cells,hs.rd⟩;obtain⟨v',w',E',k1,k2,k3,k4⟩:=h.appendFlat hT hrow ht he hei hnc hbytes hf (c:=c) hs' (by simpa using hc) ty;rw[hv];exact⟨v',w',E',k1,R.appPut hd k2 k3 k4⟩
   ·cases hr
  ·cases hr
 ·rename_i e' t' xs p;split at hr
  ·rename_i ys hys;obtain⟨htt,hys'⟩:=gQ hys;subst htt;have hys2:xs=ys:=hys';subst hys2;cases hf:row.t.flat
   ·rw[hf]at hr;simp only[cond_false]at hr;cases hq:(!row.deep&&p.isNone);·rw[hq]at hr;cases hr
    ·rw[hq]at hr;simp only[cond_true]at hr;simp only[Bool.and_eq_true,Bool.not_eq_true',Option.isNone_iff_eq_none]at hq;obtain⟨hq1,rfl⟩:=hq;obtain⟨hc,hr⟩:=kT hr;simp only[bD.run,Option.some.injEq]at hr;subst hr;obtain⟨A,k,c,css,rfl,hs⟩:=fM.of_rd (lab:=E.lab) (show Rd w (λk=>E.lab k=.st) (.sl e' row.t) [vx] xs from hx);obtain⟨v',w',E',k1,k2,k3,k4⟩:=h.appendShallow hT hrow hq1 ht he hei hnc hbytes (c:=c) ⟨hs.len,hs.cells,hs.rd⟩ (by simpa using hc) ty;exact⟨v',w',E',k1,R.appPut hd k2 k3 k4⟩
   ·rw[hf]at hr;simp only[cond_true]at hr;obtain⟨hc,hr⟩:=kT hr;simp only[bD.run,Option.some.injEq]at hr;subst hr;obtain⟨A,k,c,css,rfl,hs⟩:=fM.of_rd (lab:=E.lab) (show Rd w (λk=>E.lab k=bB p) (.sl e' row.t) [vx] xs from hx);obtain⟨v',w',E',k1,k2,k3,k4⟩:=h.appendFlat hT hrow ht he hei hnc hbytes hf (c:=c) ⟨hs.len,hs.cells,hs.rd⟩ (by simpa using hc) ty;exact⟨v',w',E',k1,R.appPut hd k2 k3 k4⟩
  ·cases hr
 ·rename_i q lo m;split at hr
  ·rename_i row2 hrow2;split at hr
   ·rename_i ys hys;obtain⟨htt,hys'⟩:=gQ hys;cases hf:row.t.flat;·rw[hf]at hr;cases hr
    ·rw[hf]at hr;simp only[cond_true]at hr;obtain⟨hc,hr⟩:=kT hr;simp only[bD.run,Option.some.injEq]at hr;subst hr;have hrd:=BR h hrow2 hx (S:=λ_=>True) (λk hk=>trivial);obtain⟨e2,t2,xs2,dp2,nl2⟩:=row2;have htt':t2=row.t:=htt;subst htt';have hys2:(xs2.drop lo.toNat).take m.toNat=ys:=hys';subst hys2;obtain⟨A,k,c,css,hv,hs⟩:=fM.of_rd (lab:=E.lab) hrd;have hs':fM w E.lab row.e row.t ((xs2.drop lo.toNat).take m.toNat) (λ_=>True) A k css:=⟨hs.len,hs.cells,hs.rd⟩;obtain⟨v',w',E',k1,k2,k3,k4⟩:=h.appendFlat hT hrow ht he hei hnc hbytes hf (c:=c) hs' (by simpa using hc) ty;rw[hv];exact⟨v',w',E',k1,R.appPut hd k2 k3 k4⟩
   ·cases hr
  ·cases hr
 ·cases hr
def Lu{kk:IntKind}(zs:List Int):(zs.map λz=>[Value.int kk z]).flatten=zs.map (Value.int kk):=by
 induction zs with
 |nil=>rfl
 |cons a l ih=>simp[ih]
def R.grownInts(h:R w0 lab0 oo n V E a w){d r e:Nat}{kk:IntKind}{zs:List Int}{v':Value}{w':World}(hd:d<n)(hfree:V.row r=none)(ho:w'.ownsRow w.heap.size e 1 v' zs.length (zs.map (Value.int kk)))(hg:w.grownBy w' none)(hdr:w.drawn<=w'.drawn) :
  ∃E',R w0 lab0 oo n { slot:=au V.slot d (.c (.own r)),box:=V.box,row:=au V.row r (some ⟨e,.int kk,zs,true,false⟩) } E' (a.put (some d) v') w':=by
 let E':aP:={ lab:=λq=>if v'.ownBlock=some q then .row r else E.lab q,rv:=au E.rv r v',bb:=E.bb };let row:ae:=⟨e,.int kk,zs,true,false⟩;let σ1:St:={ slot:=V.slot,box:=V.box,row:=au V.row r (some row) };have hnew:∀k,v'.ownBlock=some k->w.heap.size<=k:=λk hk=>by
  rcases ho.2 with⟨rfl,_⟩|⟨g,cap,cur,rfl,hb,_⟩;·cases hk
  ·injection hk with hk;subst hk;exact hb
 have hb:∀k,k<w.heap.size->w'.heap[k]? = w.heap[k]?/\E'.lab k=E.lab k:=λk hk=>⟨hg.block k hk (by simp),if_neg λe=>by have:=hnew k e;omega⟩;have ho0:w'.ownsRow 0 e 1 v' zs.length (zs.map (Value.int kk)):=⟨ho.1,ho.2.imp id λ⟨g,cap,cur,h1,h2,h3⟩=>⟨g,cap,cur,h1,Nat.zero_le _,h3⟩⟩;have hall:∀l:List Int,aR (λ(l:List Nat) (c:List Value) (y:Int)=>aB w' (.int kk) l c y) (l.map λ_=>[]) (l.map λy=>[Value.int kk y]) l:=by
  intro l;induction l with
  |nil=>trivial
  |cons a l ih=>exact⟨⟨rfl,rfl⟩,ih⟩
 have hz:∀l:List Int,(l.map λ_=>([]:List Nat)).flatten=[]:=λl=>by induction l with
  |nil=>rfl
  |cons a l ih=>simp[ih]
 have g:R w0 lab0 oo n σ1 E' a w':=by
  refine h.grow (E':=E') hb ⟨hg.os,⟨hg.tape,λ_=>hdr⟩,hg.output⟩ hg.size rfl (λq row' hq=>?_) (λq row' hq=>?_) (λb te' cs' hq=>.inl ⟨hq,rfl⟩) (λ_ _ h=>h)
  ·by_cases e:q=r;·subst e;rw[show σ1.row q=some row from a6 _ _ _]at hq;injection hq with hq;subst hq;refine .inr ⟨hfree, ?_⟩;show bZ _ _ _ _ (au E.rv q v' q);rw[a6];refine⟨zs.map (λz=>[Value.int kk z]), ?_,λk hk=>if_pos hk,⟨zs.map λ_=>[],hall zs,by rw[hz];exact List.nodup_nil,λk hk=>by rw[hz]at hk;cases hk⟩,λh=>by cases h⟩;rw[Lu];exact ho0
   ·exact .inl ⟨(bi _ _ e).symm.trans hq,bi _ _ e⟩
  ·have hne:q≠r:=λe=>by rw[e,hfree]at hq;cases hq
   exact(bi _ _ hne).trans hq
 refine⟨E',g.put hd (s:=.c (.own r)) ⟨?_, ?_, ?_⟩⟩;·show _=au E.rv r v' r;rw[a6]
 ·show(au V.row r (some row) r).isSome=true;rw[a6];rfl
 ·obtain⟨A,c,e,_⟩:=iu ho;exact⟨A,_,c,e⟩
def wM{kk:IntKind}{S:Nat->Prop}:∀{css:List (List Value)}{xs:List Int},ak (λc (y:Int)=>Rd w S (.int kk) c y) css xs->css.flatten=xs.map (Value.int kk)
 |[],[],_=>rfl
 |c::css,x::xs,h=>by obtain⟨h1,h2⟩:=h;have h1:c=[.int kk x]:=h1;rw[List.flatten_cons,h1,wM h2];rfl
 |[],_::_,h=>h.elim
 |_::_,[],h=>h.elim
def Lv(hT:be P T)(h:R w0 lab0 oo n V E a w){d t e e':Nat}{ti ei:TI}{k:IntKind}{xs:List Int}{p:Option Nat}{x:ai}{vs vx:Value}(hd:d<n)(ht:T t=some ti)(he:ti.el=some e)(hei:T e=some ei)(hnc:ei.zero.length=1)(hbytes:ei.bytes<=128)
  (hs:am V E w (.full e' (.int k) xs p) vs) (hx:am V E w x vx) (hr:(wF V d e k xs x).run=some V') (ty:TypeId):∃v w' E',(Builtin.append_ #[t,t] ty #[vs,vx]).run P w=.ok v w'/\R w0 lab0 oo n V' E' (a.put (some d) v) w':=by
 unfold wF at hr;split at hr
 ·rename_i ys hys;obtain⟨hc,hr⟩:=kT hr;obtain⟨hfree,rfl⟩:=wI hr;simp only[Bool.and_eq_true,Nat.blt_eq]at hc;obtain⟨A2,k2,c2,css2,rfl,hs2⟩:∃A2 k2 c2 css2,vx=.slice A2 k2 c2/\fM w E.lab e (.int k) (ys:List Int) (λ_=>True) A2 k2 css2:=by
   unfold BL at hys;split at hys
   ·rename_i q;split at hys;·rename_i row2 hrow2;obtain⟨htt,hys'⟩:=gQ hys;obtain⟨e2,t2,xs2,dp2,nl2⟩:=row2;have htt':t2=.int k:=htt;subst htt';have hys2:xs2=ys:=hys';subst hys2;obtain⟨rfl,_⟩:=hx;have hrd:=(h.rows q _ hrow2).rd (S:=λ_=>True) (λk hk=>trivial) (λk hk=>trivial);obtain⟨A,m,c,css,hv,hs⟩:=fM.of_rd (lab:=E.lab) hrd;exact⟨A,m,c,css,hv,⟨hs.len,hs.cells,hs.rd⟩⟩
    ·cases hys
   ·rename_i e2 t2 xs2 p2;obtain⟨htt,hys'⟩:=gQ hys;subst htt;have hys2:xs2=ys:=hys';subst hys2;obtain⟨A,m,c,css,hv,hs⟩:=fM.of_rd (lab:=E.lab) (Rd.mono (S':=λ_=>True) (λ_ _=>trivial) (show Rd w (λk=>E.lab k=bB p2) (.sl e2 (.int k)) [vx] xs2 from hx));exact⟨A,m,c,css,hv,⟨hs.len,hs.cells,hs.rd⟩⟩
   ·cases hys
  obtain⟨hrd,A0,hv0⟩:=hs;obtain⟨A1,k1,c1,css1,hv1,hs1⟩:=fM.of_rd (lab:=E.lab) hrd;rw[hv0]at hv1;injection hv1 with q1 q2 q3;subst q1 q2 q3;have f1:=wM hs1.rd;have f2:=wM hs2.rd;have l2:ys.length=k2:=hs2.len;subst l2;obtain⟨inf,dd,z,i1,i2,i3,i4,i5,i6,i7,i8⟩:=fL hT hei;have hu:=iV hT ht he;have hz:=mh (V:=V) (E:=E) (w:=w) i6;have hzc:z.cells.size=1:=by rw[<-Array.length_toList,<-hz.1.len,hnc]
  obtain⟨a2,rfl,hc2⟩:∃a2,A2=some a2/\∀(j:Nat) (u:Value),(ys.map (Value.int k))[j]? = some u->w.cell? (a2.add j)=some u:=by
   rcases hs2.cells with h0|⟨ad,h1,h2⟩;·omega
   ·exact⟨ad,h1,by rw[<-f2];exact h2⟩
  have hbnd:(xs.length+ys.length)*ei.bytes<=140737488355328:=by have:(xs.length+ys.length)*ei.bytes<=1099511627776*128:=Nat.mul_le_mul (by omega) hbytes;omega
  have h63:xs.length+ys.length<=maxLen:=by simp only[maxLen];omega
  have one:∀u∈ys.map (Value.int k),u.oneCell'=true:=λu hu=>by obtain⟨z,_,rfl⟩:=List.mem_map.1 hu;rfl
  have fin:∀{v':Value}{w':World},(Builtin.append_ #[t,t] ty #[vs,.slice (some a2) ys.length c2]).run P w=.ok v' w'->w'.ownsRow w.heap.size e 1 v' (xs.length+ys.length) (xs.map (Value.int k)++ys.map (Value.int k))->w.grownBy w' none ->
    ∃v w' E',(Builtin.append_ #[t,t] ty #[vs,.slice (some a2) ys.length c2]).run P w=.ok v w'/\R w0 lab0 oo n { slot:=au V.slot d (.c (.own (aW d 0))),box:=V.box,row:=au V.row (aW d 0) (some ⟨e,.int k,xs++ys,true,false⟩) } E' (a.put (some d) v) w':=by
   intro v' w' r1 r2 r3;obtain⟨E',hR⟩:=h.grownInts (kk:=k) (zs:=xs++ys) hd hfree (by rw[List.length_append,List.map_append];exact r2) r3 (fD _ r1);exact⟨v',w',E',r1,hR⟩
  by_cases hx0:xs.length=0
  ·have hxn:xs=[]:=List.eq_nil_of_length_eq_zero hx0;subst hxn;cases A0 with
   |none =>have hvn:vs=.slice none 0 0:=hv0;obtain⟨v',w',r1,r2,r3,_⟩:=run_append_own_at (P:=P) w w.heap.size t ty e inf z 1 ei.bytes hu i1 i5 (i3.trans hnc) i4 hzc Nat.one_pos (.slice none 0 0) 0 [] (World.ownsRow_nil w _ e 1) a2 ys.length c2 (ys.map (Value.int k)) (by simp) hc2 one (by simpa using h63) (by simpa using hbnd) (Nat.le_refl _);rw[<-hvn]at r1;exact fin r1 (by simpa using r2) (by simpa[Value.ownBlock]using r3)
   |some b =>obtain⟨v',w',r1,r2,r3⟩:=run_append_arg_grows (P:=P) (w:=w) t ty e inf z 1 ei.bytes hu i1 i5 (i3.trans hnc) i4 hzc Nat.one_pos b 0 0 [] (by simp) (λj u hj=>by simp at hj) a2 ys.length c2 (ys.map (Value.int k)) (by simp) hc2 (by omega) (by simpa using h63) (by simpa using hbnd);have hvs:vs=.slice (some b) 0 0:=hv0;rw[<-hvs]at r1;exact fin r1 (by simpa using r2) r3
  ·obtain⟨b,rfl,hc1⟩:∃b,A0=some b/\∀(j:Nat) (u:Value),(xs.map (Value.int k))[j]? = some u->w.cell? (b.add j)=some u:=by
    rcases hs1.cells with h0|⟨ad,h1,h2⟩;·exact absurd h0 hx0
    ·exact⟨ad,h1,by rw[<-f1];exact h2⟩
   obtain⟨v',w',r1,r2,r3⟩:=run_append_arg_grows (P:=P) (w:=w) t ty e inf z 1 ei.bytes hu i1 i5 (i3.trans hnc) i4 hzc Nat.one_pos b xs.length xs.length (xs.map (Value.int k)) (by simp) hc1 a2 ys.length c2 (ys.map (Value.int k)) (by simp) hc2 (by omega) h63 hbnd;rw[<-hv0]at r1;exact fin r1 r2 r3
 ·cases hr
def cI.rowTo{r:Nat}{row row':ae}(hrow:V.row r=some row)(ht:row'.t.nc=row.t.nc)(hl:row.xs.length<=row'.xs.length):cI V E w { V with row:=au V.row r (some row') } E w :=
 ⟨λq row2 hq=>by
  by_cases e:q=r;·subst e;rw[hrow]at hq;injection hq with hq;subst hq;exact⟨row',a6 _ _ _,rfl,ht,hl⟩
  ·exact⟨row2,(bi _ _ e).trans hq,rfl,rfl,Nat.le_refl _⟩,λb te cs hb=>⟨te,cs,hb,rfl,rfl⟩,λ_ _ _ h1 h2=>⟨h1,h2⟩,λ_ _ _ _ h=>h⟩
def R.shal(h:R w0 lab0 oo n V E a w){r:Nat}{row row':ae}{dp:Bool}(hrow:V.row r=some row)(hsh:sm row dp=some row') :
  row'.e=row.e/\row'.t.nc=row.t.nc/\row.xs.length<=row'.xs.length/\R w0 lab0 oo n { V with row:=au V.row r (some row') } E a w:=by
 obtain⟨e,t,xs,deep,nilE⟩:=row;unfold sm at hsh;cases hc:(deep&&(!t.flat&&!dp));·simp only[hc]at hsh;cases hsh
 ·simp only[hc]at hsh;cases xs with
  |cons y ys=>cases hsh
  |nil =>
   injection hsh with hsh;subst hsh;have m:cI V E w { V with row:=au V.row r (some ⟨e,t,[],false,nilE⟩) } E w:=cI.rowTo hrow rfl (Nat.le_refl _);refine⟨rfl,rfl,Nat.le_refl _,⟨h.bound,h.size,h.defers,λs=>(h.slots s).move m,λb te cs hb=>?_,λq row2 hq=>?_,h.same⟩⟩;·obtain⟨arr,h1,h2,h3,h4⟩:=h.boxes b te cs hb;exact⟨arr,h1,h2,h3.imp λ_ _ h=>h.move m,h4⟩
   ·by_cases eq:q=r
    ·subst eq;have hq':au V.row q (some (⟨e,t,[],false,nilE⟩:ae)) q=some row2:=hq;rw[a6]at hq';injection hq' with hq';subst hq';obtain⟨css,k1,k2,k3,k4⟩:=h.rows q _ hrow;refine⟨css,k1,k2, ?_,k4⟩;simp only[Bool.and_eq_true]at hc;obtain⟨hdeep,_⟩:=hc;subst hdeep;obtain⟨Ls,j1,_⟩:=k3;cases css with
     |nil=>exact trivial
     |cons c cs=>exact absurd j1.len2 (by simp)
    ·have hq':au V.row r (some (⟨e,t,[],false,nilE⟩:ae)) q=some row2:=hq;rw[bi _ _ eq]at hq';exact h.rows q row2 hq'
def Lw(hT:be P T)(h:R w0 lab0 oo n V E a w){d t:Nat}{s x:SV}{vs vx:Value}(hd:d<n)(hs:aL V E w s vs)(hx:aL V E w x vx)(hr:(wG T V d t s x).run=some V')(ty:TypeId) :
  ∃v w' E',(Builtin.append_ #[t,t] ty #[vs,vx]).run P w=.ok v w'/\R w0 lab0 oo n V' E' (a.put (some d) v) w':=by
 unfold wG at hr;split at hr
 ·rename_i ti s x ht;split at hr
  ·rename_i e he;split at hr
   ·rename_i ei hei;cases hb:Nat.ble ei.bytes 128;·rw[hb]at hr;cases hr
    ·rw[hb]at hr;have hbytes:=Nat.le_of_ble_eq_true hb;simp only[cond_true]at hr;split at hr
     ·rename_i r;split at hr
      ·rename_i row hrow;cases hq:(Nat.beq row.e e&&Nat.beq ei.zero.length row.t.nc);·rw[hq]at hr;cases hr
       ·rw[hq]at hr;simp only[Bool.and_eq_true]at hq;obtain rfl:=Nat.eq_of_beq_eq_true hq.1;obtain⟨rfl,_⟩:=hs.c_inv;split at hr;·rename_i row' hsh;obtain⟨h1,h2,h3,hR⟩:=h.shal hrow hsh;have hx':am { V with row:=au V.row r (some row') } E w x vx:=hx.c_inv.move (cI.rowTo hrow h2 h3);have:=wL (ei:=ei) hT hR hd (a6 _ _ _) ht (by rw[h1];exact he) (by rw[h1];exact hei) (by rw[h2];exact Nat.eq_of_beq_eq_true hq.2) hbytes hx' hr ty;exact this
        ·exact wL hT h hd hrow ht he hei (Nat.eq_of_beq_eq_true hq.2) hbytes hx.c_inv hr ty
      ·cases hr
     ·cases hq:Nat.beq ei.zero.length ei.ty.nc;·rw[hq]at hr;cases hr
      ·rw[hq]at hr;simp only[cond_true]at hr;split at hr
       ·rename_i hfree;have G:=h.nilRow (r:=aW d 0) (e:=e) (t:=ei.ty) (deep:=nL V ei.ty x) hfree;obtain rfl:vs=_:=hs.c_inv;have hx':am { V with row:=au V.row (aW d 0) (some ⟨e,ei.ty,[],nL V ei.ty x,true⟩) } { E with rv:=au E.rv (aW d 0) (.slice none 0 0) } w x vx:=by
         refine am.move (V:=V) (E:=E) (w:=w) (cI.grow (V:=V) (E:=E) (w:=w) (V':={ V with row:=au V.row (aW d 0) (some ⟨e,ei.ty,[],nL V ei.ty x,true⟩) }) (E':={ E with rv:=au E.rv (aW d 0) (.slice none 0 0) }) (w':=w) (λk hk=>⟨rfl,rfl⟩) (λr row hr=>?_) (λb te cs hb=>⟨te,cs,hb,rfl,rfl⟩)) hx.c_inv;have hne:r≠aW d 0:=λe=>by rw[e,hfree]at hr;cases hr
         exact⟨row,(bi _ _ hne).trans hr,bi _ _ hne,rfl,Nat.le_refl _⟩
        have:=wL (ei:=ei) hT G hd (a6 _ _ _) ht he hei (Nat.eq_of_beq_eq_true hq) hbytes hx' hr ty;rwa [show({ E with rv:=au E.rv (aW d 0) (.slice none 0 0) }:aP).rv (aW d 0)=.slice none 0 0 from a6 _ _ _]at this
       ·cases hr
     ·cases hq:Nat.beq ei.zero.length 1;·rw[hq]at hr;cases hr
      ·rw[hq]at hr;exact Lv hT h hd ht he hei (Nat.eq_of_beq_eq_true hq) hbytes hs.c_inv hx.c_inv hr ty
     ·cases hr
   ·cases hr
  ·cases hr
 ·cases hr
def Lx(hT:be P T)(h:R w0 lab0 oo n V E a w){o:Oper}(hd:∀d,o.dst=some d->d<n)(hr:(so T V o.dst o.op).run=some V'):Ll P w0 lab0 oo n o a w V':=by
 obtain⟨dst,op,oty,pos,after,guard⟩:=o;simp only at hd hr;unfold so at hr;split at hr
 ·rename_i t d;split at hr
  ·rename_i i ht;cases hq:Nat.blt 0 i.zero.length;·rw[hq]at hr;cases hr
   ·rw[hq]at hr;obtain⟨h1,rfl,hte⟩:=BM hr;obtain⟨inf,dd,z,i1,i2,i3,i4,i5,i6,i7,i8⟩:=fL hT ht;obtain⟨hz,hz1⟩:=mh (V:=V) (E:=E) (w:=w) i6;obtain⟨E',g⟩:=h.newBox (d:=d) (te:=t) (arr:=z.cells) hte (hd d rfl) h1 hz hz1 (by simpa using hq);refine .inl ⟨_,_,E', ?_,(λhq=>bS.alloc _ _),g⟩;have hz0:(zeroValue t).run P w=.ok z w:=by simp[zeroValue,typeInfo,i1,i5]
    simp[execOp,Instr.alloc,hz0,newVar,Go.newRow]
  ·cases hr
 ·rename_i t x d;split at hr
  ·rename_i i cs ht hcs;cases hq:(Nat.beq cs.length i.zero.length&&(Nat.blt 0 cs.length&&mo cs));·rw[hq]at hr;cases hr
   ·rw[hq]at hr;simp only[Bool.and_eq_true]at hq;obtain⟨h1,rfl,hte⟩:=BM hr;have hx:=bm h x;obtain⟨E',g⟩:=h.newBox (d:=d) (te:=t) (arr:=(a.eval x).cells) hte (hd d rfl) h1 (pH hcs hx) (BN hcs hx (wJ hq.2.2)) (by simpa using hq.2.1);refine .inl ⟨_,_,E', ?_,(λhq=>bS.alloc _ _),g⟩;simp[execOp,Instr.box,newVar,Go.newRow]
  ·cases hr
 ·rename_i t p x;obtain⟨w',E',g1,g2⟩:=Lp hT h (bm h p) (bm h x) hr;refine .inr ⟨w',E', ?_,g2⟩;simp[execOp,g1]
 ·rename_i t l c d;obtain⟨v,w',E',g1,gx,g2⟩:=Lo hT h (hd d rfl) hr;refine .inl ⟨v,w',E', ?_,λ_=>gx,g2⟩;simp[execOp,g1]
 ·rename_i t d;split at hr
  ·rename_i ti ht;split at hr
   ·rename_i kt _ hty;cases hq:gc ti kt;·rw[hq]at hr;cases hr
    ·rw[hq]at hr;obtain⟨h1,rfl⟩:=Lm hr;obtain⟨E',g⟩:=h.newMap (d:=d) (te:=cd+t) (t:=kt) (Nat.le_add_right _ _) (hd d rfl) h1;exact .inl ⟨_,_,E',by simp[execOp,Instr.makeMap],(λhq=>by cases hq),g⟩
   ·cases hr
  ·cases hr
 ·rename_i t m k v;split at hr
  ·rename_i ti u c ht hm hk hv;unfold nK at hr;split at hr;·rename_i σ1 hs;injection hr with hr;subst hr;obtain⟨b,te,kt,xs,y,rfl,hb,hi,hte,hy,rfl⟩:=wH hs;have rm:=bm h m;have rk:=bm h k;have rv:=bm h v;rw[hm]at rm;rw[hk]at rk;rw[hv]at rv;obtain⟨w',g1,g2⟩:=BC hT h ht hi hb hte hy rk;refine .inr ⟨w',E, ?_,g2⟩;have e1:a.eval m=.map (some (E.bb b)):=rm.1;have e2:a.eval v=.bool true:=rv;simp[execOp,e1,e2,g1]
   ·cases hr
  ·cases hr
 ·rename_i t m k v;split at hr
  ·rename_i ti u c ht hm hk hv;unfold nK at hr;split at hr;·rename_i σ1 hs;injection hr with hr;subst hr;obtain⟨b,te,kt,xs,y,rfl,hb,hi,hte,hy,rfl⟩:=wH hs;have rm:=bm h m;have rk:=bm h k;have rv:=bm h v;rw[hm]at rm;rw[hk]at rk;rw[hv]at rv;obtain⟨w',g1,g2⟩:=BC hT h ht hi hb hte hy rk;refine .inr ⟨w',E, ?_,g2⟩;have e1:a.eval m=.map (some (E.bb b)):=rm.1;have e2:a.eval v=.bool true:=rv;simp[execOp,e1,e2,g1]
   ·cases hr
  ·cases hr
 ·rename_i dst args ts;split at hr
  ·rename_i m k t t' ha ht0;have ea:args=#[m,k]:=by apply Array.ext';simpa using ha
   have et:ts=#[t,t']:=by apply Array.ext';simpa using ht0
   subst ea et;split at hr
   ·rename_i ti u c ht hm hk;split at hr;·rename_i σ1 hs;injection hr with hr;obtain⟨b,te,kt,xs,y,rfl,hb,hi,hte,hy,rfl⟩:=wH hs;have rm:=bm h m;have rk:=bm h k;rw[hm]at rm;rw[hk]at rk;obtain⟨w',g1,g2⟩:=K2 hT h (t':=t') ht hi hb hte hy rk oty;have e1:a.eval m=.map (some (E.bb b)):=rm.1;refine .inl ⟨.tuple #[],w',E,by simp[execOp,resolve,invoke,builtin,e1,g1],(λhq=>by cases hq), ?_⟩;subst hr;exact g2.iput hd (s:=.tup []) ⟨#[],rfl,trivial⟩
    ·cases hr
   ·cases hr
  ·cases hr
 ·rename_i t len parts d;obtain⟨v,w',E',g1,gx,g2⟩:=Lt hT h (hd d rfl) hr;refine .inl ⟨v,w',E', ?_,(λ_=>gx),g2⟩;simp[execOp,g1]
 ·rename_i args ts d;split at hr
  ·rename_i s x t t' ha ht;cases hq:Nat.beq t t';·rw[hq]at hr;cases hr
   ·rw[hq]at hr;obtain rfl:=Nat.eq_of_beq_eq_true hq;have ea:args=#[s,x]:=by apply Array.ext';simpa using ha
    have et:ts=#[t,t]:=by apply Array.ext';simpa using ht
    subst ea et;obtain⟨v,w',E',g1,g2⟩:=Lw hT h (hd d rfl) (bm h s) (bm h x) hr oty;refine .inl ⟨v,w',E', ?_,(λhq=>by cases hq),g2⟩;simp[execOp,resolve,invoke,builtin,g1]
  ·cases hr
 ·cases hr
end
end Go.Fw
namespace Go.Fw
open Go.RowKit
section
variable {P : Program} {V V' : St} {E : aP} {w w' : World} {w0 : World} {lab0 : Nat → aC} {oo : Nat → Value} {n : Nat} {a : Act} {T : bj} [DC]
def R.ext(h:R w0 lab0 oo n V E a w)(e:bS w w'):R w0 lab0 oo n V E a w' :=
 h.grow (λk hk=>⟨e.old k hk,rfl⟩) ⟨e.os,e.tape,e.output⟩ e.size rfl (λr row hr=>.inl ⟨hr,rfl⟩) (λr row hr=>hr) (λb te cs hb=>.inl ⟨hb,rfl⟩) (λb x hb=>hb)
def sq:SV->Bool
 |.c (.int _ _)=>true
 |.c (.bool _)=>true
 |.c (.str _)=>true
 |.c .nil=>true
 |.c (.own _)=>true
 |.c (.box _ _)=>true
 |.c (.fn _ _)=>true
 |.c (.elt _ _ _)=>true
 |_=>false
def Ly{s:SV}{v v':Value}(hp:sq s=true)(h:aL V E w s v)(h':aL V E w' s v'):v=v':=by
 cases s with
 |c x =>
  cases x<;>simp only[sq]at hp<;>try contradiction
  case int=>exact(show v=_ from h).trans (show v'=_ from h').symm
  case bool=>exact(show v=_ from h).trans (show v'=_ from h').symm
  case str=>exact(show v=_ from h).trans (show v'=_ from h').symm
  case nil=>exact(show v=_ from h).trans (show v'=_ from h').symm
  case own r=>exact h.1.trans h'.1.symm
  case box b f=>exact h.1.trans h'.1.symm
  case fn f caps=>exact h.1.trans h'.1.symm
  case elt r i f =>obtain⟨row,g,m,c,e1,e2,_,_,_,e3⟩:=h;obtain⟨row',g',m',c',k1,k2,_,_,_,k3⟩:=h';rw[e1]at k1;injection k1 with k1;subst k1;rw[e2]at k2;injection k2 with k2;injection k2 with k2;injection k2 with k2;subst k2;rw[e3,k3]
 |agg l=>cases hp
 |tup l=>cases hp
def wN(op:Op)(s:SV):Bool :=
 match op with
 |.move _=>true
 |.assign _=>true
 |.load _ _=>true
 |.indexAddr _ _ _=>true
 |.fieldAddr _ _ _=>true
 |.extract _ _=>true
 |.nilCheck _=>true
 |_=>sq s
def Lz(hT:be P T)(h:R w0 lab0 oo n V E a w){o:Oper}{c:Bool}{sv:SV}(hv:cz T V o.op=some (c,sv))(hc:c=true)(hk:wN o.op sv=true) :
  ∃v,(∀w',bS w w'->(execOp a.eval o).run P w'=.ok (.value v) w')/\aL V E w sv v:=by
 by_cases hp:sq sv=true;·obtain⟨v,h1,h2⟩:=mm hT h hv hc;refine⟨v,λw' e=>?_,h2⟩;obtain⟨v',k1,k2⟩:=mm hT (h.ext e) hv hc;rw[Ly hp h2 k2];exact k1
 obtain⟨dst,op,oty,pos,after,guard⟩:=o;have fin:∀{s:Sem Value}{sv:SV},(∃v,(∀w',bS w w'->s.run P w'=.ok v w')/\aL V E w sv v)->∃v,(∀w',bS w w'->(do pure (Next.value (<-s)):Sem Next).run P w'=.ok (.value v) w')/\aL V E w sv v:=by
  rintro s sv ⟨v,h1,h2⟩
  exact⟨v,λw' e=>by simp[h1 w' e],h2⟩
 cases op<;>first | (exact absurd hk hp)|skip
 case move x =>simp only[cz,Option.some.injEq,Prod.mk.injEq]at hv;obtain⟨_,rfl⟩:=hv;exact⟨_,λ_ _=>rfl,bm h x⟩
 case assign x =>simp only[cz,Option.some.injEq,Prod.mk.injEq]at hv;obtain⟨_,rfl⟩:=hv;exact⟨_,λ_ _=>rfl,bm h x⟩
 case extract x i =>obtain⟨v,h1,h2⟩:=mm hT h hv hc;refine⟨v,λw' e=>?_,h2⟩;simp only[execOp,Instr.extract]at h1 ⊢;split at h1<;>first | (simp at h1 ⊢;split at h1<;>first | (simp at h1 ⊢;exact h1) | (simp at h1;done)) | (simp at h1;done)
 case nilCheck x =>
  simp only[cz]at hv;split at hv
  ·rename_i u hx;have rx:=bm h x;rw[hx]at rx;have rx:am V E w u (a.eval x):=rx;cases hu:sf u;·rw[hu]at hv;cases hv
   ·rw[hu]at hv;simp only[cond_true,Option.some.injEq,Prod.mk.injEq]at hv;obtain⟨_,rfl⟩:=hv;obtain⟨ad,hv⟩:=BK hu rx;exact⟨a.eval x,λw' _=>by simp[execOp,hv],rx⟩
  ·cases hv
 case load t x =>
  simp only[cz]at hv;split at hv
  ·rename_i i u ht hx;split at hv;·rename_i z hz;simp only[Option.some.injEq,Prod.mk.injEq]at hv;obtain⟨_,rfl⟩:=hv;have:=bm h x;rw[hx]at this;exact fin (v8 hT h ht hz this)
   ·cases hv
  ·cases hv
 case fieldAddr s x f =>
  simp only[cz]at hv;split at hv
  ·rename_i i u hs hx;have rx:=bm h x;rw[hx]at rx;split at hv
   ·rename_i off m ag hf;split at hv;·rename_i z hz;simp only[Option.some.injEq,Prod.mk.injEq]at hv;obtain⟨_,rfl⟩:=hv;exact fin (let⟨v,h1,h2⟩:=vZ hT hs hf hz rx.c_inv;⟨v,λw' _=>h1 w',h2⟩)
    ·cases hv
   ·cases hv
  ·cases hv
 case indexAddr t x i =>
  simp only[cz]at hv;split at hv
  ·rename_i ti u v ht hx hi;have rx:=bm h x;have ri:=bm h i;rw[hx]at rx;rw[hi]at ri;split at hv
   ·rename_i e he;split at hv
    ·rename_i ei hei;split at hv;·rename_i c' z hz;simp only[Option.some.injEq,Prod.mk.injEq]at hv;obtain⟨rfl,rfl⟩:=hv;exact fin (let⟨v,h1,h2⟩:=vY hT h ht he hei hz hc rx.c_inv ri.c_inv;⟨v,λw' _=>h1 w',h2⟩)
     ·cases hv
    ·cases hv
   ·cases hv
  ·cases hv
def LA(hT:be P T)(h:R w0 lab0 oo n V E a w){o:Oper}{c:Bool}{sv:SV}(hv:cz T V o.op=some (c,sv))(hc:c=true)(hk:(match o.op with
 |.move _=>true
 |.assign _=>true
 |.extract _ _=>true
 |.fieldAddr _ _ _=>true
 |.indexAddr _ _ _=>true
 |_=>false)=true) :
  ∃v,(∀w',(execOp a.eval o).run P w'=.ok (.value v) w')/\aL V E w sv v:=by
 obtain⟨dst,op,oty,pos,after,guard⟩:=o;have fin:∀{s:Sem Value}{sv:SV},(∃v,(∀w',s.run P w'=.ok v w')/\aL V E w sv v)->∃v,(∀w',(do pure (Next.value (<-s)):Sem Next).run P w'=.ok (.value v) w')/\aL V E w sv v:=by
  rintro s sv ⟨v,h1,h2⟩
  exact⟨v,λw'=>by simp[h1 w'],h2⟩
 cases op<;>first | (cases hk;done)|skip
 case move x =>simp only[cz,Option.some.injEq,Prod.mk.injEq]at hv;obtain⟨_,rfl⟩:=hv;exact⟨_,λ_=>rfl,bm h x⟩
 case assign x =>simp only[cz,Option.some.injEq,Prod.mk.injEq]at hv;obtain⟨_,rfl⟩:=hv;exact⟨_,λ_=>rfl,bm h x⟩
 case fieldAddr s x f =>
  simp only[cz]at hv;split at hv
  ·rename_i i u hs hx;have rx:=bm h x;rw[hx]at rx;split at hv
   ·rename_i off m ag hf;split at hv;·rename_i z hz;simp only[Option.some.injEq,Prod.mk.injEq]at hv;obtain⟨_,rfl⟩:=hv;exact fin (let⟨v,h1,h2⟩:=vZ hT hs hf hz rx.c_inv;⟨v,λw'=>h1 w',h2⟩)
    ·cases hv
   ·cases hv
  ·cases hv
 case indexAddr t x i =>
  simp only[cz]at hv;split at hv
  ·rename_i ti u v ht hx hi;have rx:=bm h x;have ri:=bm h i;rw[hx]at rx;rw[hi]at ri;split at hv
   ·rename_i e he;split at hv
    ·rename_i ei hei;split at hv;·rename_i c' z hz;simp only[Option.some.injEq,Prod.mk.injEq]at hv;obtain⟨rfl,rfl⟩:=hv;exact fin (let⟨v,h1,h2⟩:=vY hT h ht he hei hz hc rx.c_inv ri.c_inv;⟨v,λw'=>h1 w',h2⟩)
     ·cases hv
    ·cases hv
   ·cases hv
  ·cases hv
 case extract x i =>obtain⟨v,h1,h2⟩:=mm hT h hv hc;refine⟨v,λw'=>?_,h2⟩;simp only[execOp,Instr.extract]at h1 ⊢;split at h1<;>first | (simp at h1 ⊢;split at h1<;>first | (simp at h1 ⊢;exact h1) | (simp at h1;done)) | (simp at h1;done)
end
section
variable {P : Program} {ops : Array Oper} {Q : Exit → Act → World → Prop} [DC]
def mr:Op->Bool
 |.move _=>true
 |.assign _=>true
 |.extract _ _=>true
 |.fieldAddr _ _ _=>true
 |.indexAddr _ _ _=>true
 |_=>false
def fl(ops:Array Oper):Nat->Nat->Nat->Bool
 |0,_,_=>false
 |f+1,i,j=>match ops[i]? with
  |some oi=>oi.after.any λe=>Region.binds .any e&&(Nat.beq e.on j||fl ops f e.on j)
  |none=>false
def jz(ops:Array Oper)(H:Nat->Bool)(i:Nat):Bool :=
 (List.range ops.size).all λj=>Nat.beq j i||(match ops[j]? with
  |some oj=>mr oj.op||((fl ops 4 i j||fl ops 4 j i)||H j)
  |none=>true)
def iY(ops:Array Oper)(listed:Array Bool):Prop:=∀i oi,ops[i]? = some oi->listed.getD i false=true->∀e∈oi.after,Region.binds .any e=true->listed.getD e.on false=true
def iY.none:iY ops (Array.replicate ops.size false):=by
 intro i oi hi h;exfalso;rcases Nat.lt_or_ge i ops.size with h'|h';·simp[h']at h
 ·simp[Array.getD,Nat.not_lt.2 h']at h
def wO{listed:Array Bool}{k:Nat}(h1:listed.getD k true=false)(h2:listed.getD k false=true):False:=by
 rcases Nat.lt_or_ge k listed.size with h'|h';·simp[h']at h1 h2;rw[h1]at h2;cases h2
 ·simp[Array.getElem?_eq_none h']at h2
def iY.put{listed:Array Bool}(h:iY ops listed){i:Nat}(hi:i∈Region.ready .any ops listed):iY ops (listed.setIfInBounds i true):=by
 obtain⟨hiun,oi,hoi,hia⟩:=mem_ready.1 hi;have grow:∀k,listed.getD k false=true->(listed.setIfInBounds i true).getD k false=true:=by
  intro k hk;by_cases e:i=k;·subst e;exact(wO hiun hk).elim
  ·rw[getD_set_ne false e];exact hk
 intro k ok hk hl e he hb;by_cases hik:i=k;·subst hik;rw[hoi]at hk;injection hk with hk;subst hk;exact grow _ (hia e he hb)
 ·rw[getD_set_ne false hik]at hl;exact grow _ (h k ok hk hl e he hb)
def wP{listed:Array Bool}(h:iY ops listed):∀(f:Nat) {i j:Nat}{oi:Oper},ops[i]? = some oi->(∀e∈oi.after,Region.binds .any e=true->listed.getD e.on false=true)->fl ops f i j=true->listed.getD j false=true
 |0,_,_,_,_,_,hb=>by cases hb
 |f+1,i,j,oi,hi,ha,hb=>by
  simp only[fl,hi]at hb;obtain⟨e,he,hb⟩:=Array.any_eq_true'.1 hb;simp only[Bool.and_eq_true,Bool.or_eq_true]at hb;have h1:=ha e he hb.1;rcases hb.2 with h2|h2;·rw[Nat.eq_of_beq_eq_true h2]at h1;exact h1
  ·cases hoe:ops[e.on]? with
   |none =>
    cases f with
    |zero=>cases h2
    |succ f=>simp only[fl,hoe]at h2;cases h2
   |some oe=>exact wP h f hoe (λe' he' hb'=>h _ oe hoe h1 e' he' hb') h2
def LB{Hd:Nat->Bool}{listed:Array Bool}{i j:Nat}(hH:Hd i=false)(hcl:iY ops listed)(hnp:∀o,ops[i]? = some o->mr o.op=false)(hl:jz ops Hd j=true)(hne:j≠i)(hi:i∈Region.ready .any ops listed)(hj:j∈Region.ready .any ops listed):False:=by
 obtain⟨hiun,oi,hoi,hia⟩:=mem_ready.1 hi;obtain⟨hjun,oj,hoj,hja⟩:=mem_ready.1 hj;have hlt:i<ops.size:=(Array.getElem?_eq_some_iff.1 hoi).1;have:=List.all_eq_true.1 hl i (List.mem_range.2 hlt);rw[hoi]at this;simp only[Bool.or_eq_true]at this;rw[hH]at this;rcases this with h|h | (h|h)|h;rotate_left 4
 ·cases h
 ·exact hne (Nat.eq_of_beq_eq_true h).symm
 ·rw[hnp oi hoi]at h;cases h
 ·exact wO hiun (wP hcl 4 hoj hja h)
 ·exact wO hjun (wP hcl 4 hoi hia h)
def gv(P:Program)(ops:Array Oper)(Hd:Nat->Bool)(Q:Exit->Act->World->Prop):Nat->Array Bool->Act->World->Prop
 |0,listed,a,w=>Region.ready .any ops listed=[]/\Q .normal a w
 |fuel+1,listed,a,w =>
  (Region.ready .any ops listed=[]->Q .normal a w) /\
  ∀i∈Region.ready .any ops listed,wpOp P ops Q i (λa' w'=>(jz ops Hd i=false->bS w w')/\gv P ops Hd Q fuel (listed.setIfInBounds i true) a' w') a w
def BS{Hd:Nat->Bool}:∀(fuel:Nat) (listed:Array Bool) (a:Act) (w:World),gv P ops Hd Q fuel listed a w->wpAny P .any ops Q fuel listed a w
 |0,_,_,_,h=>h
 |fuel+1,_,_,_,h=>⟨h.1,λi hi=>wpOp_mono (λa' w' h'=>BS fuel _ a' w' h'.2) (h.2 i hi)⟩
def BT{S S':World->Prop}{o:Oper}{v:Value}{a:Act}(hS:∀w,S' w->S w)(h:YieldsIf P ops S o v a):YieldsIf P ops S' o v a :=
 h.imp (λ⟨hw,hv⟩=>⟨hw,λw hs=>hv w (hS w hs)⟩) id
def LC{Hd:Nat->Bool}{i:Nat}{oi:Oper}{v:Value}(hH:Hd i=false)(hi:ops[i]? = some oi)(hnp:mr oi.op=false)(hsel:∀(j:Nat) (o:Oper) cs b,ops[j]? = some o->o.op≠.select cs b)
  (hQ:∀c a w,Q (.panic c) (a.put oi.dst v) w->Q (.panic c) a w) :
  ∀(fuel:Nat) (listed:Array Bool) (a:Act) (w:World),iY ops listed ->
   (∀j oj,ops[j]? = some oj->j≠i->listed.getD j true=false->(∀e∈oj.after,Region.binds .any e=true->e.on≠i)->oi.apart ops oj=true) ->
   i∈Region.ready .any ops listed->YieldsIf P ops (bS w) oi v a ->
   gv P ops Hd Q fuel (listed.setIfInBounds i true) (a.put oi.dst v) w->gv P ops Hd Q (fuel+1) listed a w:=by
 intro fuel;induction fuel with
 |zero =>
  intro listed a w _ _ hr hy H;refine⟨λh=>(by rw[h]at hr;cases hr),λj hj=>?_⟩;by_cases hji:j=i;·subst hji;exact hy.wpOp hi (bS.refl w) ⟨λ_=>bS.refl w,H⟩
  ·have:=ready_mono hj hji;rw[H.1]at this;cases this
 |succ fuel ih =>
  intro listed a w hcl hfree hr hy H;refine⟨λh=>(by rw[h]at hr;cases hr),λj hj=>?_⟩;by_cases hji:j=i;·subst hji;exact hy.wpOp hi (bS.refl w) ⟨λ_=>bS.refl w,H⟩
  ·have h1:=H.2 j (ready_mono hj hji);obtain⟨hjun,oj,hoj,hall⟩:=mem_ready.1 hj;have hnot:∀e∈oj.after,Region.binds .any e=true->e.on≠i:=λe he hb heq=>by
    have h1:=hall e he hb;have h0:=(mem_ready.1 hr).1;rw[heq]at h1;rcases Nat.lt_or_ge i listed.size with h'|h';·simp[h']at h0 h1;rw[h0]at h1;cases h1
    ·simp[Array.getElem?_eq_none h']at h1
   have hlast:jz ops Hd j=false:=by
    cases hb:jz ops Hd j;·rfl
    ·exact(LB hH hcl (λo ho=>by rw[hi]at ho;injection ho with ho;subst ho;exact hnp) hb hji hr hj).elim
   have h2:=wpOp_putIf hoj (hfree j oj hoj hji hjun hnot) (λcs b=>hsel i oi cs b hi) (λcs b=>hsel j oj cs b hoj) hQ hy h1;have hfree':∀k ok,ops[k]? = some ok->k≠i->(listed.setIfInBounds j true).getD k true=false ->
     (∀e∈ok.after,Region.binds .any e=true->e.on≠i)->oi.apart ops ok=true:=λk ok hk hki hun hno=>by
    refine hfree k ok hk hki ?_ hno;by_cases hjk:j=k;·subst hjk;exact hjun
    ·rw[getD_set_ne true hjk]at hun;exact hun
   refine wpOp_mono (λa' w' h3=>⟨h3.2.1,ih (listed.setIfInBounds j true) a' w' (hcl.put hj) hfree' (ready_mono hr (Ne.symm hji)) (BT (λw'' e=>(h3.2.1 hlast).trans e) h3.1) ?_⟩) h2;rw[Array.setIfInBounds_comm _ _ hji];exact h3.2.2
def LD{Hd:Nat->Bool}{i:Nat}{oi:Oper}{v:Value}(hi:ops[i]? = some oi)(hsel:∀(j:Nat) (o:Oper) cs b,ops[j]? = some o->o.op≠.select cs b)
  (hQ:∀c a w,Q (.panic c) (a.put oi.dst v) w->Q (.panic c) a w) :
  ∀(fuel:Nat) (listed:Array Bool) (a:Act) (w:World),
   (∀j oj,ops[j]? = some oj->j≠i->listed.getD j true=false->(∀e∈oj.after,Region.binds .any e=true->e.on≠i)->oi.apart ops oj=true) ->
   i∈Region.ready .any ops listed->YieldsIf P ops (λ_=>True) oi v a ->
   gv P ops Hd Q fuel (listed.setIfInBounds i true) (a.put oi.dst v) w->gv P ops Hd Q (fuel+1) listed a w:=by
 intro fuel;induction fuel with
 |zero =>
  intro listed a w _ hr hy H;refine⟨λh=>(by rw[h]at hr;cases hr),λj hj=>?_⟩;by_cases hji:j=i;·subst hji;exact hy.wpOp hi trivial ⟨λ_=>bS.refl w,H⟩
  ·have:=ready_mono hj hji;rw[H.1]at this;cases this
 |succ fuel ih =>
  intro listed a w hfree hr hy H;refine⟨λh=>(by rw[h]at hr;cases hr),λj hj=>?_⟩;by_cases hji:j=i;·subst hji;exact hy.wpOp hi trivial ⟨λ_=>bS.refl w,H⟩
  ·have h1:=H.2 j (ready_mono hj hji);obtain⟨hjun,oj,hoj,hall⟩:=mem_ready.1 hj;have hnot:∀e∈oj.after,Region.binds .any e=true->e.on≠i:=λe he hb heq=>by
    have h1:=hall e he hb;have h0:=(mem_ready.1 hr).1;rw[heq]at h1;rcases Nat.lt_or_ge i listed.size with h'|h';·simp[h']at h0 h1;rw[h0]at h1;cases h1
    ·simp[Array.getElem?_eq_none h']at h1
   have h2:=wpOp_putIf hoj (hfree j oj hoj hji hjun hnot) (λcs b=>hsel i oi cs b hi) (λcs b=>hsel j oj cs b hoj) hQ hy h1;have hfree':∀k ok,ops[k]? = some ok->k≠i->(listed.setIfInBounds j true).getD k true=false ->
     (∀e∈ok.after,Region.binds .any e=true->e.on≠i)->oi.apart ops ok=true:=λk ok hk hki hun hno=>by
    refine hfree k ok hk hki ?_ hno;by_cases hjk:j=k;·subst hjk;exact hjun
    ·rw[getD_set_ne true hjk]at hun;exact hun
   refine wpOp_mono (λa' w' h3=>⟨h3.2.1,ih (listed.setIfInBounds j true) a' w' hfree' (ready_mono hr (Ne.symm hji)) (BT (λ_ _=>trivial) h3.1) ?_⟩) h2;rw[Array.setIfInBounds_comm _ _ hji];exact h3.2.2
def BU{Hd:Nat->Bool}{i:Nat}{oi:Oper}{v:Value}{fuel:Nat}{listed:Array Bool}{a:Act}{w:World}(hH:Hd i=false)(hi:ops[i]? = some oi)(hnp:mr oi.op=false)
  (hs:Region.noSelect ops=true) (hcl:iY ops listed) (hf:Region.free .any ops listed i=true) (hr:i∈Region.ready .any ops listed)
  (hQ:∀c a w,Q (.panic c) (a.put oi.dst v) w->Q (.panic c) a w) (hy:YieldsIf P ops (bS w) oi v a)
  (h:gv P ops Hd Q fuel (listed.setIfInBounds i true) (a.put oi.dst v) w):gv P ops Hd Q (fuel+1) listed a w :=
 LC hH hi hnp (Region.noSelect_spec hs) hQ fuel listed a w hcl (Region.free_spec hi hf) hr hy h
def BV{Hd:Nat->Bool}{i:Nat}{oi:Oper}{v:Value}{fuel:Nat}{listed:Array Bool}{a:Act}{w:World}(hi:ops[i]? = some oi)
  (hs:Region.noSelect ops=true) (hf:Region.free .any ops listed i=true) (hr:i∈Region.ready .any ops listed)
  (hQ:∀c a w,Q (.panic c) (a.put oi.dst v) w->Q (.panic c) a w) (hy:YieldsIf P ops (λ_=>True) oi v a)
  (h:gv P ops Hd Q fuel (listed.setIfInBounds i true) (a.put oi.dst v) w):gv P ops Hd Q (fuel+1) listed a w :=
 LD hi (Region.noSelect_spec hs) hQ fuel listed a w (Region.free_spec hi hf) hr hy h
def LE{Hd:Nat->Bool}{listed:Array Bool}{a:Act}{w:World}(hr:Region.ready .any ops listed=[])(h:Q .normal a w) :
  ∀fuel,gv P ops Hd Q fuel listed a w
 |0=>⟨hr,h⟩
 |_+1=>⟨λ_=>h,by rw[hr];simp⟩
end
end Go.Fw
namespace Go.Fw
open Go.RowKit
structure PT where
 t:Ty
 agg:Bool
 io:Bool
def av:List PT->Type
 |[]=>Unit
 |p::ps=>p.t.den×av ps
def de:List PT->Type
 |[]=>Unit
 |p::ps=>cond p.io p.t.den (de ps)
structure ba where
 ps:List PT
 rs:List PT
structure aQ where
 sig:ba
 pre:Option (av sig.ps->Bool)
 val:av sig.ps->de sig.ps×av sig.rs
def cq{α:Type}(p:Option (α->Bool))(X:α):Bool:=match p with
 |none=>true
 |some f=>f X
def aQ.G(en:aQ)(X:av en.sig.ps):Option (de en.sig.ps×av en.sig.rs):=cond (cq en.pre X) (some (en.val X)) none
def gd(agg:Bool)(v:Value)(cs:List Value):Prop:=cond agg (∃arr:Array Value,v=.agg arr/\arr.toList=cs) (cs=[v])
def ej(w:World)(L:List Nat):(ps:List PT)->List Value->av ps->Prop
 |[],[],_=>True
 |p::ps,v::vs,X=>(∃cs,gd p.agg v cs/\cond p.io (aB w p.t L cs X.1) (Rd w (λk=>k∉L) p.t cs X.1))/\ej w L ps vs X.2
 |[],_::_,_=>False
 |_::_,[],_=>False
def LF{A B:Type}:(b:Bool)->(A->Prop)->(B->Prop)->cond b A B->Prop
 |true,f,_,y=>f y
 |false,_,g,y=>g y
def kU(w:World)(L:List Nat):(ps:List PT)->List Value->de ps->Prop
 |[],_,_=>L=[]
 |p::ps,v::vs,y=>LF p.io (λx=>∃cs,gd p.agg v cs/\aB w p.t L cs x) (λy=>kU w L ps vs y) y
 |_::_,[],_=>False
def wQ(io:Bool):(t:Ty)->List Value->t.den->Prop
 |.sl _ _,cs,x=>io=true->x.length=0->cs=[.slice none 0 0]
 |_,_,_=>True
def mt(w:World):(rs:List PT)->List Value->av rs->List Nat->Prop
 |[],[],_,L=>L=[]
 |r::rs,v::vs,Y,L=>∃cs L1 L2,L=L1++L2/\gd r.agg v cs/\aB w r.t L1 cs Y.1/\wQ r.io r.t cs Y.1/\mt w rs vs Y.2 L2
 |[],_::_,_,_=>False
 |_::_,[],_,_=>False
def mv:List Value->Value->Prop
 |[u],v=>v=u
 |vs,v=>v=.tuple vs.toArray
def ck(ps:List PT):Bool:=ps.all λp=>!p.io
def dQ:List PT->Bool
 |[]=>true
 |p::ps=>cond p.io (ck ps) (dQ ps)
structure nM[DC](w:World)(sig:ba)(args:List Value)(L:List Nat)(y:de sig.ps)(Y:av sig.rs)(v:Value)(w':World)(vs:List Value)(L' Lr:List Nat):Prop where
 ret:mv vs v
 res:mt w' sig.rs vs Y Lr
 io:kU w' L' sig.ps args y
 nodup:(Lr++L').Nodup
 fresh:∀k∈Lr,k∈L\/w.heap.size<=k
 from_:∀k∈L',k∈L\/w.heap.size<=k
 os:w'.os=w.os
 tape:Tp w w'
 output:w'.output=w.output
 size:w.heap.size<=w'.heap.size
 old:∀k,k<w.heap.size->k∉L->w'.heap[k]? = w.heap[k]?
def dg(P:Program)(f:Nat)(args:Array Value)(w:World)(Q:Ending->World->Prop):Prop :=
 ((callFunc f args).run P w=.ok (.enter f args) w/\Calls P f args w Q)\/∃v w',(callFunc f args).run P w=.ok (.value v) w'/\Q (.returned v) w'
def dg.mono{P:Program}{f:Nat}{args:Array Value}{w:World}{Q Q':Ending->World->Prop}(h:dg P f args w Q)(hq:∀e w,Q e w->Q' e w):dg P f args w Q' :=
 h.imp (λ⟨h1,h2⟩=>⟨h1,h2.mono λe w=>hq e w⟩) λ⟨v,w',h1,h2⟩=>⟨v,w',h1,hq _ _ h2⟩
class Inv (P:Program) where
 I:World->Prop
 B:Nat->Prop
 keep:∀w w',(∀k,B k->w'.heap[k]? = w.heap[k]?)->I w->I w'
 lt:∀w k,I w->B k->k<w.heap.size
def aw[DC](P:Program)[Inv P](f:Nat)(en:aQ):Prop :=
 ∀(w:World) (args:Array Value) (L:List Nat) (X:av en.sig.ps) (y:de en.sig.ps) (Y:av en.sig.rs),ej w L en.sig.ps args.toList X->(ck en.sig.ps=true->L=[])->L.Nodup->(∀k∈L,k<w.heap.size) ->
  en.G X=some (y,Y)->Inv.I P w->(∀k∈L,¬ Inv.B P k)->dg P f args w λe w'=>∃v vs L' Lr,e=.returned v/\nM w en.sig args.toList L y Y v w' vs L' Lr
def pQ[DC](P:Program)(w0:World)(lab0:Nat->aC)(f:Nat)(en:aQ):Prop :=
 ∀(w:World) (args:Array Value) (L:List Nat) (X:av en.sig.ps) (y:de en.sig.ps) (Y:av en.sig.rs),ej w L en.sig.ps args.toList X->(ck en.sig.ps=true->L=[])->L.Nodup->(∀k∈L,k<w.heap.size) ->
  en.G X=some (y,Y)->(∀k,k<w0.heap.size->lab0 k=.st->w.heap[k]? = w0.heap[k]?)->(∀k∈L,¬ (k<w0.heap.size/\lab0 k=.st))->dg P f args w λe w'=>∃v vs L' Lr,e=.returned v/\nM w en.sig args.toList L y Y v w' vs L' Lr
def aw.at[DC]{P:Program}[Inv P]{f:Nat}{en:aQ}(h:aw P f en){w0:World}{lab0:Nat->aC}(hI:Inv.I P w0)(hB:∀k,Inv.B P k->lab0 k=.st):pQ P w0 lab0 f en :=
 λw args L X y Y h1 h2 h3 h4 h5 h6 h7=>h w args L X y Y h1 h2 h3 h4 h5 (Inv.keep w0 w (λk hk=>h6 k (Inv.lt w0 k hI hk) (hB k hk)) hI) λk hk hb=>h7 k hk ⟨Inv.lt w0 k hI hb,hB k hb⟩
def sr(bad:List Nat)(look:Nat->Option ae)(e:Nat)(t:Ty):List ai->Option (List t.den)
 |[.nil]=>some []
 |[.own r]=>match look r with
  |some row=>cond (Nat.beq row.e e&&!(bF r bad)) (dI row.t t row.xs) none
  |none=>none
 |[.part r lo n]=>match look r with
  |some row=>cond (!(bF r bad)) (dI row.t t ((row.xs.drop lo.toNat).take n.toNat)) none
  |none=>none
 |[.sn e' t' xs none]=>dI t' t xs
 |[.sn e' t' xs (some r)]=>cond (!(bF r bad)) (dI t' t xs) none
 |[.full e' t' xs none]=>dI t' t xs
 |[.full e' t' xs (some r)]=>cond (!(bF r bad)) (dI t' t xs) none
 |[.bor _ _ t' xs]=>dI t' t xs
 |_=>none
def pR(bad:List Nat)(look:Nat->Option ae):(t:Ty)->List ai->Option t.den
 |.int k,cs=>kO k cs
 |.bool,cs=>mb cs
 |.fnc g,cs=>pC g cs
 |.str,cs=>kP cs
 |.err,cs=>pD cs
 |.sl e t,cs=>sr bad look e t cs
 |.pair a b,cs=>ee (pR bad look a (cs.take a.nc)) (pR bad look b (cs.drop a.nc))
section
variable {P : Program} {V V' : St} {E E' : aP} {w w' : World} {w0 : World} {lab0 : Nat → aC} {oo : Nat → Value} {n : Nat} {a : Act} [DC]
def mw{S:Nat->Prop}{e e':Nat}{t t':Ty}{xs:List t.den}{ys:List t'.den}{u:Value}(hc:dI t t' xs=some ys)(h:Rd w S (.sl e t) [u] xs):Rd w S (.sl e' t') [u] ys:=by obtain⟨rfl,rfl⟩:=gQ hc;exact h
def su{x:Nat}{l:List Nat}(h:(!bF x l)=true):x∉l:=λhm=>by rw[gO.2 hm]at h;cases h
def gw(lab:Nat->aC)(bad:List Nat)(k:Nat):Prop:=∀q∈bad,¬ dM lab q k
def sw{lab:Nat->aC}{bad:List Nat}{r k:Nat}(hr:r∉bad)(h:dM lab r k):gw lab bad k:=λq hq h'=>hr (jZ h h'▸hq)
def BW{lab:Nat->aC}{bad:List Nat}{k:Nat}(h:lab k=.dead):gw lab bad k:=λq hq h'=>by rcases h' with h'|h'<;>rw[h]at h'<;>cases h'
def nN{lab:Nat->aC}{bad:List Nat}{k:Nat}(h:lab k=.st):gw lab bad k:=λq hq h'=>by rcases h' with h'|h'<;>rw[h]at h'<;>cases h'
def iZ(lab:Nat->aC)(bad:List Nat)(k:Nat):Prop:=gw lab bad k/\∀b,lab k≠.box b
def nO{lab:Nat->aC}{bad:List Nat}{r k:Nat}(hr:r∉bad)(h:dM lab r k):iZ lab bad k:=⟨sw hr h,λb hb=>by rcases h with h|h<;>rw[h]at hb<;>cases hb⟩
def LG{lab:Nat->aC}{bad:List Nat}{k:Nat}(h:lab k=.dead):iZ lab bad k:=⟨BW h,λb hb=>by rw[h]at hb;cases hb⟩
def nP{lab:Nat->aC}{bad:List Nat}{k:Nat}(h:lab k=.st):iZ lab bad k:=⟨nN h,λb hb=>by rw[h]at hb;cases hb⟩
def BX(h:R w0 lab0 oo n V E a w){bad:List Nat}{e:Nat}{t:Ty}{cs:List ai}{us:List Value}{y:List t.den}(hp:sr bad V.row e t cs=some y)(hc:ak (am V E w) cs us) :
  Rd w (iZ E.lab bad) (.sl e t) us y:=by
 unfold sr at hp;split at hp;·obtain⟨u,rfl,hu⟩:=cv hc;injection hp with hp;subst hp;obtain rfl:u=_:=hu;exact⟨none,0,0,rfl,rfl,Nat.le_refl _,Nat.zero_le _,.inl rfl⟩
 ·rename_i r;obtain⟨u,rfl,hu⟩:=cv hc;split at hp
  ·rename_i row hrow;cases hq:(Nat.beq row.e e&&!(bF r bad));·rw[hq]at hp;cases hp
   ·rw[hq]at hp;simp only[Bool.and_eq_true]at hq;have hnb:=su hq.2;obtain⟨rfl,_,_⟩:=hu;exact mw hp ((h.rows r row hrow).rd (λk hk=>nO hnb (.inl hk)) (λk hk=>by
     cases hd:row.deep;·rw[hd]at hk;exact nP hk
     ·rw[hd]at hk;exact nO hnb (.inr hk)))
  ·cases hp
 ·rename_i r lo m;obtain⟨u,rfl,hu⟩:=cv hc;split at hp
  ·rename_i row hrow;cases hq:(!(bF r bad));·rw[hq]at hp;cases hp
   ·rw[hq]at hp;have hnb:=su hq;exact mw hp (BR h hrow hu λk hk=>hk.elim (nO hnb) nP)
  ·cases hp
 ·rename_i e' t' xs;obtain⟨u,rfl,hu⟩:=cv hc;exact mw hp (Rd.mono (λk hk=>nP hk) (show Rd w (λk=>E.lab k=.st) (.sl e' t') [u] xs from hu))
 ·rename_i e' t' xs r;obtain⟨u,rfl,hu⟩:=cv hc;cases hq:(!(bF r bad));·rw[hq]at hp;cases hp
  ·rw[hq]at hp;exact mw hp (Rd.mono (λk hk=>nO (su hq) (.inr hk)) (show Rd w (λk=>E.lab k=.inn r) (.sl e' t') [u] xs from hu))
 ·rename_i e' t' xs;obtain⟨u,rfl,hu⟩:=cv hc;exact mw hp (Rd.mono (λk hk=>nP hk) (show Rd w (λk=>E.lab k=.st) (.sl e' t') [u] xs from hu.1))
 ·rename_i e' t' xs r;obtain⟨u,rfl,hu⟩:=cv hc;cases hq:(!(bF r bad));·rw[hq]at hp;cases hp
  ·rw[hq]at hp;exact mw hp (Rd.mono (λk hk=>nO (su hq) (.inr hk)) (show Rd w (λk=>E.lab k=.inn r) (.sl e' t') [u] xs from hu.1))
 ·rename_i v0 e' t' xs;obtain⟨u,rfl,hu⟩:=cv hc;exact mw hp (Rd.mono (λk hk=>nP hk) (show Rd w (λk=>E.lab k=.st) (.sl e' t') [u] xs from hu.2))
 ·cases hp
def my(h:R w0 lab0 oo n V E a w){bad:List Nat}:∀{t:Ty}{cs:List ai}{us:List Value}{y:t.den},pR bad V.row t cs=some y->ak (am V E w) cs us->Rd w (iZ E.lab bad) t us y
 |.int k,cs,us,y,e,hc=>by obtain rfl:=mi e;obtain⟨u,rfl,hu⟩:=cv hc;obtain rfl:u=_:=hu;rfl
 |.bool,cs,us,y,e,hc=>by obtain rfl:=nH e;obtain⟨u,rfl,hu⟩:=cv hc;obtain rfl:u=_:=hu;rfl
 |.fnc _,cs,us,y,e,hc=>by obtain rfl:=pI e;obtain⟨u,rfl,hu⟩:=cv hc;obtain⟨rfl,_⟩:=hu;rfl
 |.err,cs,us,y,e,hc=>by obtain rfl:=r8 e;obtain⟨u,rfl,hu⟩:=cv hc;exact⟨u,rfl,hu⟩
 |.str,cs,us,y,e,hc=>by obtain rfl:=mj e;obtain⟨u,rfl,hu⟩:=cv hc;obtain rfl:u=_:=hu;rfl
 |.sl e t,cs,us,y,hp,hc=>BX h hp hc
 |.pair t1 t2,cs,us,y,e,hc=>by obtain⟨h1,h2⟩:=ef e;exact⟨us.take t1.nc,us.drop t1.nc,(List.take_append_drop _ _).symm,my h h1 (hc.take _),my h h2 (hc.drop _)⟩
def aK(d:Nat):(t:Ty)->t.den->Nat->List ai×List (Nat×ae)×Nat
 |.int k,x,j=>([.int k x],[],j)
 |.bool,x,j=>([.bool x],[],j)
 |.fnc g,_,j=>([.fn g []],[],j)
 |.str,x,j=>([.str x],[],j)
 |.err,x,j=>([.err x],[],j)
 |.sl e t,xs,j=>([.own (aW d j)],[(aW d j,⟨e,t,xs,true,false⟩)],j+1)
 |.pair a b,x,j =>
  match aK d a x.1 j with
  | (c1,r1,j1)=>match aK d b x.2 j1 with
   | (c2,r2,j2)=>(c1++c2,r1++r2,j2)
def gS(d:Nat):∀{t:Ty}{y:t.den}{j:Nat},j<=(aK d t y j).2.2/\∀p∈(aK d t y j).2.1,∃i,j<=i/\i<(aK d t y j).2.2/\p.1=aW d i
 |.int _,_,j=>⟨Nat.le_refl _,λp hp=>by simp[aK]at hp⟩
 |.bool,_,j=>⟨Nat.le_refl _,λp hp=>by simp[aK]at hp⟩
 |.fnc _,_,j=>⟨Nat.le_refl _,λp hp=>by simp[aK]at hp⟩
 |.str,_,j=>⟨Nat.le_refl _,λp hp=>by simp[aK]at hp⟩
 |.err,_,j=>⟨Nat.le_refl _,λp hp=>by simp[aK]at hp⟩
 |.sl e t,xs,j=>⟨Nat.le_succ _,λp hp=>by simp only[aK,List.mem_singleton]at hp;subst hp;exact⟨j,Nat.le_refl _,Nat.lt_succ_self _,rfl⟩⟩
 |.pair a b,x,j=>by
  have h1:=gS d (t:=a) (y:=x.1) (j:=j);have h2:=gS d (t:=b) (y:=x.2) (j:=(aK d a x.1 j).2.2);refine⟨Nat.le_trans h1.1 h2.1,λp hp=>?_⟩;simp only[aK,List.mem_append]at hp;rcases hp with hp|hp;·obtain⟨i,k1,k2,k3⟩:=h1.2 p hp;exact⟨i,k1,Nat.lt_of_lt_of_le k2 h2.1,k3⟩
  ·obtain⟨i,k1,k2,k3⟩:=h2.2 p hp;exact⟨i,Nat.le_trans h1.1 k1,k2,k3⟩
def mz{d i j:Nat}(h:aW d i=aW d j):i=j:=by unfold aW at h;omega
def mA(d:Nat):∀{t:Ty}{y:t.den}{L:List Nat}{cs:List Value}{j:Nat},aB w t L cs y->L.Nodup ->
  ∃(f:Nat->aC) (rvf:Nat->Value),(∀k∈L,∃i,j<=i/\i<(aK d t y j).2.2/\(f k=.row (aW d i)\/f k=.inn (aW d i))) /\
   ∀(σ2:St) (E2:aP),(∀k∈L,E2.lab k=f k)->(∀p∈(aK d t y j).2.1,E2.rv p.1=rvf p.1) ->
   (∀p∈(aK d t y j).2.1,σ2.row p.1=some p.2)->ak (am σ2 E2 w) (aK d t y j).1 cs/\∀p∈(aK d t y j).2.1,bZ w E2.lab p.1 p.2 (E2.rv p.1)
 |.int k,y,L,cs,j,h,_=>by obtain⟨rfl,rfl⟩:=h;exact⟨λ_=>.st,λ_=>undef,(λ_ h=>by cases h),λ_ _ _ _ _=>⟨⟨rfl,trivial⟩,λp hp=>by simp[aK]at hp⟩⟩
 |.bool,y,L,cs,j,h,_=>by obtain⟨rfl,rfl⟩:=h;exact⟨λ_=>.st,λ_=>undef,(λ_ h=>by cases h),λ_ _ _ _ _=>⟨⟨rfl,trivial⟩,λp hp=>by simp[aK]at hp⟩⟩
 |.fnc _,y,L,cs,j,h,_=>by obtain⟨rfl,rfl⟩:=h;exact⟨λ_=>.st,λ_=>undef,(λ_ h=>by cases h),λ_ _ _ _ _=>⟨⟨⟨rfl,λp hp=>by cases hp⟩,trivial⟩,λp hp=>by simp[aK]at hp⟩⟩
 |.err,y,L,cs,j,h,_=>by obtain⟨⟨v,rfl,hv⟩,rfl⟩:=h;exact⟨λ_=>.st,λ_=>undef,(λ_ h=>by cases h),λ_ _ _ _ _=>⟨⟨hv,trivial⟩,λp hp=>by simp[aK]at hp⟩⟩
 |.str,y,L,cs,j,h,_=>by obtain⟨rfl,rfl⟩:=h;exact⟨λ_=>.st,λ_=>undef,(λ_ h=>by cases h),λ_ _ _ _ _=>⟨⟨rfl,trivial⟩,λp hp=>by simp[aK]at hp⟩⟩
 |.sl e t,xs,L,cs,j,h,hn=>by
  obtain⟨v,css,Ls,rfl,ho,rfl,hall⟩:=h;obtain⟨hn1,hn2,hn3⟩:=List.nodup_append.1 hn;refine⟨λk=>if k∈v.ownBlock.toList then .row (aW d j)else .inn (aW d j),λ_=>v,λk hk=>⟨j,Nat.le_refl _,Nat.lt_succ_self _, ?_⟩,λσ2 E2 hl hv hr=>?_⟩
  ·by_cases e:k∈v.ownBlock.toList;·exact .inl (if_pos e)
   ·exact .inr (if_neg e)
  ·have hv':E2.rv (aW d j)=v:=hv (aW d j,⟨e,t,xs,true,false⟩) (by simp[aK]);have hr':=hr (aW d j,⟨e,t,xs,true,false⟩) (by simp[aK]);obtain⟨A,c,hvs,_,_⟩:=iu ho;refine⟨⟨⟨hv'.symm,by rw[hr'];rfl,A,_,c,hvs⟩,trivial⟩,λp hp=>?_⟩;simp only[aK,List.mem_singleton]at hp;subst hp;simp only;rw[hv'];refine⟨css,ho,λk hk=>?_,⟨Ls,hall,hn2,λk hk=>?_⟩,λh=>by cases h⟩
   ·have hm:k∈v.ownBlock.toList:=by rw[hk];simp
    exact(hl k (List.mem_append_left _ hm)).trans (if_pos hm)
   ·have hm:k∉v.ownBlock.toList:=λhm=>hn3 k hm k hk rfl;exact(hl k (List.mem_append_right _ hk)).trans (if_neg hm)
 |.pair t1 t2,x,L,cs,j,h,hn=>by
  obtain⟨c1,c2,L1,L2,rfl,rfl,h1,h2⟩:=h;obtain⟨hn1,hn2,hn3⟩:=List.nodup_append.1 hn;obtain⟨f1,v1,a1,b1⟩:=mA d (j:=j) h1 hn1;obtain⟨f2,v2,a2,b2⟩:=mA d (j:=(aK d t1 x.1 j).2.2) h2 hn2;have m1:=(gS d (t:=t1) (y:=x.1) (j:=j)).1;have m2:=(gS d (t:=t2) (y:=x.2) (j:=(aK d t1 x.1 j).2.2)).1;have hname:∀i,i<(aK d t1 x.1 j).2.2->∃i',i'<(aK d t1 x.1 j).2.2/\aW d i=aW d i':=λi hi=>⟨i,hi,rfl⟩;refine⟨λk=>if k∈L1 then f1 k else f2 k,λr=>if ∃i',i'<(aK d t1 x.1 j).2.2/\r=aW d i' then v1 r else v2 r,λk hk=>?_,λσ2 E2 hl hv hr=>?_⟩
  ·rcases List.mem_append.1 hk with hk|hk;·obtain⟨i,k1,k2,k3⟩:=a1 k hk;exact⟨i,k1,Nat.lt_of_lt_of_le k2 m2,by simpa[hk]using k3⟩
   ·have hne:k∉L1:=λh'=>hn3 k h' k hk rfl;obtain⟨i,k1,k2,k3⟩:=a2 k hk;exact⟨i,Nat.le_trans m1 k1,k2,by simpa[hne]using k3⟩
  ·obtain⟨g1,g2⟩:=b1 σ2 E2 (λk hk=>(hl k (List.mem_append_left _ hk)).trans (if_pos hk)) (λp hp=>by obtain⟨i,i1,i2,i3⟩:=(gS d).2 p hp;refine(hv p (by simp only[aK,List.mem_append];exact .inl hp)).trans (if_pos ?_);rw[i3];exact hname i i2) (λp hp=>hr p (by simp only[aK,List.mem_append];exact .inl hp));obtain⟨g3,g4⟩:=b2 σ2 E2 (λk hk=>(hl k (List.mem_append_right _ hk)).trans (if_neg (λh'=>hn3 k h' k hk rfl))) (λp hp=>by
    obtain⟨i,i1,i2,i3⟩:=(gS d).2 p hp;refine(hv p (by simp only[aK,List.mem_append];exact .inr hp)).trans (if_neg ?_);rintro ⟨i',h1,h2⟩
    have:=mz (i3.symm.trans h2);omega) (λp hp=>hr p (by simp only[aK,List.mem_append];exact .inr hp))
   refine⟨g1.app g3,λp hp=>?_⟩;simp only[aK,List.mem_append]at hp;rcases hp with hp|hp;·exact g2 p hp
   ·exact g4 p hp
def fo(io:Bool)(d:Nat)(t:Ty)(y:t.den)(j:Nat):List ai×List (Nat×ae)×Nat:=match t,y with
 |.sl e t,xs=>([.own (aW d j)],[(aW d j,⟨e,t,xs,true,io⟩)],j+1)
 |t,y=>aK d t y j
def wR(io:Bool)(d:Nat)(t:Ty)(y:t.den)(j:Nat):(∃e s,∃h:t=.sl e s,fo io d t y j=([.own (aW d j)],[(aW d j,⟨e,s,(h▸y:(Ty.sl e s).den),true,io⟩)],j+1))\/((∀e s,t≠.sl e s)/\fo io d t y j=aK d t y j):=by
 cases t with
 |sl e s=>exact .inl ⟨e,s,rfl,rfl⟩
 |int k=>exact .inr ⟨(λe s h=>by cases h),rfl⟩
 |bool=>exact .inr ⟨(λe s h=>by cases h),rfl⟩
 |str=>exact .inr ⟨(λe s h=>by cases h),rfl⟩
 |err=>exact .inr ⟨(λe s h=>by cases h),rfl⟩
 |fnc g=>exact .inr ⟨(λe s h=>by cases h),rfl⟩
 |pair a b=>exact .inr ⟨(λe s h=>by cases h),rfl⟩
def wS(io:Bool)(d:Nat){t:Ty}{y:t.den}{j:Nat}:j<=(fo io d t y j).2.2/\∀p∈(fo io d t y j).2.1,∃i,j<=i/\i<(fo io d t y j).2.2/\p.1=aW d i:=by
 rcases wR io d t y j with⟨e,s,rfl,h⟩|⟨_,h⟩;·rw[h];exact⟨Nat.le_succ _,λp hp=>⟨j,Nat.le_refl _,Nat.lt_succ_self _,by have:=List.mem_singleton.1 hp;rw[this]⟩⟩
 ·rw[h];exact gS d
def LH(io:Bool)(d:Nat){t:Ty}{y:t.den}{L:List Nat}{cs:List Value}{j:Nat}(h:aB w t L cs y)(hn:L.Nodup)(hz:wQ io t cs y) :
  ∃(f:Nat->aC) (rvf:Nat->Value),(∀k∈L,∃i,j<=i/\i<(fo io d t y j).2.2/\(f k=.row (aW d i)\/f k=.inn (aW d i))) /\
   ∀(σ2:St) (E2:aP),(∀k∈L,E2.lab k=f k)->(∀p∈(fo io d t y j).2.1,E2.rv p.1=rvf p.1) ->
   (∀p∈(fo io d t y j).2.1,σ2.row p.1=some p.2)->ak (am σ2 E2 w) (fo io d t y j).1 cs/\∀p∈(fo io d t y j).2.1,bZ w E2.lab p.1 p.2 (E2.rv p.1):=by
 obtain⟨f,rvf,a1,b1⟩:=mA d (j:=j) h hn;rcases wR io d t y j with⟨e,s,rfl,hi⟩|⟨_,hi⟩
 ·rw[hi];refine⟨f,rvf,a1,λσ2 E2 hl hv hr=>?_⟩;have hr0:=hr _ (List.mem_singleton.2 rfl);obtain⟨g1,g2⟩:=b1 ⟨σ2.slot,σ2.box,au σ2.row (aW d j) (some ⟨e,s,y,true,false⟩)⟩ E2 hl (λp hp=>by
   have:=List.mem_singleton.1 hp;subst this;have h2:=hv (aW d j,⟨e,s,y,true,io⟩) (List.mem_singleton.2 rfl);exact h2) (λp hp=>by
   have:=List.mem_singleton.1 hp;subst this;exact a6 _ _ _)
  have g2:=g2 _ (List.mem_singleton.2 rfl);cases cs with
  |nil=>exact g1.elim
  |cons u us=>cases us with
   |cons _ _=>exact g1.2.elim
   |nil =>obtain⟨hu,_,hA⟩:=g1.1;refine⟨⟨⟨hu,by rw[hr0];rfl,hA⟩,trivial⟩,λp hp=>?_⟩;have:=List.mem_singleton.1 hp;subst this;obtain⟨css,k1,k2,k3,k4⟩:=g2;refine⟨css,k1,k2,k3,λhio hl0=>?_⟩;have:=hz hio hl0;injection this with this;rw[<-hu];exact this
 ·rw[hi];exact⟨f,rvf,a1,b1⟩
def wT(e:Nat)(t:Ty):List ai->List t.den->(Nat->Option ae)->Option (Nat->Option ae)
 |[.own r],ys,look=>match look r with
  |some row=>match dI t row.t ys with
   |some zs=>some (au look r (some ⟨row.e,row.t,zs,true,row.nilE⟩))
   |none=>none
  |none=>none
 |[.nil],_,look=>some look
 |_,_,_=>none
def pS:(t:Ty)->List ai->t.den->(Nat->Option ae)->Option (Nat->Option ae)
 |.int _,_,_,look=>some look
 |.bool,_,_,look=>some look
 |.fnc _,_,_,look=>some look
 |.str,_,_,look=>some look
 |.err,_,_,_=>none
 |.sl e t,cs,ys,look=>wT e t cs ys look
 |.pair a b,cs,x,look=>match pS a (cs.take a.nc) x.1 look with
  |some l=>pS b (cs.drop a.nc) x.2 l
  |none=>none
def wU(E:aP)(q:Nat)(row:ae):Prop:=(∃A c,E.rv q=.slice A row.xs.length c)/\(row.nilE=true->row.xs.length=0->E.rv q=.slice none 0 0)
def bZ.was{lab:Nat->aC}{q:Nat}{row:ae}(h:bZ w lab q row (E.rv q)):wU E q row:=by obtain⟨css,ho,_,_,hn⟩:=h;obtain⟨A,c,hv,_⟩:=iu ho;exact⟨⟨A,c,hv⟩,hn⟩
structure nQ(look look':Nat->Option ae)(qs:List Nat)(L:List Nat)(E:aP)(w':World)(f:Nat->aC):Prop where
 lab:∀k∈L,∃q∈qs,f k=.row q\/f k=.inn q
 other:∀q,q∉qs->look' q=look q
 row:∀q∈qs,∃row row',look q=some row/\look' q=some row'/\row'.t=row.t/\row'.xs.length=row.xs.length/\∀lab2:Nat->aC,(∀k∈L,lab2 k=f k)->bZ w' lab2 q row' (E.rv q)
def BY{cs:List ai}(m:Nat):aH cs=aH (cs.take m)++aH (cs.drop m):=by rw[<-gP,List.take_append_drop]
def LJ{t1 t2:Ty}{L:List Nat}{us:List Value}{y:(Ty.pair t1 t2).den}(h:aB w' (.pair t1 t2) L us y):∃L1 L2,L=L1++L2/\aB w' t1 L1 (us.take t1.nc) y.1/\aB w' t2 L2 (us.drop t1.nc) y.2:=by
 obtain⟨c1,c2,L1,L2,rfl,rfl,h1,h2⟩:=h;have:=h1.len;refine⟨L1,L2,rfl, ?_, ?_⟩;·rw[List.take_left' this];exact h1
 ·rw[List.drop_left' this];exact h2
def LK{e:Nat}{t:Ty}{cs:List ai}{us:List Value}{ys:List t.den}{look look':Nat->Option ae}{L:List Nat}(hu:wT e t cs ys look=some look')(hc:ak (am V E w) cs us)
  (ho:aB w' (.sl e t) L us ys) (hL:L.Nodup) (hw:∀q∈aH cs,∀row,look q=some row->wU E q row/\row.e=e):∃f,nQ look look' (aH cs) L E w' f:=by
 unfold wT at hu;split at hu
 ·rename_i r;obtain⟨u,rfl,hu1⟩:=cv hc;split at hu
  ·rename_i row hrow;split at hu
   ·rename_i zs hz;injection hu with hu;subst hu;obtain⟨v,css,Ls,hvs,hrow',rfl,hall⟩:=ho;injection hvs with hvs;subst hvs;obtain⟨rfl,_,_⟩:=hu1;obtain⟨⟨⟨A,c,hv⟩,hnil⟩,he⟩:=hw r (by simp[aH]) row hrow;obtain⟨A',c',hv',_⟩:=iu hrow';have hlen:ys.length=row.xs.length:=by rw[hv]at hv';injection hv' with _ h2 _;exact h2.symm
    obtain⟨hn1,hn2,hn3⟩:=List.nodup_append.1 hL;obtain⟨et,ez⟩:=gQ hz;have hzl:zs.length=ys.length:=by subst ez;subst et;rfl
    refine⟨λk=>if k∈(E.rv r).ownBlock.toList then .row r else .inn r,⟨λk hk=>⟨r,by simp[aH], ?_⟩,λq hq=>?_,λq hq=>?_⟩⟩
    ·by_cases e:k∈(E.rv r).ownBlock.toList;·exact .inl (if_pos e)
     ·exact .inr (if_neg e)
    ·exact bi _ _ λe=>hq (by simp[aH,e])
    ·have hq':q=r:=by simpa[aH]using hq
     subst hq';refine⟨row,_,hrow,a6 _ _ _,rfl,by simpa[hzl]using hlen,λlab2 hl=>?_⟩;have hgoal:bZ w' lab2 q ⟨e,t,ys,true,row.nilE⟩ (E.rv q):=by
      refine⟨css,hrow',λk hk=>?_,⟨Ls,hall,hn2,λk hk=>?_⟩,λh1 h2=>hnil h1 (by rw[<-hlen];exact h2)⟩
      ·have hm:k∈(E.rv q).ownBlock.toList:=by rw[hk];simp
       exact(hl k (List.mem_append_left _ hm)).trans (if_pos hm)
      ·have hm:k∉(E.rv q).ownBlock.toList:=λhm=>hn3 k hm k hk rfl;exact(hl k (List.mem_append_right _ hk)).trans (if_neg hm)
     obtain⟨re,rt,rxs,rdeep,rnil⟩:=row;simp only at et he ez ⊢;subst et he ez;exact hgoal
   ·cases hu
  ·cases hu
 ·obtain⟨u,rfl,hu1⟩:=cv hc;injection hu with hu;subst hu;obtain⟨v,css,Ls,hvs,hrow',rfl,hall⟩:=ho;injection hvs with hvs;subst hvs;obtain rfl:u=_:=hu1;obtain⟨A',c',hv',_⟩:=iu hrow';have h0:ys.length=0:=by injection hv' with _ h2 _;exact h2.symm
  have hLs:Ls=[]:=by have:=hall.len1;rw[h0]at this;exact List.eq_nil_of_length_eq_zero this
  subst hLs;exact⟨λ_=>.st,(λk hk=>by simp[Value.ownBlock]at hk),λ_ _=>rfl,λq hq=>by simp[aH]at hq⟩
 ·cases hu
def LN{look look':Nat->Option ae}{e:Nat}{t:Ty}{cs:List ai}(h:∀q∈aH cs,look' q=look q):iU look' e t cs=iU look e t cs:=by
 unfold iU;split;·rfl
 ·rename_i r;rw[h r (by simp[aH])]
 ·rfl
def wV{look look':Nat->Option ae}:∀{t:Ty}{cs:List ai},(∀q∈aH cs,look' q=look q)->dJ look' t cs=dJ look t cs
 |.int _,_,_=>rfl
 |.bool,_,_=>rfl
 |.fnc _,_,_=>rfl
 |.str,_,_=>rfl
 |.err,_,_=>rfl
 |.sl e t,cs,h=>LN h
 |.pair a b,cs,h=>by rw[BY a.nc]at h;simp only[dJ];rw[wV λq hq=>h q (List.mem_append_left _ hq),wV λq hq=>h q (List.mem_append_right _ hq)]
def wW:∀{t:Ty}{cs:List ai}{us:List Value}{y x:t.den}{look look':Nat->Option ae}{L:List Nat},pS t cs y look=some look'->dJ look t cs=some x->ak (am V E w) cs us->aB w' t L us y->L.Nodup->(aH cs).Nodup ->
  (∀q∈aH cs,∀row,look q=some row->wU E q row)->∃f,nQ look look' (aH cs) L E w' f
 |.int k,cs,us,y,x,look,look',L,hu,hp,hc,ho,_,_,_=>by injection hu with hu;subst hu;obtain rfl:=mi hp;obtain⟨_,rfl⟩:=ho;exact⟨λ_=>.st,(λk hk=>by cases hk),λ_ _=>rfl,λq hq=>by simp[aH]at hq⟩
 |.bool,cs,us,y,x,look,look',L,hu,hp,hc,ho,_,_,_=>by injection hu with hu;subst hu;obtain rfl:=nH hp;obtain⟨_,rfl⟩:=ho;exact⟨λ_=>.st,(λk hk=>by cases hk),λ_ _=>rfl,λq hq=>by simp[aH]at hq⟩
 |.fnc _,cs,us,y,x,look,look',L,hu,hp,hc,ho,_,_,_=>by injection hu with hu;subst hu;obtain rfl:=pI hp;obtain⟨_,rfl⟩:=ho;exact⟨λ_=>.st,(λk hk=>by cases hk),λ_ _=>rfl,λq hq=>by simp[aH]at hq⟩
 |.err,cs,us,y,x,look,look',L,hu,hp,hc,ho,_,_,_=>by cases hu
 |.str,cs,us,y,x,look,look',L,hu,hp,hc,ho,_,_,_=>by injection hu with hu;subst hu;obtain rfl:=mj hp;obtain⟨_,rfl⟩:=ho;exact⟨λ_=>.st,(λk hk=>by cases hk),λ_ _=>rfl,λq hq=>by simp[aH]at hq⟩
 |.sl e t,cs,us,y,x,look,look',L,hu,hp,hc,ho,hL,_,hw=>LK hu hc ho hL λq hq row hrow=>⟨hw q hq row hrow,by
   rcases wh (V:={ slot:=λ_=>.c .undef,box:=λ_=>none,row:=look }) (show iU look e t cs=some x from hp)with⟨rfl,_⟩|⟨r,row',rfl,h1,h2,_⟩;·simp[aH]at hq
   ·have:q=r:=by simpa[aH]using hq
    subst this;have h3:look q=some row':=h1;rw[hrow]at h3;injection h3 with h3;subst h3;exact h2⟩
 |.pair t1 t2,cs,us,y,x,look,look',L,hu,hp,hc,ho,hL,hn,hw=>by
  simp only[pS]at hu;split at hu
  ·rename_i l1 hl1;obtain⟨p1,p2⟩:=ef hp;obtain⟨L1,L2,rfl,o1,o2⟩:=LJ ho;obtain⟨hn1,hn2,hn3⟩:=List.nodup_append.1 hL;rw[BY t1.nc]at hn hw ⊢;obtain⟨qn1,qn2,qn3⟩:=List.nodup_append.1 hn;obtain⟨f1,W1⟩:=wW hl1 p1 (hc.take _) o1 hn1 qn1 λq hq=>hw q (List.mem_append_left _ hq);have hsame:∀q∈aH (cs.drop t1.nc),l1 q=look q:=λq hq=>W1.other q λh'=>qn3 q h' q hq rfl;have p2':dJ l1 t2 (cs.drop t1.nc)=some x.2:=by rw[<-p2];exact wV hsame
   obtain⟨f2,W2⟩:=wW hu p2' (hc.drop _) o2 hn2 qn2 λq hq row hr=>hw q (List.mem_append_right _ hq) row (by rw[<-hsame q hq];exact hr);refine⟨λk=>if k∈L1 then f1 k else f2 k,λk hk=>?_,λq hq=>?_,λq hq=>?_⟩
   ·rcases List.mem_append.1 hk with hk|hk;·obtain⟨q,k1,k2⟩:=W1.lab k hk;exact⟨q,List.mem_append_left _ k1,by simpa[hk]using k2⟩
    ·have hne:k∉L1:=λh'=>hn3 k h' k hk rfl;obtain⟨q,k1,k2⟩:=W2.lab k hk;exact⟨q,List.mem_append_right _ k1,by simpa[hne]using k2⟩
   ·rw[W2.other q λh'=>hq (List.mem_append_right _ h'),W1.other q λh'=>hq (List.mem_append_left _ h')]
   ·rcases List.mem_append.1 hq with hq|hq;·obtain⟨row,row',k1,k2,k3,k4,k5⟩:=W1.row q hq;refine⟨row,row',k1, ?_,k3,k4,λlab2 hl=>k5 lab2 λk hk=>(hl k (List.mem_append_left _ hk)).trans (if_pos hk)⟩;rw[W2.other q λh'=>qn3 q hq q h' rfl];exact k2
    ·obtain⟨row,row',k1,k2,k3,k4,k5⟩:=W2.row q hq;exact⟨row,row',by rw[<-hsame q hq];exact k1,k2,k3,k4,λlab2 hl=>k5 lab2 λk hk=>(hl k (List.mem_append_right _ hk)).trans (if_neg (λh'=>hn3 k h' k hk rfl))⟩
  ·cases hu
end
def gy:Bool->SV->Option (List ai)
 |true,.agg l=>some l
 |false,.c x=>some [x]
 |_,_=>none
def gT(bad:List Nat)(look:Nat->Option ae):(ps:List PT)->List SV->Option (av ps)
 |[],[]=>some ()
 |p::ps,s::ss=>match gy p.agg s with
  |some cs=>ee (cond p.io (dJ look p.t cs) (pR bad look p.t cs)) (gT bad look ps ss)
  |none=>none
 |[],_::_=>none
 |_::_,[]=>none
def fF:List PT->List SV->List ai
 |p::ps,s::ss=>cond p.io (match gy p.agg s with|some cs=>cs|none=>[]) (fF ps ss)
 |_,_=>[]
def mB:List (Nat×ae)->(Nat->Option ae)->Option (Nat->Option ae)
 |[],look=>some look
 | (r,row)::l,look=>match look r with
  |none=>mB l (au look r (some row))
  |some _=>none
def cK(d:Nat):(rs:List PT)->av rs->Nat->List (Bool×List ai)×List (Nat×ae)×Nat
 |[],_,j=>([],[],j)
 |r::rs,Y,j=>match fo r.io d r.t Y.1 j with
  | (c1,r1,j1)=>match cK d rs Y.2 j1 with
   | (cs,r2,j2)=>((r.agg,c1)::cs,r1++r2,j2)
def nR:List (Bool×List ai)->SV
 |[(true,l)]=>.agg l
 |[(false,[c])]=>.c c
 |[(false,l)]=>.agg l
 |l=>.tup l
def fN(qs:List Nat):ai->ai
 |.sn e t xs (some q)=>cond (bF q qs) .undef (.sn e t xs (some q))
 |.full e t xs (some q)=>cond (bF q qs) .undef (.full e t xs (some q))
 |.selt t x (some q) f=>cond (bF q qs) .undef (.selt t x (some q) f)
 |c=>c
def BZ(p:PT)(s:SV){A:Type}(next:A->(Nat->Option ae)->Option (Nat->Option ae)):cond p.io p.t.den A->(Nat->Option ae)->Option (Nat->Option ae) :=
 match p with
 |⟨t,agg,true⟩=>λy look=>match gy agg s with
  |some cs=>pS t cs y look
  |none=>none
 |⟨t,agg,false⟩=>λy look=>next y look
def nS:(ps:List PT)->List SV->de ps->(Nat->Option ae)->Option (Nat->Option ae)
 |[],_,_,look=>some look
 |p::ps,s::ss,y,look=>BZ p s (nS ps ss) y look
 |_::_,[],_,look=>none
def St.withRow(V:St)(look:Nat->Option ae):St:=⟨V.slot,V.box,look⟩
def jd(qs:List Nat)(V:St):St:=match qs with
 |[]=>V
 |q::qs=>V.mapc (fN (q::qs))
def wX(en:aQ)(V:St)(ss:List SV):Option (av en.sig.ps) :=
 cond (dQ en.sig.ps&&dL (aH (fF en.sig.ps ss))) (gT (aH (fF en.sig.ps ss)) V.row en.sig.ps ss) none
def sx(en:aQ)(V:St)(dst:Option Nat)(qs:List Nat)(look:Nat->Option ae)(Y:av en.sig.rs):Option St :=
 match dst with
 |some d=>match cK d en.sig.rs Y 0 with
  | (cs,rows,_)=>match mB rows look with
   |some look=>some (((jd qs V).withRow look).put d (nR cs))
   |none=>none
 |none=>some ((jd qs V).withRow look)
def wY(en:aQ)(V:St)(dst:Option Nat)(ss:List SV)(r:de en.sig.ps×av en.sig.rs):Option St :=
 match nS en.sig.ps ss r.1 V.row with
 |some look=>sx en V dst (aH (fF en.sig.ps ss)) look r.2
 |none=>none
section
variable {P : Program} {V V' : St} {E E' : aP} {w w' : World} {w0 : World} {lab0 : Nat → aC} {oo : Nat → Value} {n : Nat} {a : Act} [DC]
def mC{agg:Bool}{s:SV}{cs:List ai}{v:Value}(h:gy agg s=some cs)(hs:aL V E w s v):∃us,gd agg v us/\ak (am V E w) cs us:=by
 unfold gy at h;split at h;·injection h with h;subst h;obtain⟨arr,e,h⟩:=hs;exact⟨arr.toList,⟨arr,e,rfl⟩,h⟩
 ·injection h with h;subst h;exact⟨[v],rfl,hs,trivial⟩
 ·cases h
def gd.uniq{agg:Bool}{v:Value}{us us':List Value}(h:gd agg v us)(h':gd agg v us'):us=us':=by
 cases agg;·exact(show us=[v]from h).trans (show us'=[v]from h').symm
 ·obtain⟨arr,e,rfl⟩:=h;obtain⟨arr',e',rfl⟩:=h';rw[e]at e';injection e' with e';rw[e']
def B1(h:R w0 lab0 oo n V E a w){bad:List Nat}{L:List Nat}(hL:∀k,gw E.lab bad k->k∉L):∀{ps:List PT}{ss:List SV}{vs:List Value}{X:av ps},ck ps=true->gT bad V.row ps ss=some X->ak (aL V E w) ss vs->ej w L ps vs X
 |[],[],[],_,_,_,_=>trivial
 |p::ps,s::ss,v::vs,X,hn,hp,hs=>by
  simp only[gT]at hp;split at hp;·rename_i cs hcs;obtain⟨h1,h2⟩:=ef hp;simp only[ck,List.all_cons,Bool.and_eq_true,Bool.not_eq_true']at hn;rw[hn.1]at h1;obtain⟨us,k1,k2⟩:=mC hcs hs.1;refine⟨⟨us,k1, ?_⟩,B1 h hL hn.2 h2 hs.2⟩;rw[hn.1];exact(my h h1 k2).mono λk hk=>hL k hk.1
  ·cases hp
 |[],[],_::_,_,_,_,hs=>hs.elim
 |[],_::_,_,_,_,hp,_=>by cases hp
 |_::_,[],_,_,_,hp,_=>by cases hp
 |_::_,_::_,[],_,_,_,hs=>hs.elim
structure sy(B:Nat)(L0:List Nat)(look look':Nat->Option ae)(qs:List Nat)(L:List Nat)(E:aP)(w':World)(f:Nat->aC):Prop where
 other:∀q,q∉qs->look' q=look q
 row:∀q∈qs,∃row row',look q=some row/\look' q=some row'/\row'.t=row.t/\row'.xs.length=row.xs.length/\∀lab2:Nat->aC,(∀k∈L,lab2 k=f k)->(∀k,k<B->k∉L0->k∉L->lab2 k=E.lab k)->bZ w' lab2 q row' (E.rv q)
def nQ.two{B:Nat}{L0:List Nat}{look look':Nat->Option ae}{qs L:List Nat}{f:Nat->aC}(h:nQ look look' qs L E w' f):sy B L0 look look' qs L E w' f :=
 ⟨h.other,λq hq=>by obtain⟨row,row',h1,h2,h3,h4,h5⟩:=h.row q hq;exact⟨row,row',h1,h2,h3,h4,λlab2 hl _=>h5 lab2 hl⟩⟩
structure B2(V:St)(E:aP)(w:World)(qs:List Nat)(L:List Nat):Prop where
 nodup:L.Nodup
 lt:∀k∈L,k<w.heap.size
 lab:∀k∈L,∃q∈qs,dM E.lab q k
def B3(h:R w0 lab0 oo n V E a w):∀{ps:List PT}{ss:List SV}{vs:List Value}{X:av ps},dQ ps=true->dL (aH (fF ps ss))=true->gT (aH (fF ps ss)) V.row ps ss=some X->ak (aL V E w) ss vs ->
  ∃L,B2 V E w (aH (fF ps ss)) L/\ej w L ps vs X/\(ck ps=true->L=[]) /\
   (∀{y:de ps}{look':Nat->Option ae}{w':World}{L':List Nat},nS ps ss y V.row=some look'->kU w' L' ps vs y->L'.Nodup->∃f,nQ V.row look' (aH (fF ps ss)) L' E w' f):=by
 intro ps ss vs X h1 hn hp hs;have key:∀(bad:List Nat) {ps:List PT}{ss:List SV}{vs:List Value}{X:av ps},dQ ps=true->bad=aH (fF ps ss)->bad.Nodup->gT bad V.row ps ss=some X->ak (aL V E w) ss vs ->
   ∃L,B2 V E w bad L/\(∀L2:List Nat,(∀k,gw E.lab bad k->k∉L2)->(ck ps=false->L2=L)->ej w L2 ps vs X)/\(ck ps=true->L=[]) /\
   (∀{y:de ps}{look':Nat->Option ae}{w':World}{L':List Nat},nS ps ss y V.row=some look'->kU w' L' ps vs y->L'.Nodup->∃f,nQ V.row look' bad L' E w' f):=by
  intro bad ps;induction ps with
  |nil =>
   intro ss vs X _ hb _ hp hs;cases ss with
   |nil=>cases vs with
    |nil =>subst hb;refine⟨[],⟨List.nodup_nil,(λk hk=>by cases hk),λk hk=>by cases hk⟩,λ_ _ _=>trivial,λ_=>rfl,λ{y look' w' L'} hu hi _=>?_⟩;injection hu with hu;subst hu;obtain rfl:L'=[]:=hi;exact⟨λ_=>.st,(λk hk=>by cases hk),λ_ _=>rfl,λq hq=>by simp[fF,aH]at hq⟩
    |cons _ _=>exact hs.elim
   |cons _ _=>cases hp
  |cons p ps ih =>
   intro ss vs X h1 hb hbn hp hs;cases ss with
   |nil=>cases hp
   |cons s ss=>cases vs with
    |nil=>exact hs.elim
    |cons v vs =>
     simp only[gT]at hp;split at hp
     ·rename_i cs hcs;obtain⟨g1,g2⟩:=ef hp;obtain⟨us,k1,k2⟩:=mC hcs hs.1;obtain⟨t,agg,io⟩:=p;cases io;·simp only[dQ,cond_false]at h1;simp only[fF,cond_false]at hb;simp only[cond_false]at g1;obtain⟨L,i1,i2,i3,i4⟩:=ih h1 hb hbn g2 hs.2;refine⟨L,i1,λL2 hL2 hL2'=>⟨⟨us,k1,(my h g1 k2).mono λk hk=>hL2 k hk.1⟩,i2 L2 hL2 (λhf=>hL2' (by simpa[ck]using hf))⟩,λhf=>i3 (by simpa[ck]using hf),λ{y look' w' L'} hu hi hL'=>?_⟩;exact i4 hu hi hL'
      ·simp only[dQ,cond_true]at h1;simp only[fF,cond_true]at hb;simp only[]at hcs;rw[hcs]at hb;simp only at hb;subst hb;simp only[cond_true]at g1;obtain⟨L,o1,o2,o3⟩:=gR h g1 k2 hbn;refine⟨L,⟨o2,o1.lt,o3⟩,λL2 hL2 hL2'=>⟨⟨us,k1, ?_⟩,B1 h hL2 h1 g2 hs.2⟩,λhf=>by simp[ck]at hf,λ{y look' w' L'} hu hi hL'=>?_⟩;·rw[hL2' (by simp[ck])];exact o1
       ·obtain⟨us',j1,j2⟩:=(hi:∃cs,gd agg v cs/\aB w' t L' cs y);have:=gd.uniq k1 j1;subst this;simp only[nS,BZ,hcs]at hu;refine wW hu g1 k2 j2 hL' hbn λq hq row hrow=>(h.rows q row hrow).was
     ·cases hp
 obtain⟨L,i1,i2,i3,i4⟩:=key _ h1 rfl (iW hn) hp hs;refine⟨L,i1,i2 L (λk hk hkL=>?_) (λ_=>rfl),i3,i4⟩;obtain⟨q,hq,ho⟩:=i1.lab k hkL;exact hk q hq ho
def sA:∀{l:List (Nat×ae)}{look look':Nat->Option ae},mB l look=some look'->(∀p∈l,look p.1=none/\look' p.1=some p.2)/\(∀r,(∀p∈l,p.1≠r)->look' r=look r)
 |[],look,look',h=>by injection h with h;subst h;exact⟨(λp hp=>by cases hp),λ_ _=>rfl⟩
 | (r,row)::l,look,look',h=>by
  simp only[mB]at h;split at h
  ·rename_i hr;obtain⟨g1,g2⟩:=sA h;refine⟨λp hp=>?_,λq hq=>?_⟩
   ·rcases List.mem_cons.1 hp with rfl|hp
    ·refine⟨hr, ?_⟩;by_cases hex:∃p∈l,p.1=r;·obtain⟨p',hp',e'⟩:=hex;have:=(g1 p' hp').1;rw[e',a6]at this;cases this
     ·rw[g2 r λp hp e=>hex ⟨p,hp,e⟩,a6]
    ·obtain⟨k1,k2⟩:=g1 p hp;refine⟨?_,k2⟩;by_cases e:p.1=r;·rw[e,a6]at k1;cases k1
     ·rwa [bi _ _ e]at k1
   ·rw[g2 q λp hp=>hq p (List.mem_cons_of_mem _ hp),bi];exact λe=>hq (r,row) List.mem_cons_self e.symm
  ·cases h
def sB(σ2:St)(E2:aP)(w:World):List (Bool×List ai)->List Value->Prop :=
 ak λp u=>∃us,gd p.1 u us/\ak (am σ2 E2 w) p.2 us
def sC(d:Nat):∀{rs:List PT}{Y:av rs}{j:Nat},j<=(cK d rs Y j).2.2/\∀p∈(cK d rs Y j).2.1,∃i,j<=i/\i<(cK d rs Y j).2.2/\p.1=aW d i
 |[],_,j=>⟨Nat.le_refl _,λp hp=>by simp[cK]at hp⟩
 |r::rs,Y,j=>by
  have h1:=wS r.io d (t:=r.t) (y:=Y.1) (j:=j);have h2:=sC d (rs:=rs) (Y:=Y.2) (j:=(fo r.io d r.t Y.1 j).2.2);refine⟨Nat.le_trans h1.1 h2.1,λp hp=>?_⟩;simp only[cK,List.mem_append]at hp;rcases hp with hp|hp;·obtain⟨i,k1,k2,k3⟩:=h1.2 p hp;exact⟨i,k1,Nat.lt_of_lt_of_le k2 h2.1,k3⟩
  ·obtain⟨i,k1,k2,k3⟩:=h2.2 p hp;exact⟨i,Nat.le_trans h1.1 k1,k2,k3⟩
def sD(d:Nat):∀{rs:List PT}{vs:List Value}{Y:av rs}{L:List Nat}{j:Nat},mt w rs vs Y L->L.Nodup ->
  ∃(f:Nat->aC) (rvf:Nat->Value),(∀k∈L,∃i,j<=i/\i<(cK d rs Y j).2.2/\(f k=.row (aW d i)\/f k=.inn (aW d i))) /\
   ∀(σ2:St) (E2:aP),(∀k∈L,E2.lab k=f k)->(∀p∈(cK d rs Y j).2.1,E2.rv p.1=rvf p.1) ->
   (∀p∈(cK d rs Y j).2.1,σ2.row p.1=some p.2)->sB σ2 E2 w (cK d rs Y j).1 vs/\∀p∈(cK d rs Y j).2.1,bZ w E2.lab p.1 p.2 (E2.rv p.1)
 |[],[],_,L,j,h,_=>by obtain rfl:L=[]:=h;exact⟨λ_=>.st,λ_=>undef,(λ_ h=>by cases h),λ_ _ _ _ _=>⟨trivial,λp hp=>by simp[cK]at hp⟩⟩
 |[],_::_,_,L,j,h,_=>h.elim
 |_::_,[],_,L,j,h,_=>h.elim
 |r::rs,v::vs,Y,L,j,h,hn=>by
  obtain⟨cs,L1,L2,rfl,hcv,h1,hz,h2⟩:=h;obtain⟨hn1,hn2,hn3⟩:=List.nodup_append.1 hn;obtain⟨f1,v1,a1,b1⟩:=LH r.io d (j:=j) h1 hn1 hz;obtain⟨f2,v2,a2,b2⟩:=sD d (j:=(fo r.io d r.t Y.1 j).2.2) h2 hn2;have m1:=(wS r.io d (t:=r.t) (y:=Y.1) (j:=j)).1;have m2:=(sC d (rs:=rs) (Y:=Y.2) (j:=(fo r.io d r.t Y.1 j).2.2)).1;have hname:∀i,i<(fo r.io d r.t Y.1 j).2.2->∃i',i'<(fo r.io d r.t Y.1 j).2.2/\aW d i=aW d i':=λi hi=>⟨i,hi,rfl⟩;refine⟨λk=>if k∈L1 then f1 k else f2 k,λq=>if ∃i',i'<(fo r.io d r.t Y.1 j).2.2/\q=aW d i' then v1 q else v2 q,λk hk=>?_,λσ2 E2 hl hv hr=>?_⟩
  ·rcases List.mem_append.1 hk with hk|hk;·obtain⟨i,k1,k2,k3⟩:=a1 k hk;exact⟨i,k1,Nat.lt_of_lt_of_le k2 m2,by simpa[hk]using k3⟩
   ·have hne:k∉L1:=λh'=>hn3 k h' k hk rfl;obtain⟨i,k1,k2,k3⟩:=a2 k hk;exact⟨i,Nat.le_trans m1 k1,k2,by simpa[hne]using k3⟩
  ·obtain⟨g1,g2⟩:=b1 σ2 E2 (λk hk=>(hl k (List.mem_append_left _ hk)).trans (if_pos hk)) (λp hp=>by obtain⟨i,i1,i2,i3⟩:=(wS r.io d).2 p hp;refine(hv p (by simp only[cK,List.mem_append];exact .inl hp)).trans (if_pos ?_);rw[i3];exact hname i i2) (λp hp=>hr p (by simp only[cK,List.mem_append];exact .inl hp));obtain⟨g3,g4⟩:=b2 σ2 E2 (λk hk=>(hl k (List.mem_append_right _ hk)).trans (if_neg (λh'=>hn3 k h' k hk rfl))) (λp hp=>by
    obtain⟨i,i1,i2,i3⟩:=(sC d).2 p hp;refine(hv p (by simp only[cK,List.mem_append];exact .inr hp)).trans (if_neg ?_);rintro ⟨i',h1,h2⟩
    have:=mz (i3.symm.trans h2);omega) (λp hp=>hr p (by simp only[cK,List.mem_append];exact .inr hp))
   refine⟨⟨⟨cs,hcv,g1⟩,g3⟩,λp hp=>?_⟩;simp only[cK,List.mem_append]at hp;rcases hp with hp|hp;·exact g2 p hp
   ·exact g4 p hp
def B4{σ2:St}{E2:aP}{cs:List (Bool×List ai)}{vs:List Value}{v:Value}(h:sB σ2 E2 w cs vs)(hr:mv vs v)(hb:∀l,cs≠[(false,l)]\/∃c,l=[c]):aL σ2 E2 w (nR cs) v:=by
 have tup:v=.tuple vs.toArray->aL σ2 E2 w (.tup cs) v:=λe=>⟨vs.toArray,e,by
  refine ak.imp (λp u hp=>?_) (show ak (λ(p:Bool×List ai) u=>∃us,gd p.1 u us/\ak (am σ2 E2 w) p.2 us) cs vs from h);obtain⟨us,k1,k2⟩:=hp;obtain⟨b,l⟩:=p;cases b;·obtain rfl:us=[u]:=k1;exact k2
  ·obtain⟨arr,e,rfl⟩:=k1;exact⟨arr,e,k2⟩⟩
 unfold nR;split
 ·rename_i l;cases vs with
  |nil=>exact h.elim
  |cons u vs=>cases vs with
   |nil =>obtain rfl:v=u:=hr;obtain⟨us,⟨arr,e,rfl⟩,k2⟩:=h.1;exact⟨arr,e,k2⟩
   |cons _ _=>exact h.2.elim
 ·rename_i c;cases vs with
  |nil=>exact h.elim
  |cons u vs=>cases vs with
   |nil =>obtain rfl:v=u:=hr;obtain⟨us,k1,k2⟩:=h.1;obtain rfl:us=[v]:=k1;exact k2.1
   |cons _ _=>exact h.2.elim
 ·rename_i l hl;rcases hb l with h'|⟨c,rfl⟩;·exact absurd rfl h'
  ·exact absurd rfl (hl c)
 ·rename_i h1 h2 h3;refine tup ?_;unfold mv at hr;split at hr
  ·rename_i u;cases cs with
   |nil=>exact h.elim
   |cons p cs=>cases cs with
    |nil =>
     obtain⟨b,l⟩:=p;cases b;·exact absurd rfl (h3 l)
     ·exact absurd rfl (h1 l)
    |cons _ _=>exact h.2.elim
  ·exact hr
end
end Go.Fw
namespace Go.Fw
open Go.RowKit
section
variable {P : Program} {V V' : St} {E E' : aP} {w w' : World} {w0 : World} {lab0 : Nat → aC} {oo : Nat → Value} {n : Nat} {a : Act} {qs : List Nat} [DC]
def sE{lab:Nat->aC}{p:Option Nat}{k:Nat}(hp:∀q,p=some q->q∉qs)(h:lab k=bB p):gw lab qs k:=by
 cases p with
 |none=>exact nN h
 |some q=>exact sw (hp q rfl) (.inr h)
def am.called(hk:∀k,k<w.heap.size->gw E.lab qs k->w'.heap[k]? = w.heap[k]?/\E'.lab k=E.lab k)
  (hrow:∀r row,V.row r=some row->∃row',V'.row r=some row'/\E'.rv r=E.rv r/\row'.t.nc=row.t.nc/\row.xs.length<=row'.xs.length)
  (hbox:∀b te cs,V.box b=some (te,cs)->∃cs',V'.box b=some (te,cs')/\cs'.length=cs.length) (hbb:E'.bb=E.bb) :
  ∀{c:ai}{v:Value},am V E w c v->am V' E' w' (fN qs c) v:=by
 have rd:∀{p:Option Nat}{t:Ty}{cs:List Value}{x:t.den},(∀q,p=some q->q∉qs)->Rd w (λk=>E.lab k=bB p) t cs x->Rd w' (λk=>E'.lab k=bB p) t cs x:=by intro p t cs x hp h;refine(h.lt.frame λk hk' _=>(hk k hk'.2 (sE hp hk'.1)).1).mono λk hk'=>?_;rw[(hk k hk'.2 (sE hp hk'.1)).2];exact hk'.1
 have selt:∀{t:Ty}{x:t.den}{p:Option Nat}{f:Nat}{v:Value},(∀q,p=some q->q∉qs)->am V E w (.selt t x p f) v->am V' E' w' (.selt t x p f) v:=by
  intro t x p f v hp h;obtain⟨ad,cs,h1,h2,h3,h4,h5⟩:=h;have hb:∀j,(ad.add j).block=ad.block:=λj=>by unfold Addr.add;split<;>rfl
  have h0:0<cs.length:=by rw[h4.len];exact t.nc_pos
  have hlt:ad.block<w.heap.size:=by have:=World.block_lt_of_cell? w (ad.add 0) (h5 0 cs[0] (by simp));rwa [hb]at this
  have hkk:=hk ad.block hlt (sE hp h3);refine⟨ad,cs,h1,h2,by rw[hkk.2];exact h3,rd hp h4,λj u hu=>?_⟩;rw[World.cell?_of_block (w:=w) (by rw[hb];exact hkk.1)];exact h5 j u hu
 intro c v h;cases c with
 |undef=>trivial
 |int _ _=>exact h
 |bool _=>exact h
 |str _=>exact h
 |err _=>exact h
 |bor v0 e t xs=>exact⟨h.1,rd (p:=none) (λq hq=>by cases hq) h.2⟩
 |nil=>exact h
 |sn e t xs p =>
  cases p with
  |none=>exact rd (p:=none) (λq hq=>by cases hq) h
  |some q =>
   simp only[fN];cases hm:bF q qs;·exact rd (p:=some q) (λr hr=>by injection hr with hr;subst hr;exact λhx=>by rw[gO.2 hx]at hm;cases hm) h
   ·trivial
 |full e t xs p =>
  cases p with
  |none=>exact⟨rd (p:=none) (λq hq=>by cases hq) h.1,h.2⟩
  |some q =>
   simp only[fN];cases hm:bF q qs;·exact⟨rd (p:=some q) (λr hr=>by injection hr with hr;subst hr;exact λhx=>by rw[gO.2 hx]at hm;cases hm) h.1,h.2⟩
   ·trivial
 |own r =>obtain⟨rfl,h1,h2⟩:=h;obtain⟨row,hr⟩:=Option.isSome_iff_exists.1 h1;obtain⟨row',k1,k2,_⟩:=hrow r row hr;exact⟨k2.symm,by rw[k1];rfl,h2⟩
 |part r lo n =>obtain⟨row,A,c,h1,h2,h3,h4,h5,h6,h7,h8⟩:=h;obtain⟨row',g1,g2,g3,g4⟩:=hrow r row h1;refine⟨row',A,c,g1,h2,h3,by omega,h5,h6,h7,λhn=>?_⟩;rw[g2,g3];exact h8 hn
 |box b f =>obtain⟨rfl,te,cs,h1,h2⟩:=h;obtain⟨cs',g1,g3⟩:=hbox b te cs h1;exact⟨by rw[hbb],te,cs',g1,by omega⟩
 |mp b =>obtain⟨rfl,te,cs,h1⟩:=h;obtain⟨cs',g1,_⟩:=hbox b te cs h1;exact⟨by rw[hbb],te,cs',g1⟩
 |mset t xs=>exact h
 |elt r i f =>obtain⟨row,g,n,c,h1,h2,h3,h4,h5,h6⟩:=h;obtain⟨row',g1,g2,g3,g4⟩:=hrow r row h1;exact⟨row',g,n,c,g1,by rw[g2];exact h2,h3,by omega,by rw[g3];exact h5,by rw[g3];exact h6⟩
 |selt t x p f =>
  cases p with
  |none=>exact selt (p:=none) (λq hq=>by cases hq) h
  |some q =>
   simp only[fN];cases hm:bF q qs;·exact selt (p:=some q) (λr hr=>by injection hr with hr;subst hr;exact λhx=>by rw[gO.2 hx]at hm;cases hm) h
   ·trivial
 |fn f caps =>
  obtain⟨rfl,h⟩:=h;refine⟨?_,λp hp=>?_⟩;·rw[hbb]
  ·obtain⟨te,cs,h1,h2⟩:=h p hp;obtain⟨cs',g1,g3⟩:=hbox _ _ _ h1;exact⟨te,cs',g1,by omega⟩
def wZ:∀c:ai,fN [] c=c
 |.mp _=>rfl
 |.mset _ _=>rfl
 |.sn _ _ _ (some _)=>rfl
 |.full _ _ _ (some _)=>rfl
 |.selt _ _ (some _) _=>rfl
 |.sn _ _ _ none=>rfl
 |.full _ _ _ none=>rfl
 |.selt _ _ none _=>rfl
 |.undef=>rfl
 |.int _ _=>rfl
 |.bool _=>rfl
 |.str _=>rfl
 |.err _=>rfl
 |.bor _ _ _ _=>rfl
 |.nil=>rfl
 |.own _=>rfl
 |.part _ _ _=>rfl
 |.box _ _=>rfl
 |.elt _ _ _=>rfl
 |.fn _ _=>rfl
def sF{l:List ai}{f:ai->ai}(hf:∀c,f c=c):l.map f=l:=by
 induction l with
 |nil=>rfl
 |cons c l ih=>rw[List.map_cons,hf,ih]
def SV.map_id{f:ai->ai}(hf:∀c,f c=c):∀s:SV,s.map f=s
 |.c x=>by simp[SV.map,hf]
 |.agg l=>by simp[SV.map,sF hf]
 |.tup l=>by
  simp only[SV.map];congr 1;induction l with
  |nil=>rfl
  |cons p l ih=>rw[List.map_cons,sF hf,ih]
def LO(V:St)(t:Nat):(jd qs V).slot t=(V.slot t).map (fN qs):=by
 cases qs with
 |nil=>exact(SV.map_id wZ _).symm
 |cons q qs=>rfl
def B5(V:St)(b:Nat):(jd qs V).box b=match V.box b with|some (te,cs)=>some (te,cs.map (fN qs))|none=>none:=by
 cases qs with
 |nil =>
  show V.box b=_;cases V.box b with
  |none=>rfl
  |some p=>simp[sF wZ]
 |cons q qs=>rfl
def ak.mapl{α β γ:Type}{Q:α->β->Prop}{Q':γ->β->Prop}{f:α->γ}(hf:∀a b,Q a b->Q' (f a) b):∀{as:List α}{bs:List β},ak Q as bs->ak Q' (as.map f) bs
 |[],[],_=>trivial
 |_::_,_::_,h=>⟨hf _ _ h.1,ak.mapl hf h.2⟩
 |[],_::_,h=>h.elim
 |_::_,[],h=>h.elim
def aL.mapl{f:ai->ai}(hf:∀c v,am V E w c v->am V' E' w' (f c) v):∀{s:SV}{v:Value},aL V E w s v->aL V' E' w' (s.map f) v
 |.c _,_,h=>hf _ _ h
 |.agg l,_,h=>by obtain⟨arr,e,h⟩:=h;exact⟨arr,e,h.mapl hf⟩
 |.tup l,_,h=>by
  obtain⟨arr,e,h⟩:=h;refine⟨arr,e,h.mapl λp u h=>?_⟩;obtain⟨b,l⟩:=p;cases b;·exact ak.mapl hf (show ak (am V E w) l [u]from h)
  ·obtain⟨ar,e,h⟩:∃ar:Array Value,u=.agg ar/\ak (am V E w) l ar.toList:=h;exact(⟨ar,e,h.mapl hf⟩:∃ar:Array Value,u=.agg ar/\ak (am V' E' w') (l.map f) ar.toList)
def bZ.called{lab lab':Nat->aC}{r:Nat}{row:ae}{v:Value}(hk:∀k,k<w.heap.size->gw lab qs k->w'.heap[k]? = w.heap[k]?/\lab' k=lab k)(hr:r∉qs)(h:bZ w lab r row v):bZ w' lab' r row v:=by
 obtain⟨css,h1,h2,h3,h4⟩:=h;have hlt:∀k,v.ownBlock=some k->k<w.heap.size:=λk hk=>(h1.lt k hk).2;have hb:∀k,v.ownBlock=some k->w'.heap[k]? = w.heap[k]?/\lab' k=lab k:=λk h=>hk k (hlt k h) (sw hr (.inl (h2 k h)));refine⟨css,l7 (λk h=>(hb k h).1) h1,λk h=>by rw[(hb k h).2];exact h2 k h, ?_,h4⟩;cases hd:row.deep;·rw[hd]at h3;exact ak.imp (λc y h=>((h.lt.frame λk hk' _=>(hk k hk'.2 (nN hk'.1)).1)).mono λk hk'=>by rw[(hk k hk'.2 (nN hk'.1)).2];exact hk'.1) h3
 ·rw[hd]at h3;obtain⟨Ls,k1,k2,k3⟩:=h3;have hL:∀k∈Ls.flatten,k<w.heap.size:=λk hk=>by obtain⟨l,hl,hk⟩:=List.mem_flatten.1 hk;have:aR (λ(l:List Nat) (_:List Value) (_:row.t.den)=>∀k∈l,k<w.heap.size) Ls css row.xs:=k1.imp λ_ _ _ ho=>ho.lt;exact jW this l hl k hk
  have hs:∀k∈Ls.flatten,w'.heap[k]? = w.heap[k]?/\lab' k=lab k:=λk h=>hk k (hL k h) (sw hr (.inr (k3 k h)));exact⟨Ls,k1.imp_mem λl c y hl ho=>ho.frame λk h=>(hs k (List.mem_flatten.2 ⟨l,hl,h⟩)).1,k2,λk h=>by rw[(hs k h).2];exact k3 k h⟩
def R.called(h:R w0 lab0 oo n V E a w)(hk:∀k,k<w.heap.size->gw E.lab qs k->w'.heap[k]? = w.heap[k]?/\E'.lab k=E.lab k)
  (ho:w'.os=w.os/\Tp w w'/\w'.output=w.output) (hs:w.heap.size<=w'.heap.size) (hbb:E'.bb=E.bb) {look:Nat->Option ae}
  (hrow:∀r row,V.row r=some row->∃row',look r=some row'/\E'.rv r=E.rv r/\row'.t.nc=row.t.nc/\row.xs.length<=row'.xs.length)
  (hrel:∀r row,look r=some row->(r∉qs/\V.row r=some row)\/bZ w' E'.lab r row (E'.rv r)) :
  R w0 lab0 oo n ((jd qs V).withRow look) E' a w':=by
 have hbox:∀b te cs,V.box b=some (te,cs)->∃cs',((jd qs V).withRow look).box b=some (te,cs')/\cs'.length=cs.length:=λb te cs hb =>⟨cs.map (fN qs),by show(jd qs V).box b=_;rw[B5,hb],by simp⟩;have hc:∀c v,am V E w c v->am ((jd qs V).withRow look) E' w' (fN qs c) v:=λc v h=>am.called hk hrow hbox hbb h;refine⟨h.bound,h.size,h.defers,λt=>?_,λb te cs hb=>?_,λr row hr=>?_, ?_⟩;·show aL _ E' w' ((jd qs V).slot t) _;rw[LO];exact(h.slots t).mapl hc
 ·have hb':(jd qs V).box b=some (te,cs):=hb;rw[B5]at hb';split at hb'
  ·rename_i te' cs' hb2;injection hb' with hb';injection hb' with e1 e2;subst e1 e2;obtain⟨arr,k1,k2,k3,k4⟩:=h.boxes b _ _ hb2;have hlt:=k1.lt;have hsp:gw E.lab qs (E.bb b):=λq _ hq=>by rcases hq with hq|hq<;>rw[k2]at hq<;>cases hq
   obtain⟨j1,j2⟩:=hk _ hlt hsp;exact⟨arr,by rw[hbb,j1];exact k1,by rw[hbb,j2];exact k2,k3.mapl hc,k4⟩
  ·cases hb'
 ·rcases hrel r row hr with⟨h1,h2⟩|h2;·obtain⟨row',_,g2,_⟩:=hrow r row h2;rw[g2];exact(h.rows r row h2).called hk h1
  ·exact h2
 ·refine⟨ho.1.trans h.same.os,ho.2.1.trans h.same.tape,ho.2.2.trans h.same.output,Nat.le_trans h.same.size hs,λk hk' hl=>?_,λk hk' hl=>?_⟩;·obtain⟨g1,g2⟩:=h.same.old k hk' hl;obtain⟨j1,j2⟩:=hk k (Nat.lt_of_lt_of_le hk' h.same.size) (nN g1);exact⟨by rw[j2];exact g1,by rw[j1];exact g2⟩
  ·obtain⟨g1,g2⟩:=h.same.gone k hk' hl;obtain⟨j1,j2⟩:=hk k (Nat.lt_of_lt_of_le hk' h.same.size) (BW g1);exact⟨by rw[j2];exact g1,by rw[j1];exact g2⟩
def pT(d:Nat):∀{t:Ty}{y:t.den}{j:Nat},(aK d t y j).1.length=t.nc
 |.int _,_,_=>rfl
 |.bool,_,_=>rfl
 |.fnc _,_,_=>rfl
 |.str,_,_=>rfl
 |.err,_,_=>rfl
 |.sl _ _,_,_=>rfl
 |.pair a b,x,j=>by simp only[aK,List.length_append,Ty.nc];rw[pT d,pT d]
def LP(io:Bool)(d:Nat){t:Ty}{y:t.den}{j:Nat}:(fo io d t y j).1.length=t.nc:=by
 rcases wR io d t y j with⟨e,s,rfl,h⟩|⟨_,h⟩;·rw[h];rfl
 ·rw[h];exact pT d
def B6{d:Nat}{rs:List PT}{Y:av rs}{j j':Nat}{cs:List (Bool×List ai)}{rows:List (Nat×ae)}(hfl:∀p∈rs,p.agg=false->p.t.nc=1)(h:cK d rs Y j=(cs,rows,j'))(l:List ai):cs≠[(false,l)]\/∃c,l=[c]:=by
 by_cases e:cs=[(false,l)]
 ·right;subst e;cases rs with
  |nil=>simp[cK]at h
  |cons r rs =>
   simp only[cK,Prod.mk.injEq,List.cons.injEq]at h;have h1:=h.1.1.2;have h2:=hfl r List.mem_cons_self h.1.1.1;have h3:l.length=1:=by rw[<-h1,LP,h2]
   match l,h3 with
   |[c],_=>exact⟨c,rfl⟩
 ·exact .inl e
def B7{f:Nat}{en:aQ}(hΓ:pQ P w0 lab0 f en)(h:R w0 lab0 oo n V E a w){args:Array Value}{L:List Nat}{X:av en.sig.ps}(i2:ej w L en.sig.ps args.toList X)(i3:ck en.sig.ps=true->L=[])(i1:L.Nodup)(i1':∀k∈L,k<w.heap.size)
  (hL:∀k,gw E.lab qs k->k∉L) {look:Nat->Option ae}{r:de en.sig.ps×av en.sig.rs}
  (hW:∀{w':World}{L':List Nat},kU w' L' en.sig.ps args.toList r.1->L'.Nodup->(∀k∈L',k∈L\/w.heap.size<=k)->(∀k,k<w.heap.size->k∉L->w'.heap[k]? = w.heap[k]?)->∃f,sy w.heap.size L V.row look qs L' E w' f)
  (hG:en.G X=some r) {dst:Option Nat} (hd:∀d,dst=some d->d<n) (hfl:∀p∈en.sig.rs,p.agg=false->p.t.nc=1) (hout:sx en V dst qs look r.2=some V') :
  dg P f args w λe w'=>∃v E',e=.returned v/\R w0 lab0 oo n V' E' (a.put dst v) w'/\(ck en.sig.ps=true->bS w w'):=by
 refine dg.mono (hΓ w args L X r.1 r.2 i2 i3 i1 i1' hG (λk hk hl=>(h.same.old k hk hl).2) (λk hkL hq=>hL k (nN (h.same.old k hq.1 hq.2).1) hkL)) ?_;rintro e w' ⟨v,vs,L',Lr,rfl,A⟩
 obtain⟨nd1,nd2,nd3⟩:=List.nodup_append.1 A.nodup;have hout2:∀k,k<w.heap.size->k∉L->k∉Lr/\k∉L':=by
  intro k hk hkL;refine⟨λhr=>?_,λhl=>?_⟩
  ·rcases A.fresh k hr with h1|h1;·exact hkL h1
   ·omega
  ·rcases A.from_ k hl with h1|h1;·exact hkL h1
   ·omega
 have hspare:∀k,k<w.heap.size->gw E.lab qs k->k∉L/\k∉Lr/\k∉L':=λk hk hsp=>⟨hL k hsp,hout2 k hk (hL k hsp)⟩;have hext:ck en.sig.ps=true->bS w w':=λhn=>⟨A.os,A.tape,A.output,A.size,λk hk=>A.old k hk (by rw[i3 hn];simp)⟩;obtain⟨f1,W⟩:=hW A.io nd2 A.from_ A.old;have hold:∀q row,V.row q=some row->∃row',look q=some row'/\row'.t.nc=row.t.nc/\row'.xs.length=row.xs.length:=by
  intro q row hrow;by_cases hm:q∈qs;·obtain⟨ro,row',w1,w2,w3,w4,_⟩:=W.row q hm;rw[hrow]at w1;injection w1 with w1;subst w1;exact⟨row',w2,by rw[w3],w4⟩
  ·exact⟨row,by rw[W.other q hm];exact hrow,rfl,rfl⟩
 unfold sx at hout;split at hout
 ·rename_i d;split at hout;rename_i cs rows j hres;split at hout
  ·rename_i look2 hadd;injection hout with hout;subst hout;obtain⟨f2,rvf,c1,c2⟩:=sD d (j:=0) A.res nd1;rw[hres]at c1 c2;obtain⟨ad1,ad2⟩:=sA hadd
   classical
   let E':aP:=⟨λk=>if k∈Lr then f2 k else if k∈L' then f1 k else E.lab k,λq=>if ∃p∈rows,p.1=q then rvf q else E.rv q,E.bb⟩;have hlabr:∀k∈Lr,E'.lab k=f2 k:=λk hk=>if_pos hk;have hlabl:∀k∈L',E'.lab k=f1 k:=λk hk=>(if_neg λh'=>nd3 k h' k hk rfl).trans (if_pos hk);have hlabo:∀k,k<w.heap.size->k∉L->k∉L'->E'.lab k=E.lab k:=λk hk h1 h2=>(if_neg (hout2 k hk h1).1).trans (if_neg h2);have hrvo:∀q,(∀p∈rows,p.1≠q)->E'.rv q=E.rv q:=λq hq=>if_neg λ⟨p,h1,h2⟩=>hq p h1 h2;have hlook:∀q row,look q=some row->∀p∈rows,p.1≠q:=λq row hq p hp e=>by have:=(ad1 p hp).1;rw[e,hq]at this;cases this
   have hR:R w0 lab0 oo n ((jd qs V).withRow look2) E' a w':=by
    refine R.called (E':=E') (qs:=qs) h (λk hk hsp=>?_) ⟨A.os,A.tape,A.output⟩ A.size rfl (λq row hrow=>?_) (λq row hrow=>?_);·obtain⟨s1,s2,s3⟩:=hspare k hk hsp;exact⟨A.old k hk s1,(if_neg s2).trans (if_neg s3)⟩
    ·obtain⟨row',k1,k2,k3⟩:=hold q row hrow;exact⟨row',by rw[ad2 q (hlook q row' k1)];exact k1,hrvo q (hlook q row' k1),k2,by omega⟩
    ·by_cases hex:∃p∈rows,p.1=q;·obtain⟨p,hp,rfl⟩:=hex;have e2:=(ad1 p hp).2;rw[hrow]at e2;injection e2 with e2;subst e2;exact .inr ((c2 ⟨λ_=>.c .undef,λ_=>none,look2⟩ E' hlabr (λp' hp'=>if_pos ⟨p',hp',rfl⟩) (λp' hp'=>(ad1 p' hp').2)).2 p hp)
     ·have hne:∀p∈rows,p.1≠q:=λp hp e=>hex ⟨p,hp,e⟩;rw[ad2 q hne]at hrow;by_cases hm:q∈qs;·obtain⟨ro,row',w1,w2,w3,w4,w5⟩:=W.row q hm;rw[hrow]at w2;injection w2 with w2;subst w2;rw[hrvo q hne];exact .inr (w5 E'.lab hlabl hlabo)
      ·rw[W.other q hm]at hrow;exact .inl ⟨hm,hrow⟩
   refine⟨v,E',rfl,R.put hR (hd d rfl) (B4 (vs:=vs) (c2 _ E' hlabr (λp' hp'=>if_pos ⟨p',hp',rfl⟩) (λp' hp'=>(ad1 p' hp').2)).1 A.ret λl=>?_),hext⟩;exact B6 hfl hres l
  ·cases hout
 ·injection hout with hout;subst hout
  classical
  let E':aP:=⟨λk=>if k∈L' then f1 k else E.lab k,E.rv,E.bb⟩;have hlabl:∀k∈L',E'.lab k=f1 k:=λk hk=>if_pos hk;have hlabo:∀k,k<w.heap.size->k∉L->k∉L'->E'.lab k=E.lab k:=λk hk h1 h2=>if_neg h2;refine⟨v,E',rfl, ?_,hext⟩;show R w0 lab0 oo n _ E' a w';refine R.called (E':=E') (qs:=qs) h (λk hk hsp=>?_) ⟨A.os,A.tape,A.output⟩ A.size rfl (λq row hrow=>?_) (λq row hrow=>?_);·obtain⟨s1,s2,s3⟩:=hspare k hk hsp;exact⟨A.old k hk s1,if_neg s3⟩
  ·obtain⟨row',k1,k2,k3⟩:=hold q row hrow;exact⟨row',k1,rfl,k2,by omega⟩
  ·by_cases hm:q∈qs;·obtain⟨ro,row',w1,w2,w3,w4,w5⟩:=W.row q hm;rw[hrow]at w2;injection w2 with w2;subst w2;exact .inr (w5 E'.lab hlabl hlabo)
   ·rw[W.other q hm]at hrow;exact .inl ⟨hm,hrow⟩
def LQ{f:Nat}{en:aQ}(hΓ:pQ P w0 lab0 f en)(h:R w0 lab0 oo n V E a w){ss:List SV}{args:Array Value}(hs:ak (aL V E w) ss args.toList){X:av en.sig.ps}(hin:wX en V ss=some X)
  {r:de en.sig.ps×av en.sig.rs} (hG:en.G X=some r) {dst:Option Nat} (hd:∀d,dst=some d->d<n) (hfl:∀p∈en.sig.rs,p.agg=false->p.t.nc=1) (hout:wY en V dst ss r=some V') :
  dg P f args w λe w'=>∃v E',e=.returned v/\R w0 lab0 oo n V' E' (a.put dst v) w'/\(ck en.sig.ps=true->bS w w'):=by
 unfold wX at hin;cases hq:(dQ en.sig.ps&&dL (aH (fF en.sig.ps ss)));·rw[hq]at hin;cases hin
 rw[hq]at hin;simp only[Bool.and_eq_true]at hq;simp only[cond_true]at hin;obtain⟨L,i1,i2,i3,i4⟩:=B3 h hq.1 hq.2 hin hs;unfold wY at hout;split at hout
 ·rename_i look hlook;refine B7 hΓ h i2 i3 i1.nodup i1.lt (λk hsp hkL=>?_) (λ{w' L'} hio hnd _ _=>?_) hG hd hfl hout;·obtain⟨q,q1,q2⟩:=i1.lab k hkL;exact hsp q q1 q2
  ·obtain⟨f1,W⟩:=i4 hlook hio hnd;exact⟨f1,W.two⟩
 ·cases hout
def gU{α:Type}:List PT->List α->Option α
 |p::ps,v::vs=>cond p.io (some v) (gU ps vs)
 |_,_=>none
structure w7(V:St)(E:aP)(w:World)(r:Nat)(i:Int)(f:Nat)(row:ae)(v:Value):Prop where
 hrow:V.row r=some row
 deep:row.deep=true
 i0:0<=i
 lt:i<row.xs.length
 cell:∃g m c,E.rv r=.slice (some ⟨g,0,none⟩) m c/\w.cell? ⟨g,i.toNat*row.t.nc+f,none⟩=some v
end
end Go.Fw
namespace Go.Fw
open Go.RowKit
abbrev Rf:=Option (Nat×Ty)
abbrev cL:Rf->Type
 |none=>Unit
 |some p=>p.2.den
structure gV where
 rf:Rf
 ps:List PT
 rs:List PT
 pre:Option (cL rf×av ps->Bool)
 val:cL rf×av ps->cL rf×av rs
def dN(w:World)(S:Nat->Prop):(ps:List PT)->List Value->av ps->List Nat->Prop
 |[],[],_,L=>L=[]
 |p::ps,v::vs,X,L=>∃cs L1 L2,L=L1++L2/\gd p.agg v cs/\cond p.io (aB w p.t L1 cs X.1) (L1=[]/\Rd w S p.t cs X.1)/\dN w S ps vs X.2 L2
 |[],_::_,_,_=>False
 |_::_,[],_,_=>False
def w9(w:World)(te:Nat)(t:Ty)(v:Value)(x:t.den)(g:Nat)(L:List Nat):Prop :=
 v=.pointer (some ⟨g,0,none⟩)/\∃arr:Array Value,w.heap[g]? = some (.cells arr te (0,0))/\(∀u∈arr.toList,u.oneCell'=true)/\aB w t L arr.toList x
def ka(w:World)(S:Nat->Prop):(rf:Rf)->(ps:List PT)->List Value->cL rf->av ps->List Nat->Prop
 |none,ps,vs,_,X,L=>dN w S ps vs X L
 |some p,ps,v::vs,x,X,L=>∃g L1 L2,L=g::(L1++L2)/\w9 w p.1 p.2 v x g L1/\dN w S ps vs X L2
 |some _,_,[],_,_,_=>False
def B9(w':World):(rf:Rf)->List Value->cL rf->List Nat->Prop
 |none,_,_,L=>L=[]
 |some p,v::_,y,L=>∃g,w9 w' p.1 p.2 v y g L/\g∉L
 |some _,[],_,_=>False
structure sH[DC](w:World)(en:gV)(args:List Value)(L:List Nat)(Y:cL en.rf×av en.rs)(v:Value)(w':World)(vs:List Value)(Lf Lr:List Nat):Prop where
 ret:mv vs v
 res:mt w' en.rs vs Y.2 Lr
 ref:B9 w' en.rf args Y.1 Lf
 nodup:(Lr++Lf).Nodup
 fresh:∀k∈Lr++Lf,k∈L\/w.heap.size<=k
 notg:∀g p,en.rf=some p->args.head? = some (.pointer (some ⟨g,0,none⟩))->g∉Lr++Lf
 os:w'.os=w.os
 tape:Tp w w'
 output:w'.output=w.output
 size:w.heap.size<=w'.heap.size
 old:∀k,k<w.heap.size->k∉L->w'.heap[k]? = w.heap[k]?
def fp[DC](P:Program)[Inv P](f:Nat)(en:gV):Prop :=
 ∀(w:World) (args:Array Value) (L:List Nat) (X:cL en.rf×av en.ps),ka w (λk=>k∉L) en.rf en.ps args.toList X.1 X.2 L->L.Nodup->(∀k∈L,k<w.heap.size)->cq en.pre X=true ->
  Inv.I P w->(∀k∈L,¬ Inv.B P k)->dg P f args w λe w'=>∃v vs Lf Lr,e=.returned v/\sH w en args.toList L (en.val X) v w' vs Lf Lr
def xa[DC](P:Program)(w0:World)(lab0:Nat->aC)(f:Nat)(en:gV):Prop :=
 ∀(w:World) (args:Array Value) (L:List Nat) (X:cL en.rf×av en.ps),ka w (λk=>k∉L) en.rf en.ps args.toList X.1 X.2 L->L.Nodup->(∀k∈L,k<w.heap.size)->cq en.pre X=true ->
  (∀k,k<w0.heap.size->lab0 k=.st->w.heap[k]? = w0.heap[k]?)->(∀k∈L,¬ (k<w0.heap.size/\lab0 k=.st))->dg P f args w λe w'=>∃v vs Lf Lr,e=.returned v/\sH w en args.toList L (en.val X) v w' vs Lf Lr
def fp.at[DC]{P:Program}[Inv P]{f:Nat}{en:gV}(h:fp P f en){w0:World}{lab0:Nat->aC}(hI:Inv.I P w0)(hB:∀k,Inv.B P k->lab0 k=.st):xa P w0 lab0 f en :=
 λw args L X h1 h2 h3 h4 h6 h7=>h w args L X h1 h2 h3 h4 (Inv.keep w0 w (λk hk=>h6 k (Inv.lt w0 k hI hk) (hB k hk)) hI) λk hk hb=>h7 k hk ⟨Inv.lt w0 k hI hb,hB k hb⟩
def dS:List PT->List SV->List ai
 |p::ps,s::ss=>(cond p.io (match gy p.agg s with|some cs=>cs|none=>[]) [])++dS ps ss
 |_,_=>[]
def pU(V:St):Rf->List SV->Option (List ai×List SV)
 |none,ss=>some ([],ss)
 |some p,.c (.box b 0)::ss=>match V.box b with
  |some (te,cs)=>cond (Nat.beq te p.1&&Nat.blt te cd) (some (cs,ss)) none
  |none=>none
 |some _,_=>none
def Ca(look:Nat->Option ae):(rf:Rf)->List ai->Option (cL rf)
 |none,_=>some ()
 |some p,cs=>dJ look p.2 cs
def xc(en:gV)(V:St)(ss:List SV):Option (List Nat×(cL en.rf×av en.ps)) :=
 match pU V en.rf ss with
 |some (cs,ss')=>cond (dL (aH (cs++dS en.ps ss')))
  (match ee (Ca V.row en.rf cs) (gT (aH (cs++dS en.ps ss')) V.row en.ps ss')with
   |some X=>some (aH (cs++dS en.ps ss'),X)
   |none=>none) none
 |none=>none
def eo(qs:List Nat):ai->ai
 |.own q=>cond (bF q qs) .undef (.own q)
 |.part q lo n=>cond (bF q qs) .undef (.part q lo n)
 |.elt q i f=>cond (bF q qs) .undef (.elt q i f)
 |c=>fN qs c
def nU(qs:List Nat):Option (Nat×List ai)->Option (Nat×List ai)
 |some (te,cs)=>some (te,cs.map (eo qs))
 |none=>none
def dx:Option Nat->Nat
 |some d=>d
 |none=>99999
def xd(d:Nat):(rf:Rf)->cL rf->List ai×List (Nat×ae)×Nat
 |none,_=>([],[],0)
 |some p,y=>aK d p.2 y 0
def LT:Rf->List SV->List ai->(Nat->Option (Nat×List ai))->Nat->Option (Nat×List ai)
 |some p,.c (.box b 0)::_,cs,bx=>au bx b (some (p.1,cs))
 |_,_,_,bx=>bx
def xe(V:St)(dst:Option Nat)(s:SV):St:=match dst with
 |some d=>V.put d s
 |none=>V
def sI(en:gV)(V:St)(dst:Option Nat)(ss:List SV)(qs:List Nat)(Y:cL en.rf×av en.rs):Option St :=
 match xd (dx dst) en.rf Y.1 with
 | (c1,r1,j1)=>match cK (dx dst) en.rs Y.2 j1 with
  | (cs,r2,_)=>match mB (r1++r2) (λr=>cond (bF r qs) none (V.row r))with
   |some look=>some (xe ⟨λt=>(V.slot t).map (eo qs),LT en.rf ss c1 (λb=>nU qs (V.box b)),look⟩ dst (nR cs))
   |none=>none
section
variable {P : Program} {V V' : St} {E E' : aP} {w w' : World} {w0 : World} {lab0 : Nat → aC} {oo : Nat → Value} {n : Nat} {a : Act} {qs : List Nat} [DC]
def dN.mono{S S':Nat->Prop}(h:∀k,S k->S' k):∀{ps:List PT}{vs:List Value}{X:av ps}{L:List Nat},dN w S ps vs X L->dN w S' ps vs X L
 |[],[],_,_,h'=>h'
 |p::ps,v::vs,X,L,h'=>by
  obtain⟨cs,L1,L2,e,h1,h2,h3⟩:=h';refine⟨cs,L1,L2,e,h1, ?_,h3.mono h⟩;cases hio:p.io;·rw[hio]at h2;exact⟨h2.1,h2.2.mono h⟩
  ·rw[hio]at h2;exact h2
 |[],_::_,_,_,h'=>h'.elim
 |_::_,[],_,_,h'=>h'.elim
def nV(h:R w0 lab0 oo n V E a w){bad:List Nat}:∀{ps:List PT}{ss:List SV}{vs:List Value}{X:av ps},gT bad V.row ps ss=some X->ak (aL V E w) ss vs->(aH (dS ps ss)).Nodup ->
  ∃L,dN w (iZ E.lab bad) ps vs X L/\L.Nodup/\(∀k∈L,∃q∈aH (dS ps ss),dM E.lab q k)/\∀k∈L,k<w.heap.size
 |[],[],[],X,_,_,_=>⟨[],rfl,List.nodup_nil,(λk hk=>by cases hk),λk hk=>by cases hk⟩
 |p::ps,s::ss,v::vs,X,hp,hs,hn=>by
  simp only[gT]at hp;split at hp
  ·rename_i cs hcs;obtain⟨g1,g2⟩:=ef hp;obtain⟨us,k1,k2⟩:=mC hcs hs.1;obtain⟨t,agg,io⟩:=p;cases io;·have hm:dS (⟨t,agg,false⟩::ps) (s::ss)=dS ps ss:=rfl;rw[hm]at hn ⊢;obtain⟨L,i1,i2,i3,i4⟩:=nV h g2 hs.2 hn;exact⟨L,⟨us,[],L,rfl,k1,⟨rfl,my h g1 k2⟩,i1⟩,i2,i3,i4⟩
   ·have hcs':gy agg s=some cs:=hcs;have hm:dS (⟨t,agg,true⟩::ps) (s::ss)=cs++dS ps ss:=by simp only[dS,hcs',cond_true]
    rw[hm,gP]at hn ⊢;obtain⟨n1,n2,n3⟩:=List.nodup_append.1 hn;obtain⟨L1,o1,o2,o3⟩:=gR h g1 k2 n1;obtain⟨L2,i1,i2,i3,i4⟩:=nV h g2 hs.2 n2;refine⟨L1++L2,⟨us,L1,L2,rfl,k1,o1,i1⟩,List.nodup_append.2 ⟨o2,i2,λx hx y hy e=>?_⟩,λk hk=>?_,λk hk=>?_⟩;·subst e;obtain⟨q,q1,q2⟩:=o3 x hx;obtain⟨q',q1',q2'⟩:=i3 x hy;exact n3 q q1 q' q1' (jZ q2 q2')
    ·rcases List.mem_append.1 hk with hk|hk;·obtain⟨q,q1,q2⟩:=o3 k hk;exact⟨q,List.mem_append_left _ q1,q2⟩
     ·obtain⟨q,q1,q2⟩:=i3 k hk;exact⟨q,List.mem_append_right _ q1,q2⟩
    ·rcases List.mem_append.1 hk with hk|hk;·exact o1.lt k hk
     ·exact i4 k hk
  ·cases hp
 |[],[],_::_,_,_,hs,_=>hs.elim
 |[],_::_,_,_,hp,_,_=>by cases hp
 |_::_,[],_,_,hp,_,_=>by cases hp
 |_::_,_::_,[],_,_,hs,_=>hs.elim
def fq(lab:Nat->aC)(qs:List Nat)(B:Nat->Prop)(k:Nat):Prop:=gw lab qs k/\∀b,B b->lab k≠.box b
def nW{lab:Nat->aC}{B:Nat->Prop}{k:Nat}(h:iZ lab qs k):fq lab qs B k:=⟨h.1,λb _=>h.2 b⟩
section
variable {B : Nat → Prop}
def xf{lab:Nat->aC}{p:Option Nat}{k:Nat}(hp:∀q,p=some q->q∉qs)(h:lab k=bB p):fq lab qs B k:=⟨sE hp h,λb _ hb=>by rw[h]at hb;cases p<;>cases hb⟩
def Cb{lab:Nat->aC}{r k:Nat}(hr:r∉qs)(h:dM lab r k):fq lab qs B k:=nW (nO hr h)
def Cc{lab:Nat->aC}{k:Nat}(h:lab k=.dead):fq lab qs B k:=nW (LG h)
def mE{lab:Nat->aC}{k:Nat}(h:lab k=.st):fq lab qs B k:=nW (nP h)
def am.moved(hk:∀k,k<w.heap.size->fq E.lab qs B k->w'.heap[k]? = w.heap[k]?/\E'.lab k=E.lab k)
  (hrow:∀r row,r∉qs->V.row r=some row->∃row',V'.row r=some row'/\E'.rv r=E.rv r/\row'.t.nc=row.t.nc/\row.xs.length<=row'.xs.length)
  (hbox:∀b te cs,V.box b=some (te,cs)->∃cs',V'.box b=some (te,cs')/\cs'.length=cs.length) (hbb:E'.bb=E.bb) :
  ∀{c:ai}{v:Value},am V E w c v->am V' E' w' (eo qs c) v:=by
 have nm:∀{q:Nat},bF q qs=false->q∉qs:=λhm hx=>by rw[gO.2 hx]at hm;cases hm
 have rd:∀{p:Option Nat}{t:Ty}{cs:List Value}{x:t.den},(∀q,p=some q->q∉qs)->Rd w (λk=>E.lab k=bB p) t cs x->Rd w' (λk=>E'.lab k=bB p) t cs x:=by intro p t cs x hp h;refine(h.lt.frame λk hk' _=>(hk k hk'.2 (xf hp hk'.1)).1).mono λk hk'=>?_;rw[(hk k hk'.2 (xf hp hk'.1)).2];exact hk'.1
 have selt:∀{t:Ty}{x:t.den}{p:Option Nat}{f:Nat}{v:Value},(∀q,p=some q->q∉qs)->am V E w (.selt t x p f) v->am V' E' w' (.selt t x p f) v:=by
  intro t x p f v hp h;obtain⟨ad,cs,h1,h2,h3,h4,h5⟩:=h;have hb:∀j,(ad.add j).block=ad.block:=λj=>by unfold Addr.add;split<;>rfl
  have h0:0<cs.length:=by rw[h4.len];exact t.nc_pos
  have hlt:ad.block<w.heap.size:=by have:=World.block_lt_of_cell? w (ad.add 0) (h5 0 cs[0] (by simp));rwa [hb]at this
  have hkk:=hk ad.block hlt (xf hp h3);refine⟨ad,cs,h1,h2,by rw[hkk.2];exact h3,rd hp h4,λj u hu=>?_⟩;rw[World.cell?_of_block (w:=w) (by rw[hb];exact hkk.1)];exact h5 j u hu
 have one:∀{q:Nat},q∉qs->∀r,some q=some r->r∉qs:=λhq r hr=>by injection hr with hr;subst hr;exact hq
 intro c v h;cases c with
 |undef=>trivial
 |int _ _=>exact h
 |bool _=>exact h
 |str _=>exact h
 |err _=>exact h
 |bor v0 e t xs=>exact⟨h.1,rd (p:=none) (λq hq=>by cases hq) h.2⟩
 |nil=>exact h
 |sn e t xs p =>
  cases p with
  |none=>exact rd (p:=none) (λq hq=>by cases hq) h
  |some q =>
   simp only[eo,fN];cases hm:bF q qs;·exact rd (p:=some q) (one (nm hm)) h
   ·trivial
 |full e t xs p =>
  cases p with
  |none=>exact⟨rd (p:=none) (λq hq=>by cases hq) h.1,h.2⟩
  |some q =>
   simp only[eo,fN];cases hm:bF q qs;·exact⟨rd (p:=some q) (one (nm hm)) h.1,h.2⟩
   ·trivial
 |own r =>
  simp only[eo];cases hm:bF r qs;·obtain⟨rfl,h1,h2⟩:=h;obtain⟨row,hr⟩:=Option.isSome_iff_exists.1 h1;obtain⟨row',k1,k2,_⟩:=hrow r row (nm hm) hr;exact⟨k2.symm,by rw[k1];rfl,h2⟩
  ·trivial
 |part r lo n =>
  simp only[eo];cases hm:bF r qs;·obtain⟨row,A,c,h1,h2,h3,h4,h5,h6,h7,h8⟩:=h;obtain⟨row',g1,g2,g3,g4⟩:=hrow r row (nm hm) h1;refine⟨row',A,c,g1,h2,h3,by omega,h5,h6,h7,λhn=>?_⟩;rw[g2,g3];exact h8 hn
  ·trivial
 |box b f =>obtain⟨rfl,te,cs,h1,h2⟩:=h;obtain⟨cs',g1,g3⟩:=hbox b te cs h1;exact⟨by rw[hbb],te,cs',g1,by omega⟩
 |mp b =>obtain⟨rfl,te,cs,h1⟩:=h;obtain⟨cs',g1,_⟩:=hbox b te cs h1;exact⟨by rw[hbb],te,cs',g1⟩
 |mset t xs=>exact h
 |elt r i f =>
  simp only[eo];cases hm:bF r qs;·obtain⟨row,g,n,c,h1,h2,h3,h4,h5,h6⟩:=h;obtain⟨row',g1,g2,g3,g4⟩:=hrow r row (nm hm) h1;exact⟨row',g,n,c,g1,by rw[g2];exact h2,h3,by omega,by rw[g3];exact h5,by rw[g3];exact h6⟩
  ·trivial
 |selt t x p f =>
  cases p with
  |none=>exact selt (p:=none) (λq hq=>by cases hq) h
  |some q =>
   simp only[eo,fN];cases hm:bF q qs;·exact selt (p:=some q) (one (nm hm)) h
   ·trivial
 |fn f caps =>
  obtain⟨rfl,h⟩:=h;refine⟨?_,λp hp=>?_⟩;·rw[hbb]
  ·obtain⟨te,cs,h1,h2⟩:=h p hp;obtain⟨cs',g1,g3⟩:=hbox _ _ _ h1;exact⟨te,cs',g1,by omega⟩
def bZ.moved{lab lab':Nat->aC}{r:Nat}{row:ae}{v:Value}(hk:∀k,k<w.heap.size->fq lab qs B k->w'.heap[k]? = w.heap[k]?/\lab' k=lab k)(hr:r∉qs)(h:bZ w lab r row v):bZ w' lab' r row v:=by
 obtain⟨css,h1,h2,h3,h4⟩:=h;have hlt:∀k,v.ownBlock=some k->k<w.heap.size:=λk hk=>(h1.lt k hk).2;have hb:∀k,v.ownBlock=some k->w'.heap[k]? = w.heap[k]?/\lab' k=lab k:=λk h=>hk k (hlt k h) (Cb hr (.inl (h2 k h)));refine⟨css,l7 (λk h=>(hb k h).1) h1,λk h=>by rw[(hb k h).2];exact h2 k h, ?_,h4⟩;cases hd:row.deep;·rw[hd]at h3;exact ak.imp (λc y h=>((h.lt.frame λk hk' _=>(hk k hk'.2 (mE hk'.1)).1)).mono λk hk'=>by rw[(hk k hk'.2 (mE hk'.1)).2];exact hk'.1) h3
 ·rw[hd]at h3;obtain⟨Ls,k1,k2,k3⟩:=h3;have hL:∀k∈Ls.flatten,k<w.heap.size:=λk hk=>by obtain⟨l,hl,hk⟩:=List.mem_flatten.1 hk;have:aR (λ(l:List Nat) (_:List Value) (_:row.t.den)=>∀k∈l,k<w.heap.size) Ls css row.xs:=k1.imp λ_ _ _ ho=>ho.lt;exact jW this l hl k hk
  have hs:∀k∈Ls.flatten,w'.heap[k]? = w.heap[k]?/\lab' k=lab k:=λk h=>hk k (hL k h) (Cb hr (.inr (k3 k h)));exact⟨Ls,k1.imp_mem λl c y hl ho=>ho.frame λk h=>(hs k (List.mem_flatten.2 ⟨l,hl,h⟩)).1,k2,λk h=>by rw[(hs k h).2];exact k3 k h⟩
def R.moved(h:R w0 lab0 oo n V E a w)(hk:∀k,k<w.heap.size->fq E.lab qs B k->w'.heap[k]? = w.heap[k]?/\E'.lab k=E.lab k)
  (ho:w'.os=w.os/\Tp w w'/\w'.output=w.output) (hs:w.heap.size<=w'.heap.size) (hbb:E'.bb=E.bb) (hslot:∀t,V'.slot t=(V.slot t).map (eo qs))
  (hbox:∀b te cs,V.box b=some (te,cs)->∃cs',V'.box b=some (te,cs')/\cs'.length=cs.length)
  (hboxes:∀b te cs,V'.box b=some (te,cs)->(¬ B b/\∃cs0,V.box b=some (te,cs0)/\cs=cs0.map (eo qs))\/jx V' E' w' b te cs)
  (hrow:∀r row,r∉qs->V.row r=some row->∃row',V'.row r=some row'/\E'.rv r=E.rv r/\row'.t.nc=row.t.nc/\row.xs.length<=row'.xs.length)
  (hrel:∀r row,V'.row r=some row->(r∉qs/\V.row r=some row/\E'.rv r=E.rv r)\/bZ w' E'.lab r row (E'.rv r)) :
  R w0 lab0 oo n V' E' a w':=by
 have hc:∀c v,am V E w c v->am V' E' w' (eo qs c) v:=λc v h=>am.moved hk hrow hbox hbb h;refine⟨h.bound,h.size,h.defers,λt=>?_,λb te cs hb=>?_,λr row hr=>?_, ?_⟩;·rw[hslot];exact(h.slots t).mapl hc
 ·rcases hboxes b te cs hb with⟨hB,cs0,hb2,rfl⟩|hb2;·obtain⟨arr,k1,k2,k3,k4⟩:=h.boxes b _ _ hb2;have hlt:=k1.lt;have hsp:fq E.lab qs B (E.bb b):=⟨λq _ hq=>(by rcases hq with hq|hq<;>rw[k2]at hq<;>cases hq),λb' hB' hb'=>by rw[k2]at hb';injection hb' with hb';subst hb';exact hB hB'⟩;obtain⟨j1,j2⟩:=hk _ hlt hsp;exact⟨arr,by rw[hbb,j1];exact k1,by rw[hbb,j2];exact k2,k3.mapl hc,k4⟩
  ·exact hb2
 ·rcases hrel r row hr with⟨h1,h2,h3⟩|h2;·rw[h3];exact(h.rows r row h2).moved hk h1
  ·exact h2
 ·refine⟨ho.1.trans h.same.os,ho.2.1.trans h.same.tape,ho.2.2.trans h.same.output,Nat.le_trans h.same.size hs,λk hk' hl=>?_,λk hk' hl=>?_⟩;·obtain⟨g1,g2⟩:=h.same.old k hk' hl;obtain⟨j1,j2⟩:=hk k (Nat.lt_of_lt_of_le hk' h.same.size) (mE g1);exact⟨by rw[j2];exact g1,by rw[j1];exact g2⟩
  ·obtain⟨g1,g2⟩:=h.same.gone k hk' hl;obtain⟨j1,j2⟩:=hk k (Nat.lt_of_lt_of_le hk' h.same.size) (Cc g1);exact⟨by rw[j2];exact g1,by rw[j1];exact g2⟩
end
def Cd{B:Nat->Prop}(h:R w0 lab0 oo n V E a w){d:Nat}{L Lf Lr:List Nat}(hL:∀k,fq E.lab qs B k->k∉L)
  (nodup:(Lr++Lf).Nodup) (fresh:∀k∈Lr++Lf,k∈L\/w.heap.size<=k) (ho:w'.os=w.os/\Tp w w'/\w'.output=w.output) (hsz:w.heap.size<=w'.heap.size) (old:∀k,k<w.heap.size->k∉L->w'.heap[k]? = w.heap[k]?)
  {r1:List (Nat×ae)}{j1:Nat}{C1:St->aP->Prop}
  (R1:∃(f1:Nat->aC) (v1:Nat->Value),(∀p∈r1,∃i,i<j1/\p.1=aW d i)/\∀(σ2:St) (E2:aP),(∀k∈Lf,E2.lab k=f1 k)->(∀p∈r1,E2.rv p.1=v1 p.1)->(∀p∈r1,σ2.row p.1=some p.2)->C1 σ2 E2/\∀p∈r1,bZ w' E2.lab p.1 p.2 (E2.rv p.1))
  {rs:List PT}{vs:List Value}{Y:av rs} (res:mt w' rs vs Y Lr) {cs:List (Bool×List ai)}{r2:List (Nat×ae)}{j2:Nat} (hres:cK d rs Y j1=(cs,r2,j2)) {look:Nat->Option ae}
  (hadd:mB (r1++r2) (λr=>cond (bF r qs) none (V.row r))=some look) {bx:Nat->Option (Nat×List ai)}
  (hbx1:∀b te cs,bx b=some (te,cs)->(¬ B b/\∃cs0,V.box b=some (te,cs0)/\cs=cs0.map (eo qs))\/((∃x,V.box b=some x)/\B b/\∀(σ2:St) (E2:aP),C1 σ2 E2->E2.bb=E.bb->E2.lab (E.bb b)=E.lab (E.bb b)->jx σ2 E2 w' b te cs))
  (hbx2:∀b te cs,V.box b=some (te,cs)->∃cs',bx b=some (te,cs')/\cs'.length=cs.length) (hg:∀b,B b->(∃x,V.box b=some x)->E.bb b∉Lr++Lf) :
  ∃E',R w0 lab0 oo n ⟨λt=>(V.slot t).map (eo qs),bx,look⟩ E' a w'/\sB ⟨λt=>(V.slot t).map (eo qs),bx,look⟩ E' w' cs vs:=by
 obtain⟨nd1,nd2,nd3⟩:=List.nodup_append.1 nodup;obtain⟨f1,v1,a1,b1⟩:=R1;obtain⟨f2,v2,a2,b2⟩:=sD d (j:=j1) res nd1;have m2:=(sC d (rs:=rs) (Y:=Y) (j:=j1)).2;rw[hres]at a2 b2 m2;obtain⟨ad1,ad2⟩:=sA hadd
 classical
 let E':aP:=⟨λk=>if k∈Lr then f2 k else if k∈Lf then f1 k else E.lab k,λq=>if ∃p∈r1,p.1=q then v1 q else if ∃p∈r2,p.1=q then v2 q else E.rv q,E.bb⟩;have hlr:∀k∈Lr,E'.lab k=f2 k:=λk hk=>if_pos hk;have hlf:∀k∈Lf,E'.lab k=f1 k:=λk hk=>(if_neg λh'=>nd3 k h' k hk rfl).trans (if_pos hk);have hlo:∀k,k∉Lr++Lf->E'.lab k=E.lab k:=λk hk=>(if_neg λh'=>hk (List.mem_append_left _ h')).trans (if_neg λh'=>hk (List.mem_append_right _ h'));have hv1:∀p∈r1,E'.rv p.1=v1 p.1:=λp hp=>if_pos ⟨p,hp,rfl⟩;have hv2:∀p∈r2,E'.rv p.1=v2 p.1:=λp hp=>(if_neg λ⟨p',hp',e⟩=>by obtain⟨i,i1,i2⟩:=a1 p' hp';obtain⟨i',i3,i4,i5⟩:=m2 p hp;have:=mz (i2.symm.trans (e.trans i5));omega).trans (if_pos ⟨p,hp,rfl⟩);have hvo:∀q,(∀p∈r1++r2,p.1≠q)->E'.rv q=E.rv q:=λq hq=>(if_neg λ⟨p,h1,h2⟩=>hq p (List.mem_append_left _ h1) h2).trans (if_neg λ⟨p,h1,h2⟩=>hq p (List.mem_append_right _ h1) h2);have hlk:∀q row,look q=some row->(∀p∈r1++r2,p.1≠q)->q∉qs/\V.row q=some row:=by
  intro q row hq hne;rw[ad2 q hne]at hq;cases hm:bF q qs;·rw[hm]at hq;exact⟨(λhx=>by rw[gO.2 hx]at hm;cases hm),hq⟩
  ·rw[hm]at hq;cases hq
 have hold:∀q row,q∉qs->V.row q=some row->look q=some row/\∀p∈r1++r2,p.1≠q:=by
  intro q row hq hrow;have hm:bF q qs=false:=by
   cases hm:bF q qs;·rfl
   ·exact absurd (gO.1 hm) hq
  have hne:∀p∈r1++r2,p.1≠q:=λp hp e=>by have:=(ad1 p hp).1;rw[e,hm]at this;rw[show(cond false none (V.row q))=V.row q from rfl,hrow]at this;cases this
  refine⟨?_,hne⟩;rw[ad2 q hne,hm];exact hrow
 let σ2:St:=⟨λt=>(V.slot t).map (eo qs),bx,look⟩;obtain⟨c1,c2⟩:=b1 σ2 E' hlf hv1 λp hp=>(ad1 p (List.mem_append_left _ hp)).2;obtain⟨c3,c4⟩:=b2 σ2 E' hlr hv2 λp hp=>(ad1 p (List.mem_append_right _ hp)).2;refine⟨E', ?_,c3⟩;refine R.moved (B:=B) (E':=E') (qs:=qs) h (λk hk hst=>?_) ho hsz rfl (λt=>rfl) hbx2 (λb te cs hb=>?_) (λq row hq hrow=>?_) (λq row hrow=>?_)
 ·have hkL:=hL k hst;refine⟨old k hk hkL,hlo k λhm=>?_⟩;rcases fresh k hm with h1|h1;·exact hkL h1
  ·omega
 ·rcases hbx1 b te cs hb with h1|⟨h1,h2,h3⟩;·exact .inl h1
  ·exact .inr (h3 σ2 E' c1 rfl (hlo _ (hg b h2 h1)))
 ·obtain⟨h1,h2⟩:=hold q row hq hrow;exact⟨row,h1,hvo q h2,rfl,Nat.le_refl _⟩
 ·by_cases hex:∃p∈r1++r2,p.1=q
  ·obtain⟨p,hp,rfl⟩:=hex;have e2:=(ad1 p hp).2;rw[show look p.1=some row from hrow]at e2;injection e2 with e2;subst e2;rcases List.mem_append.1 hp with hp|hp;·exact .inr (c2 p hp)
   ·exact .inr (c4 p hp)
  ·have hne:∀p∈r1++r2,p.1≠q:=λp hp e=>hex ⟨p,hp,e⟩;obtain⟨h1,h2⟩:=hlk q row hrow hne;exact .inl ⟨h1,h2,hvo q hne⟩
def Ce{b:Option (Nat×List ai)}{te:Nat}{cs:List ai}(h:nU qs b=some (te,cs)):∃cs0,b=some (te,cs0)/\cs=cs0.map (eo qs):=by
 cases b with
 |none=>cases h
 |some p =>obtain⟨te',cs0⟩:=p;simp only[nU,Option.some.injEq,Prod.mk.injEq]at h;obtain⟨rfl,rfl⟩:=h;exact⟨cs0,rfl,rfl⟩
def xg{d:Nat}{rs:List PT}{Y:av rs}{j j':Nat}{cs:List (Bool×List ai)}{rows:List (Nat×ae)}(hfl:∀p∈rs,p.agg=false->p.t.nc=1)(h:cK d rs Y j=(cs,rows,j')):∀l,cs≠[(false,l)]\/∃c,l=[c]:=λl=>B6 hfl h l
def xh{σ2:St}{cs:List (Bool×List ai)}{vs:List Value}{v:Value}{dst:Option Nat}(h:R w0 lab0 oo n σ2 E' a w')(hr:sB σ2 E' w' cs vs)(hv:mv vs v)(hb:∀l,cs≠[(false,l)]\/∃c,l=[c])(hd:∀d,dst=some d->d<n) :
  R w0 lab0 oo n (xe σ2 dst (nR cs)) E' (a.put dst v) w':=by
 cases dst with
 |none=>exact h
 |some d=>exact R.put h (hd d rfl) (B4 hr hv hb)
def Cf{p:Nat×Ty}{ss ss':List SV}{cs:List ai}(h:pU V (some p) ss=some (cs,ss')):∃b,ss=.c (.box b 0)::ss'/\V.box b=some (p.1,cs)/\p.1<cd:=by
 cases ss with
 |nil=>cases h
 |cons s ss =>
  cases s with
  |agg l=>cases h
  |tup l=>cases h
  |c x =>
   cases x with
   |box b f =>
    cases f with
    |succ f=>cases h
    |zero =>
     simp only[pU]at h;split at h
     ·rename_i te' cs' hb;cases hte:(Nat.beq te' p.1&&Nat.blt te' cd);·rw[hte]at h;cases h
      ·rw[hte]at h;simp only[cond_true,Option.some.injEq,Prod.mk.injEq]at h;obtain⟨rfl,rfl⟩:=h;simp only[Bool.and_eq_true]at hte;have e1:=Nat.eq_of_beq_eq_true hte.1;exact⟨b,rfl,by rw[hb,e1],by rw[<-e1];simpa using hte.2⟩
     ·cases h
   |_=>cases h
def LU{f:Nat}{en:gV}(hΓ:xa P w0 lab0 f en)(h:R w0 lab0 oo n V E a w){ss:List SV}{args:Array Value}(hs:ak (aL V E w) ss args.toList){X:cL en.rf×av en.ps}(hin:xc en V ss=some (qs,X))
  (hpre:cq en.pre X=true) {dst:Option Nat} (hd:∀d,dst=some d->d<n) (hfl:∀p∈en.rs,p.agg=false->p.t.nc=1) (hout:sI en V dst ss qs (en.val X)=some V') :
  dg P f args w λe w'=>∃v E',e=.returned v/\R w0 lab0 oo n V' E' (a.put dst v) w':=by
 obtain⟨rf,ps,rs,pre,val⟩:=en;unfold xc at hin;split at hin
 ·rename_i cs ss' hrf;simp only at hin;cases hnb:dL (aH (cs++dS ps ss'));·rw[hnb]at hin;cases hin
  rw[hnb]at hin;simp only[cond_true]at hin;split at hin
  ·rename_i X' hX;injection hin with hin;injection hin with hq hx;subst hx;obtain⟨g1,g2⟩:=ef hX;have hnd:=iW hnb;rw[gP]at hnd;obtain⟨n1,n2,n3⟩:=List.nodup_append.1 hnd;rw[hq]at g2;have hq2:∀q,q∈qs↔q∈aH cs\/q∈aH (dS ps ss'):=λq=>by rw[<-hq,gP];exact List.mem_append
   cases rf with
   |none =>
    simp only[pU,Option.some.injEq,Prod.mk.injEq]at hrf;obtain⟨rfl,rfl⟩:=hrf;obtain⟨L,i1,i2,i3,i4⟩:=nV h g2 hs n2;have hL:∀k,fq E.lab qs (λ_=>False) k->k∉L:=λk hk hkL=>by obtain⟨q,q1,q2⟩:=i3 k hkL;exact hk.1 q ((hq2 q).2 (.inr q1)) q2
    have hL2:∀k,iZ E.lab qs k->k∉L:=λk hk=>hL k (nW hk);refine dg.mono (hΓ w args L X' (i1.mono hL2) i2 i4 hpre (λk hk hl=>(h.same.old k hk hl).2) (λk hkL hq=>hL k (mE (h.same.old k hq.1 hq.2).1) hkL)) ?_;rintro e w' ⟨v,vs,Lf,Lr,rfl,A⟩
    have hLf:Lf=[]:=A.ref;subst hLf;unfold sI at hout;simp only[xd]at hout;split at hout
    ·rename_i look hadd;injection hout with hout;subst hout;obtain⟨E',hR,hRes⟩:=Cd (B:=λ_=>False) (C1:=λ_ _=>True) (r1:=[]) (d:=dx dst) h hL A.nodup A.fresh ⟨A.os,A.tape,A.output⟩ A.size A.old ⟨λ_=>.st,λ_=>undef,(λp hp=>by cases hp),λ_ _ _ _ _=>⟨trivial,λp hp=>by cases hp⟩⟩
      A.res (cs:=(cK (dx dst) rs (val X').2 0).1) (r2:=(cK (dx dst) rs (val X').2 0).2.1) (j2:=(cK (dx dst) rs (val X').2 0).2.2) rfl hadd (bx:=λb=>nU qs (V.box b)) (λb te cs hb=>.inl ⟨λhf=>hf,Ce hb⟩) (λb te cs hb=>⟨cs.map (eo qs),by simp only[hb,nU],by simp⟩) (λb hf=>hf.elim)
     exact⟨v,E',rfl,xh hR hRes A.ret (xg hfl (j':=(cK (dx dst) rs (val X').2 0).2.2) rfl) hd⟩
    ·cases hout
   |some p =>
    obtain⟨te,t⟩:=p;obtain⟨b,hss,hbox,htb⟩:=Cf hrf;subst hss;match hal:args.toList,hs with
    |[],hs=>exact hs.elim
    |v0::vs0,hs =>
    obtain⟨hv0,hs⟩:=hs;obtain⟨hv0,_⟩:=(show am V E w (.box b 0) v0 from hv0);obtain⟨arr,k1,k2,k3,k4⟩:=h.boxes b te cs hbox;have k1:=k1.cells htb;obtain⟨L1,o1,o2,o3⟩:=gR h (show dJ V.row t cs=some X'.1 from g1) k3 n1;obtain⟨L2,i1,i2,i3,i4⟩:=nV h g2 hs n2;have hlt:=(Array.getElem?_eq_some_iff.1 k1).1;have hg1:E.bb b∉L1++L2:=λhm=>by
     rcases List.mem_append.1 hm with hm|hm;·obtain⟨q,_,hq'⟩:=o3 _ hm;rcases hq' with hq'|hq'<;>rw[k2]at hq'<;>cases hq'
     ·obtain⟨q,_,hq'⟩:=i3 _ hm;rcases hq' with hq'|hq'<;>rw[k2]at hq'<;>cases hq'
    have hL:∀k,fq E.lab qs (λb'=>b'=b) k->k∉E.bb b::(L1++L2):=λk hk hkL=>by
     rcases List.mem_cons.1 hkL with rfl|hkL;·exact hk.2 b rfl k2
     rcases List.mem_append.1 hkL with hkL|hkL;·obtain⟨q,q1,q2⟩:=o3 k hkL;exact hk.1 q ((hq2 q).2 (.inl q1)) q2
     ·obtain⟨q,q1,q2⟩:=i3 k hkL;exact hk.1 q ((hq2 q).2 (.inr q1)) q2
    have hL2:∀k,iZ E.lab qs k->k∉E.bb b::(L1++L2):=λk hk=>hL k (nW hk);have hnd12:(L1++L2).Nodup:=List.nodup_append.2 ⟨o2,i2,λx hx y hy e=>by subst e;obtain⟨q,q1,q2⟩:=o3 x hx;obtain⟨q',q1',q2'⟩:=i3 x hy;exact n3 q q1 q' q1' (jZ q2 q2')⟩;refine dg.mono (hΓ w args (E.bb b::(L1++L2)) X' ?_ (List.nodup_cons.2 ⟨hg1,hnd12⟩) (λk hk=>?_) hpre (λk hk hl=>(h.same.old k hk hl).2) (λk hkL hq=>hL k (mE (h.same.old k hq.1 hq.2).1) hkL)) ?_;·rw[hal];exact⟨E.bb b,L1,L2,rfl,⟨hv0,arr,k1,k4,o1⟩,i1.mono hL2⟩
    ·rcases List.mem_cons.1 hk with rfl|hk;·exact hlt
     rcases List.mem_append.1 hk with hk|hk;·exact o1.lt k hk
     ·exact i4 k hk
    rintro e w' ⟨v,vs,Lf,Lr,rfl,A⟩
    have Aref:=A.ref;have Ang:=A.notg (E.bb b) (te,t) rfl (by rw[hal,hv0];rfl);rw[hal]at Aref;obtain⟨g,⟨hvg,arr',m1,m2,m3⟩,_⟩:=(Aref:∃g,w9 w' te t v0 (val X').1 g Lf/\g∉Lf);have hgb:g=E.bb b:=by rw[hv0]at hvg;injection hvg with hvg;injection hvg with hvg;injection hvg with hvg;exact hvg.symm
    subst hgb;have hlen:(aK (dx dst) t (val X').1 0).1.length=cs.length:=by rw[pT];have:=k3.len;have:=o1.len;have hl:cs.length=arr.toList.length:=k3.len;omega
    unfold sI at hout;simp only[xd]at hout;split at hout
    ·rename_i look hadd;injection hout with hout;subst hout;obtain⟨E',hR,hRes⟩:=Cd (B:=λb'=>b'=b) (C1:=λσ2 E2=>ak (am σ2 E2 w') (aK (dx dst) t (val X').1 0).1 arr'.toList) (r1:=(aK (dx dst) t (val X').1 0).2.1) (j1:=(aK (dx dst) t (val X').1 0).2.2) (d:=dx dst)
      h hL A.nodup A.fresh ⟨A.os,A.tape,A.output⟩ A.size A.old (by obtain⟨f1,v1,q1,q2⟩:=mA (dx dst) (j:=0) m3 (List.nodup_append.1 A.nodup).2.1;refine⟨f1,v1,λp hp=>?_,q2⟩;obtain⟨i,_,j1,j2⟩:=(gS (dx dst)).2 p hp;exact⟨i,j1,j2⟩)
      A.res (cs:=(cK (dx dst) rs (val X').2 (aK (dx dst) t (val X').1 0).2.2).1) (r2:=(cK (dx dst) rs (val X').2 (aK (dx dst) t (val X').1 0).2.2).2.1) (j2:=(cK (dx dst) rs (val X').2 (aK (dx dst) t (val X').1 0).2.2).2.2) rfl hadd (bx:=au (λb=>nU qs (V.box b)) b (some (te,(aK (dx dst) t (val X').1 0).1)))
      (λb' te' cs' hb'=>by
       by_cases e:b'=b;·subst e;rw[a6]at hb';injection hb' with hb';injection hb' with e1 e2;subst e1 e2;exact .inr ⟨⟨_,hbox⟩,rfl,λσ2 E2 hC hbb hlab=>⟨arr',.inl ⟨htb,by rw[hbb];exact m1⟩,by rw[hbb,hlab];exact k2,hC,m2⟩⟩
       ·rw[bi _ _ e]at hb';exact .inl ⟨e,Ce hb'⟩)
      (λb' te' cs' hb'=>by
       by_cases e:b'=b;·subst e;rw[hbox]at hb';injection hb' with hb';injection hb' with e1 e2;subst e1 e2;exact⟨_,a6 _ _ _,hlen⟩
       ·exact⟨cs'.map (eo qs),by rw[bi _ _ e,hb'];rfl,by simp⟩)
      (λb' hb' _=>by subst hb';exact Ang)
     exact⟨v,E',rfl,xh hR hRes A.ret (xg hfl (j':=(cK (dx dst) rs (val X').2 (aK (dx dst) t (val X').1 0).2.2).2.2) rfl) hd⟩
    ·cases hout
  ·cases hin
 ·cases hin
end
structure dh where
 te:Nat
 fx:List (Nat×Ty)
 t:Ty
def dy:List (Nat×Ty)->Type
 |[]=>Unit
 |p::l=>List p.2.den×dy l
def jf(w:World)(S:Nat->Prop):(l:List (Nat×Ty))->List Value->dy l->Prop
 |[],[],_=>True
 |p::l,v::vs,x=>Rd w S (.sl p.1 p.2) [v] x.1/\jf w S l vs x.2
 |[],_::_,_=>False
 |_::_,[],_=>False
def gW:Bool->List PT->Type
 |true,ps=>de ps
 |false,_=>Unit
structure ew where
 k:dh
 ps:List PT
 back:Bool
 rs:List PT
 pre:Option ((dy k.fx×k.t.den)×av ps->Bool)
 val:(dy k.fx×k.t.den)×av ps->k.t.den×(gW back ps×av rs)
def LV(w:World)(S:Nat->Prop)(k:dh)(v:Value)(lit:List Value)(x:dy k.fx×k.t.den)(g:Nat):Prop :=
 v=.pointer (some ⟨g,0,none⟩)/\∃(arr:Array Value) (cm:List Value),w.heap[g]? = some (.cells arr k.te (0,0))/\(∀u∈arr.toList,u.oneCell'=true)/\arr.toList=lit++cm/\jf w S k.fx lit x.1/\aB w k.t [] cm x.2
def Cg(w:World)(k:dh)(lit:List Value)(y:k.t.den)(g:Nat):Prop :=
 ∃(arr:Array Value) (cm:List Value),w.heap[g]? = some (.cells arr k.te (0,0))/\(∀u∈arr.toList,u.oneCell'=true)/\arr.toList=lit++cm/\aB w k.t [] cm y
def xj(w:World)(S:Nat->Prop)(k:dh)(ps:List PT)(args:List Value)(X:(dy k.fx×k.t.den)×av ps)(lit:List Value)(g:Nat)(L:List Nat):Prop :=
 ∃v0 vs,args=v0::vs/\LV w S k v0 lit X.1 g/\dN w S ps vs X.2 L
def sJ(w:World)(L:List Nat):(back:Bool)->(ps:List PT)->List Value->gW back ps->Prop
 |true,ps,vs,y=>kU w L ps vs y
 |false,_,_,_=>L=[]
structure xk[DC](w:World)(en:ew)(args:List Value)(lit:List Value)(g:Nat)(L:List Nat)(Y:en.k.t.den×(gW en.back en.ps×av en.rs))(v:Value)(w':World)(vs:List Value)(Lb Lr:List Nat):Prop where
 ret:mv vs v
 res:mt w' en.rs vs Y.2.2 Lr
 ref:Cg w' en.k lit Y.1 g
 io:sJ w' Lb en.back en.ps args.tail Y.2.1
 nodup:(Lr++Lb).Nodup
 fresh:∀k∈Lr++Lb,k∈L\/w.heap.size<=k
 os:w'.os=w.os
 tape:Tp w w'
 output:w'.output=w.output
 size:w.heap.size<=w'.heap.size
 old:∀k,k<w.heap.size->k∉g::L->w'.heap[k]? = w.heap[k]?
def dj[DC](P:Program)[Inv P](f:Nat)(en:ew):Prop :=
 ∀(w:World) (args:Array Value) (L:List Nat) (g:Nat) (lit:List Value) (X:(dy en.k.fx×en.k.t.den)×av en.ps),xj w (λk=>k∉g::L) en.k en.ps args.toList X lit g L->(g::L).Nodup->(∀k∈g::L,k<w.heap.size)->cq en.pre X=true ->
  Inv.I P w->(∀k∈g::L,¬ Inv.B P k)->dg P f args w λe w'=>∃v vs Lb Lr,e=.returned v/\xk w en args.toList lit g L (en.val X) v w' vs Lb Lr
def xl[DC](P:Program)(w0:World)(lab0:Nat->aC)(f:Nat)(en:ew):Prop :=
 ∀(w:World) (args:Array Value) (L:List Nat) (g:Nat) (lit:List Value) (X:(dy en.k.fx×en.k.t.den)×av en.ps),xj w (λk=>k∉g::L) en.k en.ps args.toList X lit g L->(g::L).Nodup->(∀k∈g::L,k<w.heap.size)->cq en.pre X=true ->
  (∀k,k<w0.heap.size->lab0 k=.st->w.heap[k]? = w0.heap[k]?)->(∀k∈g::L,¬ (k<w0.heap.size/\lab0 k=.st))->dg P f args w λe w'=>∃v vs Lb Lr,e=.returned v/\xk w en args.toList lit g L (en.val X) v w' vs Lb Lr
def dj.at[DC]{P:Program}[Inv P]{f:Nat}{en:ew}(h:dj P f en){w0:World}{lab0:Nat->aC}(hI:Inv.I P w0)(hB:∀k,Inv.B P k->lab0 k=.st):xl P w0 lab0 f en :=
 λw args L g lit X h1 h2 h3 h4 h6 h7=>h w args L g lit X h1 h2 h3 h4 (Inv.keep w0 w (λk hk=>h6 k (Inv.lt w0 k hI hk) (hB k hk)) hI) λk hk hb=>h7 k hk ⟨Inv.lt w0 k hI hb,hB k hb⟩
structure jg where
 k:dh
 ps:List PT
 pre:Option (av ps->Bool)
 val:av ps->k.t.den
structure xm[DC](w:World)(en:jg)(args:List Value)(Y:en.k.t.den)(v:Value)(w':World)(g:Nat):Prop where
 ret:v=.pointer (some ⟨g,0,none⟩)
 new:w.heap.size<=g
 ref:Cg w' en.k (args.take en.k.fx.length) Y g
 os:w'.os=w.os
 tape:Tp w w'
 output:w'.output=w.output
 size:w.heap.size<=w'.heap.size
 old:∀k,k<w.heap.size->w'.heap[k]? = w.heap[k]?
def kW[DC](P:Program)[Inv P](f:Nat)(en:jg):Prop :=
 ∀(w:World) (args:Array Value) (X:av en.ps),dN w (λ_=>True) en.ps args.toList X []->cq en.pre X=true->Inv.I P w->dg P f args w λe w'=>∃v g,e=.returned v/\xm w en args.toList (en.val X) v w' g
def xn[DC](P:Program)(w0:World)(lab0:Nat->aC)(f:Nat)(en:jg):Prop :=
 ∀(w:World) (args:Array Value) (X:av en.ps),dN w (λ_=>True) en.ps args.toList X []->cq en.pre X=true->(∀k,k<w0.heap.size->lab0 k=.st->w.heap[k]? = w0.heap[k]?)->dg P f args w λe w'=>∃v g,e=.returned v/\xm w en args.toList (en.val X) v w' g
def kW.at[DC]{P:Program}[Inv P]{f:Nat}{en:jg}(h:kW P f en){w0:World}{lab0:Nat->aC}(hI:Inv.I P w0)(hB:∀k,Inv.B P k->lab0 k=.st):xn P w0 lab0 f en :=
 λw args X h1 h2 h3=>h w args X h1 h2 (Inv.keep w0 w (λk hk=>h3 k (Inv.lt w0 k hI hk) (hB k hk)) hI)
def pV(bad:List Nat)(look:Nat->Option ae):(l:List (Nat×Ty))->List ai->Option (dy l)
 |[],[]=>some ()
 |p::l,c::cs=>ee (sr bad look p.1 p.2 [c]) (pV bad look l cs)
 |[],_::_=>none
 |_::_,[]=>none
def xp(en:ew)(V:St)(ss:List SV):Option (List Nat×((dy en.k.fx×en.k.t.den)×av en.ps)) :=
 match pU V (some (en.k.te,en.k.t)) ss with
 |some (cs,ss')=>cond (dQ en.ps&&(dL (aH (dS en.ps ss'))&&(aH (cs.drop en.k.fx.length)).isEmpty))
  (match ee (ee (pV (aH (dS en.ps ss')) V.row en.k.fx (cs.take en.k.fx.length)) (dJ V.row en.k.t (cs.drop en.k.fx.length))) (gT (aH (dS en.ps ss')) V.row en.ps ss')with
   |some X=>some (aH (dS en.ps ss'),X)
   |none=>none) none
 |none=>none
def dropK:Bool->List Nat->ai->ai
 |true,qs=>fN qs
 |false,qs=>eo qs
def kX(f:ai->ai)(qs:List Nat)(V:St):St:=match qs with
 |[]=>V
 |_::_=>V.mapc f
def sK(k:dh)(ss:List SV)(y:k.t.den)(bx:Nat->Option (Nat×List ai)):Nat->Option (Nat×List ai):=match ss with
 |.c (.box b 0)::_=>match bx b with
  |some (te,cs)=>au bx b (some (te,cs.take k.fx.length++dZ k.t y none))
  |none=>bx
 |_=>bx
def Ch:(back:Bool)->(ps:List PT)->List SV->gW back ps->List Nat->(Nat->Option ae)->Option (Nat->Option ae)
 |true,ps,ss,y,_,look=>nS ps ss y look
 |false,_,_,_,[],look=>some look
 |false,_,_,_,q::qs,look=>some λr=>cond (bF r (q::qs)) none (look r)
def xq(en:ew)(V:St)(dst:Option Nat)(ss:List SV)(qs:List Nat)(Y:en.k.t.den×(gW en.back en.ps×av en.rs)):Option St :=
 match Ch en.back en.ps ss.tail Y.2.1 qs V.row with
 |some look=>match cK (dx dst) en.rs Y.2.2 0 with
  | (cs,rows,_)=>match mB rows look with
   |some look2=>some (xe ⟨(kX (dropK en.back qs) qs V).slot,sK en.k ss Y.1 (kX (dropK en.back qs) qs V).box,look2⟩ dst (nR cs))
   |none=>none
 |none=>none
def xr(en:jg)(V:St)(ss:List SV):Option (av en.ps):=cond (ck en.ps&&Nat.blt en.k.te cd) (gT [] V.row en.ps ss) none
def firstCells:Nat->List SV->Option (List ai)
 |0,_=>some []
 |m+1,.c c::ss=>match firstCells m ss with
  |some cs=>some (c::cs)
  |none=>none
 |_+1,_=>none
def xt(en:jg)(V:St)(dst:Option Nat)(ss:List SV)(Y:en.k.t.den):Option St :=
 match dst,firstCells en.k.fx.length ss with
 |some d,some cs=>match V.box d with
  |none=>some ⟨au V.slot d (.c (.box d 0)),au V.box d (some (en.k.te,cs++dZ en.k.t Y none)),V.row⟩
  |some _=>none
 |_,_=>none
section
variable {P : Program} {V V' : St} {E E' : aP} {w w' : World} {w0 : World} {lab0 : Nat → aC} {oo : Nat → Value} {n : Nat} {a : Act} {qs : List Nat} [DC]
def LW:∀c:ai,eo [] c=c
 |.mp _=>rfl
 |.mset _ _=>rfl
 |.own _=>rfl
 |.part _ _ _=>rfl
 |.elt _ _ _=>rfl
 |.sn _ _ _ (some _)=>rfl
 |.full _ _ _ (some _)=>rfl
 |.selt _ _ (some _) _=>rfl
 |.sn _ _ _ none=>rfl
 |.full _ _ _ none=>rfl
 |.selt _ _ none _=>rfl
 |.undef=>rfl
 |.int _ _=>rfl
 |.bool _=>rfl
 |.str _=>rfl
 |.err _=>rfl
 |.nil=>rfl
 |.box _ _=>rfl
 |.fn _ _=>rfl
 |.bor _ _ _ _=>rfl
def Ci(back:Bool)(c:ai):dropK back [] c=c:=by
 cases back;·exact LW c
 ·exact wZ c
def LX(back:Bool)(V:St)(t:Nat):(kX (dropK back qs) qs V).slot t=(V.slot t).map (dropK back qs):=by
 cases qs with
 |nil=>exact(SV.map_id (Ci back) _).symm
 |cons q qs=>rfl
def xu(back:Bool)(V:St)(b:Nat):(kX (dropK back qs) qs V).box b=match V.box b with|some (te,cs)=>some (te,cs.map (dropK back qs))|none=>none:=by
 cases qs with
 |nil =>
  show V.box b=_;cases V.box b with
  |none=>rfl
  |some p=>simp only[sF (Ci back)]
 |cons q qs=>rfl
section
variable {B : Nat → Prop}
def am.backed(hk:∀k,k<w.heap.size->fq E.lab qs B k->w'.heap[k]? = w.heap[k]?/\E'.lab k=E.lab k)
  (hrow:∀r row,V.row r=some row->∃row',V'.row r=some row'/\E'.rv r=E.rv r/\row'.t.nc=row.t.nc/\row.xs.length<=row'.xs.length)
  (hbox:∀b te cs,V.box b=some (te,cs)->∃cs',V'.box b=some (te,cs')/\cs'.length=cs.length) (hbb:E'.bb=E.bb)
  {c:ai}{v:Value} (h:am V E w c v):am V' E' w' (fN qs c) v:=by
 have hm:=am.moved (V':=V') (E':=E') (w':=w') hk (λr row _ hr=>hrow r row hr) hbox hbb h;cases c with
 |own r =>obtain⟨rfl,h1,h2⟩:=h;obtain⟨row,hr⟩:=Option.isSome_iff_exists.1 h1;obtain⟨row',k1,k2,_⟩:=hrow r row hr;exact⟨k2.symm,by rw[k1];rfl,h2⟩
 |part r lo n =>obtain⟨row,A,c,h1,h2,h3,h4,h5,h6,h7,h8⟩:=h;obtain⟨row',g1,g2,g3,g4⟩:=hrow r row h1;refine⟨row',A,c,g1,h2,h3,by omega,h5,h6,h7,λhn=>?_⟩;rw[g2,g3];exact h8 hn
 |elt r i f =>obtain⟨row,g,n,c,h1,h2,h3,h4,h5,h6⟩:=h;obtain⟨row',g1,g2,g3,g4⟩:=hrow r row h1;exact⟨row',g,n,c,g1,by rw[g2];exact h2,h3,by omega,by rw[g3];exact h5,by rw[g3];exact h6⟩
 |_=>exact hm
def am.dropK{back:Bool}(hk:∀k,k<w.heap.size->fq E.lab qs B k->w'.heap[k]? = w.heap[k]?/\E'.lab k=E.lab k)
  (hrow:∀r row,(back=true\/r∉qs)->V.row r=some row->∃row',V'.row r=some row'/\E'.rv r=E.rv r/\row'.t.nc=row.t.nc/\row.xs.length<=row'.xs.length)
  (hbox:∀b te cs,V.box b=some (te,cs)->∃cs',V'.box b=some (te,cs')/\cs'.length=cs.length) (hbb:E'.bb=E.bb)
  {c:ai}{v:Value} (h:am V E w c v):am V' E' w' (Fw.dropK back qs c) v:=by
 cases back;·exact am.moved hk (λr row hq=>hrow r row (.inr hq)) hbox hbb h
 ·exact am.backed hk (λr row=>hrow r row (.inl rfl)) hbox hbb h
def R.step{f:ai->ai}(h:R w0 lab0 oo n V E a w)(hc:∀c v,am V E w c v->am V' E' w' (f c) v)(hk:∀k,k<w.heap.size->fq E.lab qs B k->w'.heap[k]? = w.heap[k]?/\E'.lab k=E.lab k)
  (ho:w'.os=w.os/\Tp w w'/\w'.output=w.output) (hs:w.heap.size<=w'.heap.size) (hbb:E'.bb=E.bb) (hslot:∀t,V'.slot t=(V.slot t).map f)
  (hboxes:∀b te cs,V'.box b=some (te,cs)->(¬ B b/\∃cs0,V.box b=some (te,cs0)/\cs=cs0.map f)\/jx V' E' w' b te cs)
  (hrel:∀r row,V'.row r=some row->(r∉qs/\V.row r=some row/\E'.rv r=E.rv r)\/bZ w' E'.lab r row (E'.rv r)) :
  R w0 lab0 oo n V' E' a w':=by
 refine⟨h.bound,h.size,h.defers,λt=>?_,λb te cs hb=>?_,λr row hr=>?_, ?_⟩;·rw[hslot];exact(h.slots t).mapl hc
 ·rcases hboxes b te cs hb with⟨hB,cs0,hb2,rfl⟩|hb2;·obtain⟨arr,k1,k2,k3,k4⟩:=h.boxes b _ _ hb2;have hlt:=k1.lt;have hsp:fq E.lab qs B (E.bb b):=⟨λq _ hq=>(by rcases hq with hq|hq<;>rw[k2]at hq<;>cases hq),λb' hB' hb'=>by rw[k2]at hb';injection hb' with hb';subst hb';exact hB hB'⟩;obtain⟨j1,j2⟩:=hk _ hlt hsp;exact⟨arr,by rw[hbb,j1];exact k1,by rw[hbb,j2];exact k2,k3.mapl hc,k4⟩
  ·exact hb2
 ·rcases hrel r row hr with⟨h1,h2,h3⟩|h2;·rw[h3];exact(h.rows r row h2).moved hk h1
  ·exact h2
 ·refine⟨ho.1.trans h.same.os,ho.2.1.trans h.same.tape,ho.2.2.trans h.same.output,Nat.le_trans h.same.size hs,λk hk' hl=>?_,λk hk' hl=>?_⟩;·obtain⟨g1,g2⟩:=h.same.old k hk' hl;obtain⟨j1,j2⟩:=hk k (Nat.lt_of_lt_of_le hk' h.same.size) (mE g1);exact⟨by rw[j2];exact g1,by rw[j1];exact g2⟩
  ·obtain⟨g1,g2⟩:=h.same.gone k hk' hl;obtain⟨j1,j2⟩:=hk k (Nat.lt_of_lt_of_le hk' h.same.size) (Cc g1);exact⟨by rw[j2];exact g1,by rw[j1];exact g2⟩
end
def Cj(h:R w0 lab0 oo n V E a w){bad:List Nat}:∀{l:List (Nat×Ty)}{cs:List ai}{us:List Value}{x:dy l},pV bad V.row l cs=some x->ak (am V E w) cs us->jf w (iZ E.lab bad) l us x/\cs.length=l.length
 |[],[],[],_,_,_=>⟨trivial,rfl⟩
 |p::l,c::cs,u::us,x,hp,hc=>by simp only[pV]at hp;obtain⟨g1,g2⟩:=ef hp;obtain⟨i1,i2⟩:=Cj h g2 hc.2;exact⟨⟨BX h g1 (us:=[u]) ⟨hc.1,trivial⟩,i1⟩,by simp[i2]⟩
 |[],[],_::_,_,_,hc=>hc.elim
 |[],_::_,_,_,hp,_=>by cases hp
 |_::_,[],_,_,hp,_=>by cases hp
 |_::_,_::_,[],_,_,hc=>hc.elim
def jf.mono{S S':Nat->Prop}(h:∀k,S k->S' k):∀{l:List (Nat×Ty)}{vs:List Value}{x:dy l},jf w S l vs x->jf w S' l vs x
 |[],[],_,_=>trivial
 |p::l,v::vs,x,h'=>⟨h'.1.mono h,h'.2.mono h⟩
 |[],_::_,_,h'=>h'.elim
 |_::_,[],_,h'=>h'.elim
def jf.len{S:Nat->Prop}:∀{l:List (Nat×Ty)}{vs:List Value}{x:dy l},jf w S l vs x->vs.length=l.length
 |[],[],_,_=>rfl
 |p::l,v::vs,x,h'=>by simp[h'.2.len]
 |[],_::_,_,h'=>h'.elim
 |_::_,[],_,h'=>h'.elim
def sL:∀{ps:List PT}{ss:List SV},ck ps=true->dS ps ss=[]
 |[],_,_=>by cases ‹List SV›<;>rfl
 |_::_,[],_=>rfl
 |p::ps,s::ss,h=>by simp only[ck,List.all_cons,Bool.and_eq_true,Bool.not_eq_true']at h;simp only[dS,h.1,cond_false,List.nil_append];exact sL h.2
def xv:∀{ps:List PT}{ss:List SV},dQ ps=true->dS ps ss=fF ps ss
 |[],_,_=>by cases ‹List SV›<;>rfl
 |_::_,[],_=>rfl
 |p::ps,s::ss,h=>by
  simp only[dQ]at h;cases hio:p.io;·rw[hio]at h;simp only[dS,fF,hio,cond_false,List.nil_append];exact xv h
  ·rw[hio]at h;simp only[dS,fF,hio,cond_true,sL h,List.append_nil];all_goals rfl
def pW{t:Ty}{cm:List Value}{y:t.den}(h:aB w' t [] cm y):ak (am V' E' w') (dZ t y none) cm :=
 md (p:=none) (h.rd λk hk=>by cases hk)
def LY{f:Nat}{en:ew}(hΓ:xl P w0 lab0 f en)(h:R w0 lab0 oo n V E a w){ss:List SV}{args:Array Value}(hs:ak (aL V E w) ss args.toList){X:(dy en.k.fx×en.k.t.den)×av en.ps}(hin:xp en V ss=some (qs,X))
  (hpre:cq en.pre X=true) {dst:Option Nat} (hd:∀d,dst=some d->d<n) (hfl:∀p∈en.rs,p.agg=false->p.t.nc=1) (hout:xq en V dst ss qs (en.val X)=some V') :
  dg P f args w λe w'=>∃v E',e=.returned v/\R w0 lab0 oo n V' E' (a.put dst v) w':=by
 obtain⟨⟨te,fx,t⟩,ps,back,rs,pre,val⟩:=en;unfold xp at hin;split at hin
 ·rename_i cs ss' hrf;simp only at hin;cases hnb:(dQ ps&&(dL (aH (dS ps ss'))&&(aH (cs.drop fx.length)).isEmpty));·rw[hnb]at hin;cases hin
  rw[hnb]at hin;simp only[Bool.and_eq_true,List.isEmpty_iff]at hnb;obtain⟨hone,hnb,hnone⟩:=hnb;simp only[cond_true]at hin;split at hin
  ·rename_i X' hX;injection hin with hin;injection hin with hq hx;subst hx;obtain⟨g12,g3⟩:=ef hX;obtain⟨g1,g2⟩:=ef g12;have hnd:=iW hnb;obtain⟨b,hss,hbox,htb⟩:=Cf hrf;subst hss;match hal:args.toList,hs with
   |[],hs=>exact hs.elim
   |v0::vs0,hs =>
   obtain⟨hv0,hs⟩:=hs;obtain⟨hv0,_⟩:=(show am V E w (.box b 0) v0 from hv0);obtain⟨arr,k1,k2,k3,k4⟩:=h.boxes b te cs hbox;have k1:=k1.cells htb;have k3a:=k3.take fx.length;have k3b:=k3.drop fx.length;obtain⟨r1,r2⟩:=Cj h (show pV _ V.row fx (cs.take fx.length)=some X'.1.1 from g1) k3a;obtain⟨L1,o1,o2,o3⟩:=gR h (show dJ V.row t (cs.drop fx.length)=some X'.1.2 from g2) k3b (by rw[hnone];exact List.nodup_nil);have hL1:L1=[]:=by
    cases L1 with
    |nil=>rfl
    |cons x xs =>obtain⟨q,q1,_⟩:=o3 x List.mem_cons_self;rw[hnone]at q1;cases q1
   subst hL1;obtain⟨L,i1,i2,i3,i4⟩:=nV h (show gT _ V.row ps ss'=some X'.2 from g3) hs hnd;rw[hq]at i1 i3 r1;have hlt:=(Array.getElem?_eq_some_iff.1 k1).1;have hgL:E.bb b∉L:=λhm=>by obtain⟨q,_,hq'⟩:=i3 _ hm;rcases hq' with hq'|hq'<;>rw[k2]at hq'<;>cases hq'
   have hL:∀k,fq E.lab qs (λb'=>b'=b) k->k∉E.bb b::L:=λk hk hkL=>by
    rcases List.mem_cons.1 hkL with rfl|hkL;·exact hk.2 b rfl k2
    ·obtain⟨q,q1,q2⟩:=i3 k hkL;exact hk.1 q q1 q2
   have hL2:∀k,iZ E.lab qs k->k∉E.bb b::L:=λk hk=>hL k (nW hk);have hal0:arr.toList=arr.toList.take fx.length++arr.toList.drop fx.length:=(List.take_append_drop _ _).symm;refine dg.mono (hΓ w args L (E.bb b) (arr.toList.take fx.length) X' ?_ (List.nodup_cons.2 ⟨hgL,i2⟩) (λk hk=>?_) hpre (λk hk hl=>(h.same.old k hk hl).2) (λk hkL hq=>hL k (mE (h.same.old k hq.1 hq.2).1) hkL)) ?_;·exact⟨v0,vs0,hal,⟨hv0,arr,_,k1,k4,hal0,r1.mono hL2,o1⟩,i1.mono hL2⟩
   ·rcases List.mem_cons.1 hk with rfl|hk;·exact hlt
    ·exact i4 k hk
   rintro e w' ⟨v,vs,Lb,Lr,rfl,A⟩
   obtain⟨arr',cm',m1,m2,m3,m4⟩:=A.ref;have m1:w'.heap[E.bb b]? = some (.cells arr' te (0,0)):=m1;have m4:aB w' t [] cm' (val X').1:=m4;obtain⟨nd1,nd2,nd3⟩:=List.nodup_append.1 A.nodup;unfold xq at hout;split at hout
   ·rename_i look hlook;have hlook:Ch back ps ss' (val X').2.1 qs V.row=some look:=hlook;have hio:sJ w' Lb back ps vs0 (val X').2.1:=by have:=A.io;rw[hal]at this;exact this
    obtain⟨f1,W1,W2⟩:∃f1:Nat->aC,(∀r row,(back=true\/r∉qs)->V.row r=some row->∃row',look r=some row'/\row'.t.nc=row.t.nc/\row.xs.length<=row'.xs.length) /\
      ∀r row',look r=some row'->(r∉qs/\V.row r=some row')\/((∃row,V.row r=some row)/\∀lab2:Nat->aC,(∀k∈Lb,lab2 k=f1 k)->bZ w' lab2 r row' (E.rv r)):=by
     cases hbk:back
     ·subst hbk;have hkill:look=λr=>cond (bF r qs) none (V.row r):=by
       cases qs with
       |nil=>injection hlook with hlook;subst hlook;rfl
       |cons q qs=>injection hlook with hlook;exact hlook.symm
      subst hkill;refine⟨λ_=>.st,λr row hr hrow=>?_,λr row' hr=>?_⟩
      ·have hm:bF r qs=false:=by
        cases hm:bF r qs;·rfl
        ·exact absurd (gO.1 hm) (hr.resolve_left (by simp))
       exact⟨row,by simp only[hm,cond_false];exact hrow,rfl,Nat.le_refl _⟩
      ·have hr:cond (bF r qs) none (V.row r)=some row':=hr;cases hm:bF r qs;·rw[hm]at hr;exact .inl ⟨(λhx=>by rw[gO.2 hx]at hm;cases hm),hr⟩
       ·rw[hm]at hr;cases hr
     ·subst hbk;have hq':aH (fF ps ss')=qs:=by rw[<-xv hone];exact hq
      obtain⟨_,_,_,_,hW⟩:=B3 h hone (by rw[<-xv hone];exact hnb) (by rw[hq',<-hq];exact g3) hs;obtain⟨f1,W⟩:=hW hlook hio nd2;rw[hq']at W;refine⟨f1,λr row _ hrow=>?_,λr row' hr=>?_⟩
      ·by_cases hm:r∈qs;·obtain⟨ro,row',w1,w2,w3,w4,_⟩:=W.row r hm;rw[hrow]at w1;injection w1 with w1;subst w1;exact⟨row',w2,by rw[w3],by omega⟩
       ·exact⟨row,by rw[W.other r hm];exact hrow,rfl,Nat.le_refl _⟩
      ·by_cases hm:r∈qs;·obtain⟨ro,row2,w1,w2,w3,w4,w5⟩:=W.row r hm;rw[hr]at w2;injection w2 with w2;subst w2;exact .inr ⟨⟨ro,w1⟩,w5⟩
       ·rw[W.other r hm]at hr;exact .inl ⟨hm,hr⟩
    split at hout;rename_i rcs rows j hres;split at hout
    ·rename_i look2 hadd;injection hout with hout;subst hout;obtain⟨f2,rvf,c1,c2⟩:=sD (dx dst) (j:=0) A.res nd1;have hres:cK (dx dst) rs (val X').2.2 0=(rcs,rows,j):=hres;rw[hres]at c1 c2;obtain⟨ad1,ad2⟩:=sA hadd
     classical
     let E':aP:=⟨λk=>if k∈Lr then f2 k else if k∈Lb then f1 k else E.lab k,λq=>if ∃p∈rows,p.1=q then rvf q else E.rv q,E.bb⟩;have hlr:∀k∈Lr,E'.lab k=f2 k:=λk hk=>if_pos hk;have hlb:∀k∈Lb,E'.lab k=f1 k:=λk hk=>(if_neg λh'=>nd3 k h' k hk rfl).trans (if_pos hk);have hlo:∀k,k∉Lr++Lb->E'.lab k=E.lab k:=λk hk=>(if_neg λh'=>hk (List.mem_append_left _ h')).trans (if_neg λh'=>hk (List.mem_append_right _ h'));have hrvo:∀q,(∀p∈rows,p.1≠q)->E'.rv q=E.rv q:=λq hq=>if_neg λ⟨p,h1,h2⟩=>hq p h1 h2;have hlne:∀q row,look q=some row->∀p∈rows,p.1≠q:=λq row hq p hp e=>by have:=(ad1 p hp).1;rw[e,hq]at this;cases this
     let σ2:St:=⟨(kX (dropK back qs) qs V).slot,sK ⟨te,fx,t⟩ (.c (.box b 0)::ss') (val X').1 (kX (dropK back qs) qs V).box,look2⟩;have hbx:σ2.box=au (kX (dropK back qs) qs V).box b (some (te,(cs.map (dropK back qs)).take fx.length++dZ t (val X').1 none)):=by show sK (⟨te,fx,t⟩:dh) (.c (.box b 0)::ss') (val X').1 (kX (dropK back qs) qs V).box=_;simp only[sK,xu,hbox]
     have hlen:((cs.map (dropK back qs)).take fx.length++dZ t (val X').1 none).length=cs.length:=by have e1:=(pW (V':=V) (E':=E) m4).len;have e2:=m4.len;have e3:=o1.len;have e4:=k3b.len;have e5:=r2;simp only[List.length_append,List.length_take,List.length_map,List.length_drop]at e1 e2 e3 e4 e5 ⊢;omega
     have hbx2:∀b' te' cs',V.box b'=some (te',cs')->∃cs2,σ2.box b'=some (te',cs2)/\cs2.length=cs'.length:=by
      intro b' te' cs' hb';rw[hbx];by_cases e:b'=b;·subst e;rw[hbox]at hb';injection hb' with hb';injection hb' with e1 e2;subst e1 e2;exact⟨_,a6 _ _ _,hlen⟩
      ·exact⟨cs'.map (dropK back qs),by rw[bi _ _ e,xu,hb'],by simp⟩
     have hk:∀k,k<w.heap.size->fq E.lab qs (λb'=>b'=b) k->w'.heap[k]? = w.heap[k]?/\E'.lab k=E.lab k:=λk hk hst=>by
      have hkL:=hL k hst;refine⟨A.old k hk hkL,hlo k λhm=>?_⟩;rcases A.fresh k hm with h1|h1;·exact hkL (List.mem_cons_of_mem _ h1)
      ·omega
     have hrow:∀r row,(back=true\/r∉qs)->V.row r=some row->∃row',σ2.row r=some row'/\E'.rv r=E.rv r/\row'.t.nc=row.t.nc/\row.xs.length<=row'.xs.length:=λr row hr hrow=>by obtain⟨row',q1,q2,q3⟩:=W1 r row hr hrow;exact⟨row',(ad2 r (hlne r row' q1)).trans q1,hrvo r (hlne r row' q1),q2,q3⟩
     have hc:∀c v,am V E w c v->am σ2 E' w' (dropK back qs c) v:=λc v h=>am.dropK hk hrow hbx2 rfl h;have hgo:E'.lab (E.bb b)=.box b:=by
      rw[hlo (E.bb b) λhm=>?_];·exact k2
      ·rcases A.fresh _ hm with h1|h1;·exact hgL h1
       ·omega
     have hR:R w0 lab0 oo n σ2 E' a w':=by
      refine R.step (B:=λb'=>b'=b) (E':=E') (qs:=qs) (f:=dropK back qs) h hc hk ⟨A.os,A.tape,A.output⟩ A.size rfl (λt=>LX back V t) (λb' te' cs' hb'=>?_) (λr row hr=>?_)
      ·rw[hbx]at hb';by_cases e:b'=b;·subst e;rw[a6]at hb';injection hb' with hb';injection hb' with e1 e2;subst e1 e2;refine .inr ⟨arr',.inl ⟨htb,m1⟩,hgo, ?_,m2⟩;rw[m3,<-List.map_take];exact ak.app (k3a.mapl hc) (pW m4)
       ·rw[bi _ _ e,xu]at hb';split at hb';·rename_i te2 cs2 hb2;injection hb' with hb';injection hb' with e1 e2;subst e1 e2;exact .inl ⟨e,cs2,hb2,rfl⟩
        ·cases hb'
      ·by_cases hex:∃p∈rows,p.1=r;·obtain⟨p,hp,rfl⟩:=hex;have e2:=(ad1 p hp).2;rw[show look2 p.1=some row from hr]at e2;injection e2 with e2;subst e2;exact .inr ((c2 σ2 E' hlr (λp' hp'=>if_pos ⟨p',hp',rfl⟩) (λp' hp'=>(ad1 p' hp').2)).2 p hp)
       ·have hne:∀p∈rows,p.1≠r:=λp hp e=>hex ⟨p,hp,e⟩;have hr:look2 r=some row:=hr;rw[ad2 r hne]at hr;rcases W2 r row hr with⟨h1,h2⟩|⟨_,h2⟩;·exact .inl ⟨h1,h2,hrvo r hne⟩
        ·rw[hrvo r hne];exact .inr (h2 E'.lab hlb)
     exact⟨v,E',rfl,xh hR (c2 σ2 E' hlr (λp' hp'=>if_pos ⟨p',hp',rfl⟩) (λp' hp'=>(ad1 p' hp').2)).1 A.ret (xg hfl hres) hd⟩
    ·cases hout
   ·cases hout
  ·cases hin
 ·cases hin
def Ck:∀{m:Nat}{ss:List SV}{vs:List Value}{cs:List ai},firstCells m ss=some cs->ak (aL V E w) ss vs->ak (am V E w) cs (vs.take m)
 |0,ss,vs,cs,hc,hs=>by injection hc with hc;subst hc;rw[List.take_zero];trivial
 |m+1,[],vs,cs,hc,hs=>by cases hc
 |m+1,.agg _::ss,vs,cs,hc,hs=>by cases hc
 |m+1,.tup _::ss,vs,cs,hc,hs=>by cases hc
 |m+1,.c c::ss,[],cs,hc,hs=>hs.elim
 |m+1,.c c::ss,v::vs,cs,hc,hs=>by
  simp only[firstCells]at hc;split at hc;·rename_i cs' hc';injection hc with hc;subst hc;exact⟨hs.1,Ck hc' hs.2⟩
  ·cases hc
def LZ{f:Nat}{en:jg}(hΓ:xn P w0 lab0 f en)(h:R w0 lab0 oo n V E a w){ss:List SV}{args:Array Value}(hs:ak (aL V E w) ss args.toList){X:av en.ps}(hin:xr en V ss=some X)
  (hpre:cq en.pre X=true) {dst:Option Nat} (hd:∀d,dst=some d->d<n) (hout:xt en V dst ss (en.val X)=some V') :
  dg P f args w λe w'=>∃v E',e=.returned v/\R w0 lab0 oo n V' E' (a.put dst v) w':=by
 obtain⟨⟨te,fx,t⟩,ps,pre,val⟩:=en;unfold xr at hin;simp only at hin;cases hnb:(ck ps&&Nat.blt te cd);·rw[hnb]at hin;cases hin
 rw[hnb]at hin;simp only[cond_true]at hin;simp only[Bool.and_eq_true]at hnb;have hno:=hnb.1;have htb:te<cd:=by simpa using hnb.2
 obtain⟨L,i1,i2,i3,i4⟩:=nV h hin hs (by rw[sL hno];exact List.nodup_nil);have hL:L=[]:=by
  cases L with
  |nil=>rfl
  |cons x xs =>obtain⟨q,q1,_⟩:=i3 x List.mem_cons_self;rw[sL hno]at q1;cases q1
 subst hL;refine dg.mono (hΓ w args X (i1.mono λ_ _=>trivial) hpre (λk hk hl=>(h.same.old k hk hl).2)) ?_;rintro e w' ⟨v,g,rfl,A⟩
 unfold xt at hout;split at hout
 ·rename_i d cs hcs;have hcs:firstCells fx.length ss=some cs:=hcs;split at hout
  ·rename_i hfree;injection hout with hout;subst hout;obtain⟨arr,cm,m1,m2,m3,m4⟩:=A.ref;have m1:w'.heap[g]? = some (.cells arr te (0,0)):=m1;have m3:arr.toList=args.toList.take fx.length++cm:=m3;have m4:aB w' t [] cm (val X):=m4;have hg:=A.new;let E':aP:={ lab:=au E.lab g (.box d),rv:=E.rv,bb:=au E.bb d g };let σ1:St:={ slot:=V.slot,box:=au V.box d (some (te,cs++dZ t (val X) none)),row:=V.row };have hb:∀k,k<w.heap.size->w'.heap[k]? = w.heap[k]?/\E'.lab k=E.lab k:=λk hk=>⟨A.old k hk,bi _ _ (by omega)⟩;have m:cI V E w σ1 E' w':=cI.grow hb (λr row hr=>⟨row,hr,rfl,rfl,Nat.le_refl _⟩)
    (λb te' cs' hq=>by
     have hne:b≠d:=λe=>by rw[e,hfree]at hq;cases hq
     exact⟨te',cs',(bi _ _ hne).trans hq,bi _ _ hne,rfl⟩)
   have hR:R w0 lab0 oo n σ1 E' a w':=by
    refine h.grow (E':=E') hb ⟨A.os,A.tape,A.output⟩ A.size rfl (λr row hr=>.inl ⟨hr,rfl⟩) (λ_ _ h=>h) (λb te' cs' hq=>?_) (λb x hq=>?_)
    ·by_cases e:b=d
     ·subst e;rw[show σ1.box b=some (te,cs++dZ t (val X) none)from a6 _ _ _]at hq;injection hq with hq;injection hq with e1 e2;subst e1 e2;refine .inr ⟨hfree,arr, ?_, ?_, ?_,m2⟩;·show jw te arr w'.heap[au E.bb b g b]?;rw[a6];exact .inl ⟨htb,m1⟩
      ·show au E.lab g (.box b) (au E.bb b g b)=_;rw[a6,a6]
      ·rw[m3];exact ak.app ((Ck hcs hs).imp λ_ _ h=>h.move m) (pW m4)
     ·exact .inl ⟨(bi _ _ e).symm.trans hq,bi _ _ e⟩
    ·have hne:b≠d:=λe=>by rw[e,hfree]at hq;cases hq
     exact(bi _ _ hne).trans hq
   refine⟨v,E',rfl,hR.put (hd d rfl) (s:=.c (.box d 0)) ⟨?_,te,cs++dZ t (val X) none,a6 _ _ _, ?_⟩⟩;·show _=Value.pointer (some ⟨au E.bb d g d,0,none⟩);rw[a6];exact A.ret
   ·have e1:=(pW (V':=V) (E':=E) m4).len;have e2:=m4.len;have:=t.nc_pos;rw[List.length_append];omega
  ·cases hout
 ·cases hout
end
structure kb where
 ps:List PT
 e:Nat
 t:Ty
 pre:Option (av ps->Bool)
 val:av ps->List t.den
structure sM[DC](w:World)(S:Nat->Prop)(e:Nat)(t:Ty)(Y:List t.den)(v:Value)(w':World):Prop where
 row:∃css:List (List Value),w'.ownsRow 0 e t.nc v Y.length css.flatten/\ak (λc y=>Rd w' (λk=>v.ownBlock≠some k/\(S k\/w.heap.size<=k)) t c y) css Y
 new:∀k,v.ownBlock=some k->w.heap.size<=k
 os:w'.os=w.os
 tape:Tp w w'
 output:w'.output=w.output
 size:w.heap.size<=w'.heap.size
 old:∀k,k<w.heap.size->w'.heap[k]? = w.heap[k]?
def kY[DC](P:Program)[Inv P](f:Nat)(en:kb):Prop :=
 ∀(w:World) (args:Array Value) (S:Nat->Prop) (X:av en.ps),dN w S en.ps args.toList X []->cq en.pre X=true->Inv.I P w->(∀k,Inv.B P k->S k)->dg P f args w λe w'=>∃v,e=.returned v/\sM w S en.e en.t (en.val X) v w'
def xw[DC](P:Program)(w0:World)(lab0:Nat->aC)(f:Nat)(en:kb):Prop :=
 ∀(w:World) (args:Array Value) (S:Nat->Prop) (X:av en.ps),dN w S en.ps args.toList X []->cq en.pre X=true->(∀k,k<w0.heap.size->lab0 k=.st->w.heap[k]? = w0.heap[k]?/\S k)->dg P f args w λe w'=>∃v,e=.returned v/\sM w S en.e en.t (en.val X) v w'
def kY.at[DC]{P:Program}[Inv P]{f:Nat}{en:kb}(h:kY P f en){w0:World}{lab0:Nat->aC}(hI:Inv.I P w0)(hB:∀k,Inv.B P k->lab0 k=.st):xw P w0 lab0 f en :=
 λw args S X h1 h2 h3=>h w args S X h1 h2 (Inv.keep w0 w (λk hk=>(h3 k (Inv.lt w0 k hI hk) (hB k hk)).1) hI) λk hk=>(h3 k (Inv.lt w0 k hI hk) (hB k hk)).2
def pX:(ps:List PT)->List SV->Option (av ps)
 |[],[]=>some ()
 |⟨t,false,false⟩::ps,.c c::ss=>ee (gM t [c]) (pX ps ss)
 |⟨t,true,false⟩::ps,.agg cs::ss=>ee (gM t cs) (pX ps ss)
 |_,_=>none
def xx(en:kb)(V:St)(dst:Option Nat)(Y:List en.t.den):Option St:=match dst with
 |some d=>match V.row (aW d 0)with
  |none=>some ⟨au V.slot d (.c (.own (aW d 0))),V.box,au V.row (aW d 0) (some ⟨en.e,en.t,Y,false,false⟩)⟩
  |some _=>none
 |none=>none
section
variable {P : Program} {V V' : St} {E E' : aP} {w w' : World} {w0 : World} {lab0 : Nat → aC} {oo : Nat → Value} {n : Nat} {a : Act} [DC]
def Cm{α β:Type}{x:Option α}{y:Option β}{z:α×β}(h:ee x y=some z):x=some z.1/\y=some z.2:=by
 cases x with
 |none=>cases h
 |some a=>cases y with
  |none=>cases h
  |some b =>injection h with h;subst h;exact⟨rfl,rfl⟩
def xy:∀{ps:List PT}{ss:List SV}{vs:List Value}{X:av ps},pX ps ss=some X->ak (aL V E w) ss vs->dN w (λk=>E.lab k=.st) ps vs X []
 |[],[],[],_,_,_=>rfl
 |⟨t,false,false⟩::ps,.c c::ss,v::vs,X,h,hs=>by obtain⟨h1,h2⟩:=Cm h;exact⟨[v],[],[],rfl,rfl,⟨rfl,pJ h1 ⟨hs.1,trivial⟩⟩,xy h2 hs.2⟩
 |⟨t,true,false⟩::ps,.agg cs::ss,v::vs,X,h,hs=>by obtain⟨h1,h2⟩:=Cm h;obtain⟨arr,e,hc⟩:=hs.1;exact⟨arr.toList,[],[],rfl,⟨arr,e,rfl⟩,⟨rfl,pJ h1 hc⟩,xy h2 hs.2⟩
def L4{f:Nat}{en:kb}(hΓ:xw P w0 lab0 f en)(h:R w0 lab0 oo n V E a w){ss:List SV}{args:Array Value}(hs:ak (aL V E w) ss args.toList){X:av en.ps}(hin:pX en.ps ss=some X)
  (hpre:cq en.pre X=true) {dst:Option Nat} (hd:∀d,dst=some d->d<n) (hout:xx en V dst (en.val X)=some V') :
  dg P f args w λe w'=>∃v E',e=.returned v/\R w0 lab0 oo n V' E' (a.put dst v) w':=by
 obtain⟨ps,e,t,pre,val⟩:=en;refine dg.mono (hΓ w args _ X (xy hin hs) hpre (λk hk hl=>⟨(h.same.old k hk hl).2,(h.same.old k hk hl).1⟩)) ?_;rintro ex w' ⟨v,rfl,A⟩
 unfold xx at hout;split at hout
 ·rename_i d;split at hout
  ·rename_i hfree;injection hout with hout;subst hout;have A:sM w (λk=>E.lab k=.st) e t (val X) v w':=A;obtain⟨css,ho,hrd⟩:=A.row;have hnew:=A.new;let q0:=aW d 0;let row:ae:=⟨e,t,val X,false,false⟩;let E':aP:={ lab:=λk=>if k<w.heap.size then E.lab k else if v.ownBlock=some k then .row q0 else .st,rv:=au E.rv q0 v,bb:=E.bb };let σ1:St:={ slot:=V.slot,box:=V.box,row:=au V.row q0 (some row) };have hb:∀k,k<w.heap.size->w'.heap[k]? = w.heap[k]?/\E'.lab k=E.lab k:=λk hk=>⟨A.old k hk,if_pos hk⟩;have hR:R w0 lab0 oo n σ1 E' a w':=by
    refine h.grow (E':=E') hb ⟨A.os,A.tape,A.output⟩ A.size rfl (λr row2 hr=>?_) (λr row2 hr=>?_) (λb te' cs' hq=>.inl ⟨hq,rfl⟩) (λb x hq=>hq)
    ·by_cases eq:r=q0
     ·subst eq;have hr':au V.row q0 (some row) q0=some row2:=hr;rw[a6]at hr';injection hr' with hr';subst hr';refine .inr ⟨hfree,css, ?_,λk hk=>?_, ?_,λhn=>by cases hn⟩;·show w'.ownsRow 0 e t.nc (au E.rv q0 v q0) _ _;rw[a6];exact ho
      ·have hk':v.ownBlock=some k:=by have hk0:(au E.rv q0 v q0).ownBlock=some k:=hk;rwa [a6]at hk0
       have:=hnew k hk';exact(if_neg (by omega)).trans (if_pos hk')
      ·refine ak.imp (λc y hy=>Rd.mono (λk hk=>?_) hy) hrd;show(if k<w.heap.size then E.lab k else if v.ownBlock=some k then .row q0 else .st)=aC.st;obtain⟨k1,k2⟩:=hk;by_cases hlt:k<w.heap.size
       ·rw[if_pos hlt];rcases k2 with k2|k2;·exact k2
        ·omega
       ·rw[if_neg hlt,if_neg k1]
     ·have hr':au V.row q0 (some row) r=some row2:=hr;rw[bi _ _ eq]at hr';exact .inl ⟨hr',bi _ _ eq⟩
    ·have hne:r≠q0:=λeq=>by rw[eq,hfree]at hr;cases hr
     exact(bi _ _ hne).trans hr
   refine⟨v,E',rfl,hR.put (hd d rfl) (s:=.c (.own q0)) ⟨?_, ?_, ?_⟩⟩;·show _=au E.rv q0 v q0;rw[a6]
   ·show(au V.row q0 (some row) q0).isSome=true;rw[a6];rfl
   ·obtain⟨A1,c1,e1,_⟩:=iu ho;exact⟨A1,_,c1,e1⟩
  ·cases hout
 ·cases hout
end
end Go.Fw
