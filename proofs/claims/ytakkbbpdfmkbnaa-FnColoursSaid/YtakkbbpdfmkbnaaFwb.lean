/- The framework: what a symbolic run of the model's code tells, proved sound. Nothing is assumed. -/
import Derived.Test.YtakkbbpdfmkbnaaFwa
import Derived.ArgAppend
import Derived.OrdersHeld
set_option linter.defProp false
set_option linter.unusedVariables false
set_option linter.unusedSectionVars false
set_option linter.unusedSimpArgs false
namespace Go.Fw
open Go.RowKit
def ns:Option St->bj
 |some V=>.ok V
 |none=>.fail
def rZ:Operand->Operand->Bool
 |.tmp x,.tmp y=>Nat.beq x y
 |.const (.int k a),.const (.int k' b)=>jO k k'&&decide (a=b)
 |_,_=>false
def pk:Nat->List (Nat×Operand)->Bool
 |_,[]=>true
 |i,(j,_)::r=>Nat.beq i j&&pk (i+1) r
def l7:List af->Bool
 |[]=>true
 |.undef::_=>false
 |_::cs=>l7 cs
def vM(T:bc)(V:St)(t:Nat)(p:SV)(x:SV):bj :=
 match T t,p,x.cells with
 |some i,.c (.box b f),some vs=>cond (Nat.beq vs.length i.zero.length&&l7 vs) (ns (Ar V b f vs)) .fail
 |some i,.c (.elt r j f),some vs=>cond (Nat.beq vs.length i.zero.length) (match V.row r with
  |some row=>cond (Nat.beq f 0&&(Nat.beq vs.length row.t.nc&&row.deep))
    (match dk V.row row.t vs with
    |some y=>cond (dq (aF vs)&&!(bq r (aF vs))) (match absorbs (some r) (aF vs) V with
     |some σ1=>.ok { σ1 with row:=am σ1.row r (some { row with xs:=row.xs.set j.toNat y }) }
     |none=>.fail) .fail
    |none=>.fail)
    (match vs with
    |[c]=>match ne row.t (row.xs.getD j.toNat row.t.dflt) f c with
     |some y=>.ok { V with row:=am V.row r (some { row with xs:=row.xs.set j.toNat y }) }
     |none=>.fail
    |_=>.fail)
  |none=>.fail) .fail
 |_,_,_=>.fail
def vN(T:bc)(V:St)(d t len:Nat)(parts:List (Nat×Operand)):bj :=
 match T t with
 |some ti=>match ti.el with
  |some e=>match T e,nh V parts with
   |some ei,some ps=>cond (Nat.beq ps.length len&&(pk 0 parts&&(Nat.beq ei.zero.length ei.ty.nc&&Nat.ble (len*ei.ty.nc) 16777216)))
     (match jP (λi=>some (i*ei.ty.nc,ei.ty.nc)) (List.replicate len ei.zero).flatten ps with
     |some cs =>
      let ccs:=d6 ei.ty.nc len cs;match ni V.row ei.ty ccs with
      |some ys=>cond (dq (aF ccs.flatten)&&!(bq (aT d 0) (aF ccs.flatten))) (match absorbs (some (aT d 0)) (aF ccs.flatten) V with
       |some σ1=>match σ1.row (aT d 0)with
        |none=>.ok { slot:=am σ1.slot d (.c (.own (aT d 0))),box:=σ1.box,row:=am σ1.row (aT d 0) (some ⟨e,ei.ty,ys,true,false⟩) }
        |some _=>.fail
       |none=>.fail) .fail
      |none=>match nj ei.ty ccs with
       |some ys=>newRow V d ⟨e,ei.ty,ys,false,false⟩
       |none=>.fail
     |none=>.fail) .fail
   |_,_=>.fail
  |none=>.fail
 |none=>.fail
def vO(T:bc)(V:St)(d t:Nat)(l c:Operand):bj :=
 match T t,ph V l with
 |some ti,some m=>match ti.el with
  |some e=>match T e with
   |some ei=>match dk (λ_=>none) ei.ty ei.zero with
    |some z=>cond (rZ l c&&(Nat.beq ei.zero.length ei.ty.nc&&(Nat.ble ei.bytes 128&&Nat.beq (aF ei.zero).length 0)))
      (.chk (bE 0 m&&decide (m<1099511627776)) (newRow V d ⟨e,ei.ty,List.replicate m.toNat z,true,false⟩)) .fail
    |none=>.fail
   |none=>.fail
  |none=>.fail
 |_,_=>.fail
def pm(V:St)(d r:Nat)(row:ac)(x:af):bj :=
 let go (σ1:St) (ys:List row.t.den):bj:=.chk (Nat.blt (row.xs.length+ys.length) 1099511627776) (.ok { slot:=am (σ1.mapc (dG r)).slot d (.c (.own r)),box:=(σ1.mapc (dG r)).box,row:=am σ1.row r (some { row with xs:=row.xs++ys }) });match x with
 |.nil=>go V []
 |.own q=>match V.row q with
  |some row2=>match dj row2.t row.t row2.xs with
   |some ys=>cond row.t.flat (go V ys) (cond (!(Nat.beq q r)&&(row.deep&&row2.deep)) (match absorb q (some r) V with
    |some σ1=>go σ1 ys
    |none=>.fail) (cond (!row.deep&&!(Nat.beq q r)) (match absorb q none V with
     |some σ1=>go σ1 ys
     |none=>.fail) .fail))
   |none=>.fail
  |none=>.fail
 |.sn _ t' xs p=>match dj t' row.t xs with
  |some ys=>cond row.t.flat (go V ys) (cond (!row.deep&&p.isNone) (go V ys) .fail)
  |none=>.fail
 |.part q lo m=>match V.row q with
  |some row2=>match dj row2.t row.t ((row2.xs.drop lo.toNat).take m.toNat)with
   |some ys=>cond row.t.flat (go V ys) .fail
   |none=>.fail
  |none=>.fail
 |_=>.fail
def nu(V:St)(t:Ty):af->Bool
 |.own q=>match V.row q with
  |some row=>row.deep
  |none=>true
 |.sn _ _ _ _=>t.flat
 |_=>true
def AM(V:St)(k:IntKind):af->Option (List Int)
 |.own q=>match V.row q with
  |some row=>dj row.t (.int k) row.xs
  |none=>none
 |.sn _ t xs _=>dj t (.int k) xs
 |_=>none
def vR(V:St)(d e:Nat)(k:IntKind)(xs:List Int)(x:af):bj:=match AM V k x with
 |some ys=>.chk (Nat.blt 0 ys.length&&Nat.blt (xs.length+ys.length) 1099511627776) (newRow V d ⟨e,.int k,xs++ys,true,false⟩)
 |none=>.fail
def r6(row:ac)(dp:Bool):Option ac:=cond (row.deep&&(!row.t.flat&&!dp)) (match row.xs with
 |[]=>some ⟨row.e,row.t,[],false,row.nilE⟩
 |_::_=>none) none
def vS(T:bc)(V:St)(d t:Nat)(s x:SV):bj :=
 match T t,s,x with
 |some ti,.c s,.c x=>match ti.el with
  |some e=>match T e with
   |some ei=>cond (Nat.ble ei.bytes 128) (match s with
    |.own r=>match V.row r with
     |some row=>cond (Nat.beq row.e e&&Nat.beq ei.zero.length row.t.nc) (match r6 row (nu V row.t x)with
      |some row'=>pm { V with row:=am V.row r (some row') } d r row' x
      |none=>pm V d r row x) .fail
     |none=>.fail
    |.nil=>cond (Nat.beq ei.zero.length ei.ty.nc) (match V.row (aT d 0)with
     |none=>pm { V with row:=am V.row (aT d 0) (some ⟨e,ei.ty,[],nu V ei.ty x,true⟩) } d (aT d 0) ⟨e,ei.ty,[],nu V ei.ty x,true⟩ x
     |some _=>.fail) .fail
    |.full _ (.int k) xs _=>cond (Nat.beq ei.zero.length 1) (vR V d e k xs x) .fail
    |_=>.fail) .fail
   |none=>.fail
  |none=>.fail
 |_,_,_=>.fail
def eE(V:St)(d:Option Nat)(s:SV):St:=match d with
 |some d=>V.put d s
 |none=>V
def newMap(V:St)(d t:Nat)(kt:Ty):bj :=
 match V.box d with
 |none=>.ok { slot:=am V.slot d (.c (.mp d)),box:=am V.box d (some (bV+t,[.mset kt []])),row:=V.row }
 |some _=>.fail
def po(V:St)(ti:TI)(f:(t:Ty)->List t.den->t.den->List t.den)(c:af):af->Option St
 |.mp b=>match V.box b with
  |some (te,[.mset t xs])=>cond (fA ti t&&Nat.ble bV te) (match ge t [c]with
   |some y=>some { V with box:=am V.box b (some (te,[.mset t (f t xs y)])) }
   |none=>none) none
  |_=>none
 |_=>none
def r7(T:bc)(V:St)(dst:Option Nat)(op:Op):bj :=
 match op,dst with
 |.alloc t,some d=>match T t with
  |some i=>cond (Nat.blt 0 i.zero.length) (newBox V d t i.zero) .fail
  |none=>.fail
 |.box t x,some d=>match T t,(ev V x).cells with
  |some i,some cs=>cond (Nat.beq cs.length i.zero.length&&(Nat.blt 0 cs.length&&l7 cs)) (newBox V d t cs) .fail
  |_,_=>.fail
 |.store t p x,none=>vM T V t (ev V p) (ev V x)
 |.makeSlice t l c,some d=>vO T V d t l c
 |.makeMap t none,some d=>match T t with
  |some ti=>match ti.ty with
   |.pair kt _=>cond (fA ti kt) (newMap V d t kt) .fail
   |_=>.fail
  |none=>.fail
 |.mapUpdate t m k v,none=>match T t,ev V m,ev V k,ev V v with
  |some ti,.c u,.c c,.c (.bool true)=>ns (po V ti (λkt xs y=>jS kt xs y) c u)
  |_,_,_,_=>.fail
 |.insert t m k v,none=>match T t,ev V m,ev V k,ev V v with
  |some ti,.c u,.c c,.c (.bool true)=>ns (po V ti (λkt xs y=>jS kt xs y) c u)
  |_,_,_,_=>.fail
 |.call { callee:=.builtin .delete,args:=args,argTypes:=ts },dst=>match args.toList,ts.toList with
  |[m,k],[t,_]=>match T t,ev V m,ev V k with
   |some ti,.c u,.c c=>match po V ti (λkt xs y=>rT kt xs y) c u with
    |some V'=>.ok (eE V' dst (.tup []))
    |none=>.fail
   |_,_,_=>.fail
  |_,_=>.fail
 |.buildSlice t len parts,some d=>vN T V d t len parts.toList
 |.call { callee:=.builtin .append,args:=args,argTypes:=ts },some d=>match args.toList,ts.toList with
  |[s,x],[t,t']=>cond (Nat.beq t t') (vS T V d t (ev V s) (ev V x)) .fail
  |_,_=>.fail
 |_,_=>.fail
section
variable {P : Program} {V V' : St} {E : aM} {w : World} {w0 : World} {lab0 : Nat → ay} {oo : Nat → Value} {n : Nat} {a : Act} {T : bc} [DC]
def l8:Op->Bool
 |.makeSlice _ _ _=>true
 |.alloc _=>true
 |.box _ _=>true
 |.buildSlice _ _ _=>true
 |_=>false
def bL.alloc(w:World)(o:Obj):bL w (w.alloc o):=⟨rfl,⟨rfl,λ_=>Nat.le_refl _⟩,rfl,by simp,lV o⟩
def It(P:Program)(w0:World)(lab0:Nat->ay)(oo:Nat->Value)(n:Nat)(o:Oper)(a:Act)(w:World)(V':St):Prop :=
 (∃v w' E',(execOp a.eval o).run P w=.ok (.value v) w'/\(l8 o.op=true->bL w w')/\R w0 lab0 oo n V' E' (a.put o.dst v) w')\/(∃w' E',(execOp a.eval o).run P w=.ok .skip w'/\R w0 lab0 oo n V' E' (a.put o.dst undef) w')
def AN{d te:Nat}{cs:List af}(h:(Fw.newBox V d te cs).run=some V'):V.box d=none/\V'={ slot:=am V.slot d (.c (.box d 0)),box:=am V.box d (some (te,cs)),row:=V.row }/\te<bV:=by
 unfold Fw.newBox at h;split at h
 ·rename_i hb;cases ht:Nat.blt te bV;·rw[ht]at h;cases h
  ·rw[ht]at h;injection h with h;exact⟨hb,h.symm,by simpa using ht⟩
 ·cases h
def R.iput(h:R w0 lab0 oo n V E a w){d:Option Nat}{s:SV}{v:Value}(hd:∀d',d=some d'->d'<n)(hs:aK V E w s v):R w0 lab0 oo n (eE V d s) E (a.put d v) w:=by
 cases d with
 |none=>exact h
 |some d=>exact h.put (hd d rfl) hs
def Iu{d t:Nat}{kt:Ty}(h:(Fw.newMap V d t kt).run=some V'):V.box d=none/\V'={ slot:=am V.slot d (.c (.mp d)),box:=am V.box d (some (bV+t,[.mset kt []])),row:=V.row }:=by
 unfold Fw.newMap at h;split at h;·rename_i hb;injection h with h;exact⟨hb,h.symm⟩
 ·cases h
def vT{ti:TI}{f:(t:Ty)->List t.den->t.den->List t.den}{c u:af}(h:po V ti f c u=some V'):∃b te kt xs y,u=.mp b/\V.box b=some (te,[.mset kt xs])/\fA ti kt=true/\bV<=te/\ge kt [c]=some y /\
  V'={ V with box:=am V.box b (some (te,[.mset kt (f kt xs y)])) }:=by
 unfold po at h;split at h
 ·split at h
  ·rename_i te kt xs hb;cases hq:(fA ti kt&&Nat.ble bV te);·rw[hq]at h;cases h
   ·rw[hq]at h;simp only[Bool.and_eq_true]at hq;simp only[cond_true]at h;split at h;·rename_i y hy;injection h with h;exact⟨_,te,kt,xs,y,rfl,hb,hq.1,Nat.le_of_ble_eq_true hq.2,hy,h.symm⟩
    ·cases h
  ·cases h
 ·cases h
def vU{d:Nat}{row:ac}(h:(Fw.newRow V d row).run=some V'):V.row (aT d 0)=none/\V'={ slot:=am V.slot d (.c (.own (aT d 0))),box:=V.box,row:=am V.row (aT d 0) (some row) }:=by
 unfold Fw.newRow at h;split at h;·rename_i hb;injection h with h;exact⟨hb,h.symm⟩
 ·cases h
def Iv(h:R w0 lab0 oo n V E a w){l c:Operand}{m:Int}(hl:ph V l=some m)(hs:rZ l c=true):∃k,a.eval l=.int k m/\a.eval c=.int k m:=by
 obtain⟨k,hk⟩:=AH h hl;refine⟨k,hk, ?_⟩;unfold rZ at hs;split at hs;·have:=Nat.eq_of_beq_eq_true hs;subst this;exact hk
 ·simp only[Bool.and_eq_true,decide_eq_true_eq]at hs;obtain⟨h1,rfl⟩:=hs;have:=o6 h1;subst this;exact hk
 ·cases hs
def Iw(hT:aX P T)(h:R w0 lab0 oo n V E a w){d t:Nat}{l c:Operand}(hd:d<n)(hr:(vO T V d t l c).run=some V') :
  ∃v w' E',(Instr.makeSlice t (a.eval l) (a.eval c)).run P w=.ok v w'/\bL w w'/\R w0 lab0 oo n V' E' (a.put (some d) v) w':=by
 unfold vO at hr;split at hr
 ·rename_i ti m ht hm;split at hr
  ·rename_i e he;split at hr
   ·rename_i ei hei;split at hr
    ·rename_i z hz;cases hq:(rZ l c&&(Nat.beq ei.zero.length ei.ty.nc&&(Nat.ble ei.bytes 128&&Nat.beq (aF ei.zero).length 0)));·rw[hq]at hr;cases hr
     ·rw[hq]at hr;simp only[Bool.and_eq_true]at hq;simp only[cond_true,bj.run]at hr;cases hg:(bE 0 m&&decide (m<1099511627776));·rw[hg]at hr;cases hr
      ·rw[hg]at hr;simp only[Bool.and_eq_true,rY,decide_eq_true_eq]at hg;obtain⟨h1,rfl⟩:=vU hr;obtain⟨k,k1,k2⟩:=Iv h hm hq.1;rw[k1,k2];exact h.make hT ht he hei (Nat.eq_of_beq_eq_true hq.2.1) (Nat.le_of_ble_eq_true hq.2.2.1) hz (List.eq_nil_of_length_eq_zero (Nat.eq_of_beq_eq_true hq.2.2.2)) hg.1 hg.2 k hd h1
    ·cases hr
   ·cases hr
  ·cases hr
 ·cases hr
def AO{s:SV}{cs:List af}{v:Value}(h:s.cells=some cs)(hs:aK V E w s v)(hb:∀c∈cs,c≠.undef):∀u∈v.cells.toList,u.oneCell'=true:=by
 have hr:=o8 h hs;have key:∀{cs:List af}{us:List Value},ai (aj V E w) cs us->(∀c∈cs,c≠.undef)->∀u∈us,u.oneCell'=true:=by
  intro cs;induction cs with
  |nil=>intro us h _ u hu;cases us with
   |nil=>simp at hu
   |cons _ _=>exact h.elim
  |cons c cs ih =>
   intro us h hb u hu;cases us with
   |nil=>exact h.elim
   |cons x us =>
    rcases List.mem_cons.1 hu with rfl|hu
    ·have hc:=h.1;have hne:=hb c (by simp);cases c with
     |undef=>exact absurd rfl hne
     |err b=>exact jN.one hc
     |bor v0 e t xs=>obtain⟨_,A,n,c,hv,_⟩:=hc;injection hv with hv;subst hv;rfl
     |sn e t xs p=>obtain⟨A,n,c,hv,_⟩:=hc;injection hv with hv;subst hv;rfl
     |full e t xs p=>obtain⟨_,A,rfl⟩:=hc;rfl
     |own r=>obtain⟨_,_,A,n,c,rfl⟩:=hc;rfl
     |part r lo n=>obtain⟨row,A,c,_,_,_,_,rfl,_⟩:=hc;rfl
     |box b f=>obtain⟨rfl,_⟩:=hc;rfl
     |elt r i f=>obtain⟨row,g,n,c,_,_,_,_,_,rfl⟩:=hc;rfl
     |selt t x p f=>obtain⟨ad,cs,rfl,_⟩:=hc;rfl
     |fn f caps=>obtain⟨rfl,_⟩:=hc;rfl
     |mp b=>obtain⟨rfl,_⟩:=hc;rfl
     |_=>obtain rfl:u=_:=hc;rfl
    ·exact ih h.2 (λc hc=>hb c (by simp[hc])) u hu
 exact key hr hb
def vV:∀{cs:List af},l7 cs=true->∀c∈cs,c≠.undef
  |[],_,c,hc=>by simp at hc
  |x::cs,h,c,hc=>by
    cases x<;>first
      |cases h
      | (rcases List.mem_cons.1 hc with rfl|hc
         · exact λe=>by cases e
         · exact vV (cs:=cs) (by simpa[l7]using h) c hc)
def r8(hT:aX P T){t:Nat}{ti:TI}(ht:T t=some ti){v:Value}(hl:v.cells.size=ti.zero.length){g o:Nat}{w':World}(hs:(storeCells ⟨g,o,none⟩ v.cells.toList 0).run P w=.ok () w') :
  (Instr.storeAt t (.pointer (some ⟨g,o,none⟩)) v).run P w=.ok () w':=by
 simp[Instr.storeAt,Instr.sureAddr,storeVar,lT hT ht,hl,hs]
def Ix(hT:aX P T)(h:R w0 lab0 oo n V E a w){t:Nat}{p x:SV}{vp vx:Value}(hp:aK V E w p vp)(hx:aK V E w x vx)(hr:(vM T V t p x).run=some V') :
  ∃w' E',(Instr.storeAt t vp vx).run P w=.ok () w'/\R w0 lab0 oo n V' E' a w':=by
 unfold vM at hr;split at hr
 ·rename_i i b f vs ht hvs;cases hq:(Nat.beq vs.length i.zero.length&&l7 vs);·rw[hq]at hr;cases hr
  ·rw[hq]at hr;simp only[Bool.and_eq_true]at hq;have hlen:=Nat.eq_of_beq_eq_true hq.1;have hvr:=o8 hvs hx;have hone:=AO hvs hx (vV hq.2);unfold Ar at hr;simp only[cond_true]at hr;split at hr
   ·rename_i te cs hb;cases hf:(Nat.blt te bV&&Nat.ble (f+vs.length) cs.length);·rw[hf]at hr;cases hr
    ·rw[hf]at hr;simp only[cond_true,ns,bj.run,Option.some.injEq]at hr;subst hr;simp only[Bool.and_eq_true]at hf;obtain⟨rfl,_⟩:=(show aj V E w (.box b f) vp from hp);obtain⟨g1,g2⟩:=h.storeBox (P:=P) hb (by simpa using hf.1) (Nat.le_of_ble_eq_true hf.2) hvr hone;exact⟨_,E,r8 hT ht (by rw[<-Array.length_toList,<-hvr.len,hlen]) g1,g2⟩
   ·cases hr
 ·rename_i i r j f vs ht hvs;cases hq:Nat.beq vs.length i.zero.length;·rw[hq]at hr;cases hr
  ·rw[hq]at hr;have hlen:=Nat.eq_of_beq_eq_true hq;have hvr:=o8 hvs hx;simp only[cond_true]at hr;split at hr
   ·rename_i row hrow;obtain⟨row',g,m,c,e1,e2,e3,e4,e5,rfl⟩:=(show aj V E w (.elt r j f) vp from hp);rw[hrow]at e1;injection e1 with e1;subst e1;have hsz:vx.cells.size=i.zero.length:=by rw[<-Array.length_toList,<-hvr.len,hlen]
    cases hk:(Nat.beq f 0&&(Nat.beq vs.length row.t.nc&&row.deep))
    ·rw[hk]at hr;simp only[cond_false]at hr;split at hr
     ·rename_i c';split at hr;·rename_i y hy;simp only[bj.run,Option.some.injEq]at hr;subst hr;obtain⟨u,hu,hcu⟩:=cb hvr;obtain⟨k1,k2,k3,k4⟩:=vq hy hcu;obtain⟨w',j1,j2⟩:=h.storeElt (P:=P) hrow e2 (i:=j.toNat) (f:=f) (us:=[u]) (y:=y) (by omega) (by simp;omega) (λv hv=>by simp at hv;subst hv;exact k2) k3 k4;rw[<-hu]at j1;exact⟨w',E,r8 hT ht hsz j1,j2⟩
      ·cases hr
     ·cases hr
    ·rw[hk]at hr;simp only[cond_true]at hr;simp only[Bool.and_eq_true]at hk;have hf:=Nat.eq_of_beq_eq_true hk.1;subst hf;split at hr
     ·rename_i y hy;cases hn:(dq (aF vs)&&!(bq r (aF vs)));·rw[hn]at hr;cases hr
      ·rw[hn]at hr;simp only[cond_true]at hr;simp only[Bool.and_eq_true,Bool.not_eq_true']at hn;split at hr;·rename_i σ1 hab;simp only[bj.run,Option.some.injEq]at hr;subst hr;obtain⟨w',E',j1,j2⟩:=h.storeEltW (P:=P) hrow hk.2.2 e2 (i:=j.toNat) (by omega) hvr (iw hn.1) (λhm=>by rw[gi.2 hm]at hn;cases hn.2) hy hab;exact⟨w',E',r8 hT ht hsz (by rw[Nat.add_zero];exact j1),j2⟩
       ·cases hr
     ·cases hr
   ·cases hr
 ·cases hr
def AP{α β:Type}{Q:α->β->Prop}:∀{as:List (List α)}{bs:List (List β)},ai (ai Q) as bs->ai Q as.flatten bs.flatten
 |[],[],_=>trivial
 |_::_,_::_,h=>h.1.app (AP h.2)
def AQ{place:Nat->Option (Nat×Nat)}:∀{ps:List (Nat×List af)}{cs cs':List af},jP place cs ps=some cs'->cs'.length=cs.length
 |[],cs,cs',h=>by simp only[jP,Option.some.injEq]at h;subst h;rfl
 | (i,vs)::ps,cs,cs',h=>by
  simp only[jP]at h;split at h
  ·rename_i a7 sz _;cases hq:(Nat.beq vs.length sz&&Nat.ble (a7+vs.length) cs.length);·rw[hq]at h;cases h
   ·rw[hq]at h;simp only[Bool.and_eq_true]at hq;have h2:=Nat.le_of_ble_eq_true hq.2;rw[AQ h];simp only[dm,List.length_append,List.length_take,List.length_drop];omega
  ·cases h
def AR{α:Type}{m:Nat}:∀{k:Nat}{l:List α},(d6 m k l).length=k
 |0,_=>rfl
 |k+1,l=>by simp[d6,AR]
def Iz(hT:aX P T)(h:R w0 lab0 oo n V E a w){d t len:Nat}{parts:Array (Nat×Operand)}(hd:d<n)(hr:(vN T V d t len parts.toList).run=some V') :
  ∃v w' E',(Instr.buildSlice t len (parts.map λ(i,x)=>(i,a.eval x))).run P w=.ok v w'/\bL w w'/\R w0 lab0 oo n V' E' (a.put (some d) v) w':=by
 unfold vN at hr;split at hr
 ·rename_i ti ht;split at hr
  ·rename_i e he;split at hr
   ·rename_i ei ps hei hps;cases hq:(Nat.beq ps.length len&&(pk 0 parts.toList&&(Nat.beq ei.zero.length ei.ty.nc&&Nat.ble (len*ei.ty.nc) 16777216)));·rw[hq]at hr;cases hr
    ·rw[hq]at hr;simp only[cond_true]at hr;simp only[Bool.and_eq_true]at hq;have hnc:=Nat.eq_of_beq_eq_true hq.2.2.1;have hle:=Nat.le_of_ble_eq_true hq.2.2.2;obtain⟨inf,dd,z,i1,i2,i3,i4,i5,i6,i7,i8⟩:=fc hT hei;have hz:=(lY (V:=V) (E:=E) (w:=w) i6).1;have hzl:z.cells.size=ei.ty.nc:=by rw[<-Array.length_toList,<-hz.len,hnc]
     have hu:=gO hT ht he;split at hr
     ·rename_i cs hcs;have hzz:ai (aj V E w) (List.replicate len ei.zero).flatten (madeCells z.cells (len*z.cells.size)).toList:=by rw[Ax _ _ (by rw[hzl];exact ei.ty.nc_pos)];exact AP (ai.rep hz len)
      obtain⟨arr,k1,k2⟩:=vl hcs (vm h hps) hzz;have hcl:cs.length=len*ei.ty.nc:=by rw[AQ hcs,nn (m:=ei.ty.nc) (λc hc=>by rw[(List.mem_replicate.1 hc).2];exact hnc),List.length_replicate]
      have harr:arr.size=len*ei.ty.nc:=by rw[<-Array.length_toList,<-k2.len,hcl]
      have e3:(parts.map λ(i,x)=>(i,a.eval x)).toList=parts.toList.map λq=>(q.1,a.eval q.2):=by simp
      have hrun:(Instr.buildSlice t len (parts.map λ(i,x)=>(i,a.eval x))).run P w=.ok (.slice (some ⟨w.heap.size,0,none⟩) len len) (w.alloc (.cells arr e)):=by
       have hz0:(zeroValue e).run P w=.ok z w:=by simp[zeroValue,typeInfo,i1,i5]
       have hs0:=lT hT hei w;rw[hnc]at hs0;have hn:¬ (2 ^ 24<len*ei.ty.nc):=by omega
       by_cases h0:len*ei.ty.nc=0;·have harr0:arr=#[]:=Array.eq_empty_of_size_eq_zero (by omega);have hm0:(madeCells z.cells (len*z.cells.size))=#[]:=Array.eq_empty_of_size_eq_zero (by rw[size_madeCells,hzl];exact h0);rw[hm0]at k1;simp only[Instr.buildSlice,Sem.run_bind,run_underlying hu,Result.andThen_ok,hs0,Sem.run_ite];simp[h0,e3,k1,Go.newRow,Array.range_zero']
       ·simp only[Instr.buildSlice,Sem.run_bind,run_underlying hu,Result.andThen_ok,hs0,Sem.run_ite];have hm1:(Array.range (len*ei.ty.nc)).map (λx=>z.cells[x%z.cells.size]!)=madeCells z.cells (len*z.cells.size):=by unfold madeCells;rw[hzl]
        simp[h0,hn,hz0,e3,hm1,k1,Go.newRow]
      have hck:ai (ai (aj V E w)) (d6 ei.ty.nc len cs) (d6 ei.ty.nc len arr.toList):=Av k2;have hlc:(d6 ei.ty.nc len cs).length=len:=AR;have hlen:len<1099511627776:=by have:=ei.ty.nc_pos;have:len*1<=len*ei.ty.nc:=Nat.mul_le_mul_left _ this;omega
      split at hr
      ·rename_i ys hys;cases hn:(dq (aF (d6 ei.ty.nc len cs).flatten)&&!(bq (aT d 0) (aF (d6 ei.ty.nc len cs).flatten)));·rw[hn]at hr;cases hr
       ·rw[hn]at hr;simp only[cond_true]at hr;simp only[Bool.and_eq_true,Bool.not_eq_true']at hn;split at hr
        ·rename_i σ1 hab;split at hr;·rename_i hfree;simp only[bj.run,Option.some.injEq]at hr;subst hr;obtain⟨E',g⟩:=h.litD (d:=d) (r:=aT d 0) (e:=e) (arr:=arr) hd hys (by rw[hlc];exact hck) (by rw[hlc];exact harr) (by rw[hlc];exact hlen) (iw hn.1) (λhm=>by rw[gi.2 hm]at hn;cases hn.2) hab hfree;rw[hlc]at g;exact⟨_,_,E',hrun,bL.alloc _ _,g⟩
         ·cases hr
        ·cases hr
      ·split at hr;·rename_i ys hys;obtain⟨h1,rfl⟩:=vU hr;obtain⟨E',g⟩:=h.litS (d:=d) (r:=aT d 0) (e:=e) (arr:=arr) hd hys (by rw[hlc];exact hck) (by rw[hlc];exact harr) (by rw[hlc];exact hlen) h1;rw[hlc]at g;exact⟨_,_,E',hrun,bL.alloc _ _,g⟩
       ·cases hr
     ·cases hr
   ·cases hr
  ·cases hr
 ·cases hr
def R.appPut{v':Value}{w':World}{E':aM}{σ1:St}{d r:Nat}{row':ac}(hd:d<n)(hv:∃A m c,v'=Value.slice A m c)(he:v'=E'.rv r)
  (g:R w0 lab0 oo n { (σ1.mapc (dG r))with row:=am σ1.row r (some row') } E' a w') :
  R w0 lab0 oo n { slot:=am (σ1.mapc (dG r)).slot d (.c (.own r)),box:=(σ1.mapc (dG r)).box,row:=am σ1.row r (some row') } E' (a.put (some d) v') w' :=
 g.put hd (s:=.c (.own r)) ⟨he,by show(am σ1.row r (some row') r).isSome=true;rw[aU];rfl,hv⟩
def kG{c:Bool}{o:bj}(h:(bj.chk c o).run=some V'):c=true/\o.run=some V':=by
 cases c;·cases h
 ·exact⟨rfl,h⟩
def AS(h:R w0 lab0 oo n V E a w){r:Nat}{lo m:Int}{row:ac}{u:Value}(hr:V.row r=some row)(hc:aj V E w (.part r lo m) u){S:Nat->Prop}(hS:∀k,dr E.lab r k\/E.lab k=.st->S k) :
  Rd w S (.sl row.e row.t) [u] ((row.xs.drop lo.toNat).take m.toNat):=by
 obtain⟨row',A,c,e1,e2,e3,e4,rfl,e6,e7,e8⟩:=hc;rw[hr]at e1;injection e1 with e1;subst e1;have hrd:Rd w S (.sl row.e row.t) [E.rv r] row.xs:=(h.rows r row hr).rd (λk hk=>hS k (.inl (.inl hk))) (λk hk=>by
  cases hd:row.deep;·rw[hd]at hk;exact hS k (.inr hk)
  ·rw[hd]at hk;exact hS k (.inl (.inr hk)))
 have hlen:((row.xs.drop lo.toNat).take m.toNat).length=m.toNat:=by rw[List.length_take,List.length_drop];omega
 refine⟨A,m.toNat,c,rfl,hlen,e6,e7, ?_⟩;by_cases hm:m.toNat=0;·exact .inl hm
 ·obtain⟨g,q,d,k1,rfl⟩:=e8 (by omega);obtain⟨A',n',c',j1,j2,j3,j4,j5⟩:=hrd;rw[k1]at j1;injection j1 with j1;injection j1 with i1 i2 i3;rcases j5 with h0|⟨ad,css,k2,k3,k4,k5⟩;·omega
  ·rw[<-i1]at k2;injection k2 with k2;subst k2;refine .inr ⟨_,(css.drop lo.toNat).take m.toNat,rfl,k3,(k4.drop _).take _,λi u hu=>?_⟩;have hcl:∀c∈css,c.length=row.t.nc:=ai.fst (λ_ _ h=>h.len) k4;have hfl:∀(css:List (List Value)) (j:Nat),(∀c∈css,c.length=row.t.nc)->(css.drop j).flatten=css.flatten.drop (j*row.t.nc):=by
    intro css j;induction css generalizing j with
    |nil=>intro _;simp
    |cons c css ih =>
     intro hc;cases j with
     |zero=>simp
     |succ j =>rw[List.drop_succ_cons,ih j λc hc'=>hc c (List.mem_cons_of_mem _ hc'),List.flatten_cons,Nat.succ_mul,Nat.add_comm,List.drop_append,hc c List.mem_cons_self];simp[hc c List.mem_cons_self]
   have hpre:((css.drop lo.toNat).take m.toNat).flatten[i]? = some u->css.flatten[lo.toNat*row.t.nc+i]? = some u:=by
    intro hu;have h1:(css.drop lo.toNat).flatten=((css.drop lo.toNat).take m.toNat).flatten++((css.drop lo.toNat).drop m.toNat).flatten:=by rw[<-List.flatten_append,List.take_append_drop]
    have h2:(css.drop lo.toNat).flatten[i]? = some u:=by rw[h1,List.getElem?_append_left (List.getElem?_eq_some_iff.1 hu).1];exact hu
    rw[hfl css lo.toNat hcl,List.getElem?_drop]at h2;exact h2
   have:=k5 _ _ (hpre hu);rw[gP]at this ⊢;simpa using this
def vW(hT:aX P T)(h:R w0 lab0 oo n V E a w){d t r:Nat}{ti ei:TI}{row:ac}{x:af}{vx:Value}(hd:d<n)(hrow:V.row r=some row)(ht:T t=some ti)(he:ti.el=some row.e)(hei:T row.e=some ei)(hnc:ei.zero.length=row.t.nc)(hbytes:ei.bytes<=128)
  (hx:aj V E w x vx) (hr:(pm V d r row x).run=some V') (ty:TypeId) :
  ∃v w' E',(Builtin.append_ #[t,t] ty #[E.rv r,vx]).run P w=.ok v w'/\R w0 lab0 oo n V' E' (a.put (some d) v) w':=by
 unfold pm at hr;split at hr
 ·obtain⟨hc,hr⟩:=kG hr;simp only[bj.run,Option.some.injEq]at hr;subst hr;obtain rfl:vx=_:=hx;have hlen:row.xs.length+([]:List row.t.den).length<1099511627776:=by simpa using hc
  obtain⟨v',w',E',k1,k2,k3,k4⟩:=h.append hT hrow ht he hei hnc hbytes (A:=none) (k:=0) (c:=0) (css2:=[]) (ys:=[]) rfl (.inl rfl) (by
   unfold rR;cases row.deep;·exact trivial
   ·exact⟨[],trivial,List.nodup_nil,λk hk=>by simp at hk⟩) (λ_ Ls css k1 k2 k3 _=>⟨[],trivial,by simpa using k2,λk hk=>by simp at hk⟩) hlen ty
  exact⟨v',w',E',k1,R.appPut hd k2 k3 k4⟩
 ·rename_i q;obtain⟨rfl,_⟩:=hx;split at hr
  ·rename_i row2 hrow2;split at hr
   ·rename_i ys hys;obtain⟨htt,hys'⟩:=gk hys;cases hf:row.t.flat
    ·rw[hf]at hr;simp only[cond_false]at hr;cases hq:(!(Nat.beq q r)&&(row.deep&&row2.deep))
     ·rw[hq]at hr;simp only[cond_false]at hr;cases hq2:(!row.deep&&!(Nat.beq q r));·rw[hq2]at hr;cases hr
      ·rw[hq2]at hr;simp only[cond_true]at hr;simp only[Bool.and_eq_true,Bool.not_eq_true']at hq2;split at hr
       ·rename_i σ1 hab;obtain⟨hc,hr⟩:=kG hr;simp only[bj.run,Option.some.injEq]at hr;subst hr;have hne:q≠r:=λe=>by rw[e,jj]at hq2;cases hq2.2
        obtain⟨G,row2',hq',_,hσ1⟩:=h.absorb hab;have hr1:σ1.row r=some row:=by rw[hσ1];exact(ba _ _ (Ne.symm hne)).trans hrow
        obtain⟨e2,t2,xs2,dp2,nl2⟩:=row2;have htt':t2=row.t:=htt;subst htt';have hys2:xs2=ys:=hys';subst hys2;have hrd:=(h.rows q _ hrow2).rd (S:=λk=>cK E.lab q none k=.st) (λk hk=>jQ (.inl hk)) (λk hk=>by
         cases dp2;·have hk':E.lab k=.st:=hk;exact(gh (by rw[hk'];simp) (by rw[hk'];simp)).trans hk'
         ·exact jQ (.inr hk))
        obtain⟨A,k,c,css,hv,hs⟩:=fe.of_rd (lab:=cK E.lab q none) hrd;have hs':fe w (cK E.lab q none) row.e row.t xs2 (λk=>cK E.lab q none k=.st) A k css:=⟨hs.len,hs.cells,hs.rd⟩;obtain⟨v',w',E',k1,k2,k3,k4⟩:=G.appendShallow (E:={ E with lab:=cK E.lab q none }) hT hr1 hq2.1 ht he hei hnc hbytes (c:=c) hs' (by simpa using hc) ty;rw[hv];exact⟨v',w',E',k1,R.appPut hd k2 k3 k4⟩
       ·cases hr
     ·rw[hq]at hr;simp only[cond_true]at hr;simp only[Bool.and_eq_true,Bool.not_eq_true']at hq;split at hr
      ·rename_i σ1 hab;obtain⟨hc,hr⟩:=kG hr;simp only[bj.run,Option.some.injEq]at hr;subst hr;have hne:q≠r:=λe=>by rw[e,jj]at hq;cases hq.1
       obtain⟨v',w',E',k1,k2,k3,k4⟩:=h.appendDeep hT hne hrow hrow2 hq.2.1 hq.2.2 ht he hei hnc hbytes htt hys' hab (by simpa using hc) ty;exact⟨v',w',E',k1,R.appPut hd k2 k3 k4⟩
      ·cases hr
    ·rw[hf]at hr;simp only[cond_true]at hr;obtain⟨hc,hr⟩:=kG hr;simp only[bj.run,Option.some.injEq]at hr;subst hr;obtain⟨e2,t2,xs2,dp2,nl2⟩:=row2;have htt':t2=row.t:=htt;subst htt';have hys2:xs2=ys:=hys';subst hys2;have hrd:=(h.rows q _ hrow2).rd (S:=λ_=>True) (λk hk=>trivial) (λk hk=>trivial);obtain⟨A,k,c,css,hv,hs⟩:=fe.of_rd (lab:=E.lab) hrd;have hs':fe w E.lab row.e row.t xs2 (λ_=>True) A k css:=⟨hs.len,hs.cells,hs.rd⟩;obtain⟨v',w',E',k1,k2,k3,k4⟩:=h.appendFlat hT hrow ht he hei hnc hbytes hf (c:=c) hs' (by simpa using hc) ty;rw[hv];exact⟨v',w',E',k1,R.appPut hd k2 k3 k4⟩
   ·cases hr
  ·cases hr
 ·rename_i e' t' xs p;split at hr
  ·rename_i ys hys;obtain⟨htt,hys'⟩:=gk hys;subst htt;have hys2:xs=ys:=hys';subst hys2;cases hf:row.t.flat
   ·rw[hf]at hr;simp only[cond_false]at hr;cases hq:(!row.deep&&p.isNone);·rw[hq]at hr;cases hr
    ·rw[hq]at hr;simp only[cond_true]at hr;simp only[Bool.and_eq_true,Bool.not_eq_true',Option.isNone_iff_eq_none]at hq;obtain⟨hq1,rfl⟩:=hq;obtain⟨hc,hr⟩:=kG hr;simp only[bj.run,Option.some.injEq]at hr;subst hr;obtain⟨A,k,c,css,rfl,hs⟩:=fe.of_rd (lab:=E.lab) (show Rd w (λk=>E.lab k=.st) (.sl e' row.t) [vx] xs from hx);obtain⟨v',w',E',k1,k2,k3,k4⟩:=h.appendShallow hT hrow hq1 ht he hei hnc hbytes (c:=c) ⟨hs.len,hs.cells,hs.rd⟩ (by simpa using hc) ty;exact⟨v',w',E',k1,R.appPut hd k2 k3 k4⟩
   ·rw[hf]at hr;simp only[cond_true]at hr;obtain⟨hc,hr⟩:=kG hr;simp only[bj.run,Option.some.injEq]at hr;subst hr;obtain⟨A,k,c,css,rfl,hs⟩:=fe.of_rd (lab:=E.lab) (show Rd w (λk=>E.lab k=bh p) (.sl e' row.t) [vx] xs from hx);obtain⟨v',w',E',k1,k2,k3,k4⟩:=h.appendFlat hT hrow ht he hei hnc hbytes hf (c:=c) ⟨hs.len,hs.cells,hs.rd⟩ (by simpa using hc) ty;exact⟨v',w',E',k1,R.appPut hd k2 k3 k4⟩
  ·cases hr
 ·rename_i q lo m;split at hr
  ·rename_i row2 hrow2;split at hr
   ·rename_i ys hys;obtain⟨htt,hys'⟩:=gk hys;cases hf:row.t.flat;·rw[hf]at hr;cases hr
    ·rw[hf]at hr;simp only[cond_true]at hr;obtain⟨hc,hr⟩:=kG hr;simp only[bj.run,Option.some.injEq]at hr;subst hr;have hrd:=AS h hrow2 hx (S:=λ_=>True) (λk hk=>trivial);obtain⟨e2,t2,xs2,dp2,nl2⟩:=row2;have htt':t2=row.t:=htt;subst htt';have hys2:(xs2.drop lo.toNat).take m.toNat=ys:=hys';subst hys2;obtain⟨A,k,c,css,hv,hs⟩:=fe.of_rd (lab:=E.lab) hrd;have hs':fe w E.lab row.e row.t ((xs2.drop lo.toNat).take m.toNat) (λ_=>True) A k css:=⟨hs.len,hs.cells,hs.rd⟩;obtain⟨v',w',E',k1,k2,k3,k4⟩:=h.appendFlat hT hrow ht he hei hnc hbytes hf (c:=c) hs' (by simpa using hc) ty;rw[hv];exact⟨v',w',E',k1,R.appPut hd k2 k3 k4⟩
   ·cases hr
  ·cases hr
 ·cases hr
def IA{kk:IntKind}(zs:List Int):(zs.map λz=>[Value.int kk z]).flatten=zs.map (Value.int kk):=by
 induction zs with
 |nil=>rfl
 |cons a l ih=>simp[ih]
def R.grownInts(h:R w0 lab0 oo n V E a w){d r e:Nat}{kk:IntKind}{zs:List Int}{v':Value}{w':World}(hd:d<n)(hfree:V.row r=none)(ho:w'.ownsRow w.heap.size e 1 v' zs.length (zs.map (Value.int kk)))(hg:w.grownBy w' none)(hdr:w.drawn<=w'.drawn) :
  ∃E',R w0 lab0 oo n { slot:=am V.slot d (.c (.own r)),box:=V.box,row:=am V.row r (some ⟨e,.int kk,zs,true,false⟩) } E' (a.put (some d) v') w':=by
 let E':aM:={ lab:=λq=>if v'.ownBlock=some q then .row r else E.lab q,rv:=am E.rv r v',bb:=E.bb };let row:ac:=⟨e,.int kk,zs,true,false⟩;let σ1:St:={ slot:=V.slot,box:=V.box,row:=am V.row r (some row) };have hnew:∀k,v'.ownBlock=some k->w.heap.size<=k:=λk hk=>by
  rcases ho.2 with⟨rfl,_⟩|⟨g,cap,cur,rfl,hb,_⟩;·cases hk
  ·injection hk with hk;subst hk;exact hb
 have hb:∀k,k<w.heap.size->w'.heap[k]? = w.heap[k]?/\E'.lab k=E.lab k:=λk hk=>⟨hg.block k hk (by simp),if_neg λe=>by have:=hnew k e;omega⟩;have ho0:w'.ownsRow 0 e 1 v' zs.length (zs.map (Value.int kk)):=⟨ho.1,ho.2.imp id λ⟨g,cap,cur,h1,h2,h3⟩=>⟨g,cap,cur,h1,Nat.zero_le _,h3⟩⟩;have hall:∀l:List Int,aP (λ(l:List Nat) (c:List Value) (y:Int)=>aE w' (.int kk) l c y) (l.map λ_=>[]) (l.map λy=>[Value.int kk y]) l:=by
  intro l;induction l with
  |nil=>trivial
  |cons a l ih=>exact⟨⟨rfl,rfl⟩,ih⟩
 have hz:∀l:List Int,(l.map λ_=>([]:List Nat)).flatten=[]:=λl=>by induction l with
  |nil=>rfl
  |cons a l ih=>simp[ih]
 have g:R w0 lab0 oo n σ1 E' a w':=by
  refine h.grow (E':=E') hb ⟨hg.os,⟨hg.tape,λ_=>hdr⟩,hg.output⟩ hg.size rfl (λq row' hq=>?_) (λq row' hq=>?_) (λb te' cs' hq=>.inl ⟨hq,rfl⟩) (λ_ _ h=>h)
  ·by_cases e:q=r;·subst e;rw[show σ1.row q=some row from aU _ _ _]at hq;injection hq with hq;subst hq;refine .inr ⟨hfree, ?_⟩;show bP _ _ _ _ (am E.rv q v' q);rw[aU];refine⟨zs.map (λz=>[Value.int kk z]), ?_,λk hk=>if_pos hk,⟨zs.map λ_=>[],hall zs,by rw[hz];exact List.nodup_nil,λk hk=>by rw[hz]at hk;cases hk⟩,λh=>by cases h⟩;rw[IA];exact ho0
   ·exact .inl ⟨(ba _ _ e).symm.trans hq,ba _ _ e⟩
  ·have hne:q≠r:=λe=>by rw[e,hfree]at hq;cases hq
   exact(ba _ _ hne).trans hq
 refine⟨E',g.put hd (s:=.c (.own r)) ⟨?_, ?_, ?_⟩⟩;·show _=am E.rv r v' r;rw[aU]
 ·show(am V.row r (some row) r).isSome=true;rw[aU];rfl
 ·obtain⟨A,c,e,_⟩:=gM ho;exact⟨A,_,c,e⟩
def vX{kk:IntKind}{S:Nat->Prop}:∀{css:List (List Value)}{xs:List Int},ai (λc (y:Int)=>Rd w S (.int kk) c y) css xs->css.flatten=xs.map (Value.int kk)
 |[],[],_=>rfl
 |c::css,x::xs,h=>by obtain⟨h1,h2⟩:=h;have h1:c=[.int kk x]:=h1;rw[List.flatten_cons,h1,vX h2];rfl
 |[],_::_,h=>h.elim
 |_::_,[],h=>h.elim
def IB(hT:aX P T)(h:R w0 lab0 oo n V E a w){d t e e':Nat}{ti ei:TI}{k:IntKind}{xs:List Int}{p:Option Nat}{x:af}{vs vx:Value}(hd:d<n)(ht:T t=some ti)(he:ti.el=some e)(hei:T e=some ei)(hnc:ei.zero.length=1)(hbytes:ei.bytes<=128)
  (hs:aj V E w (.full e' (.int k) xs p) vs) (hx:aj V E w x vx) (hr:(vR V d e k xs x).run=some V') (ty:TypeId):∃v w' E',(Builtin.append_ #[t,t] ty #[vs,vx]).run P w=.ok v w'/\R w0 lab0 oo n V' E' (a.put (some d) v) w':=by
 unfold vR at hr;split at hr
 ·rename_i ys hys;obtain⟨hc,hr⟩:=kG hr;obtain⟨hfree,rfl⟩:=vU hr;simp only[Bool.and_eq_true,Nat.blt_eq]at hc;obtain⟨A2,k2,c2,css2,rfl,hs2⟩:∃A2 k2 c2 css2,vx=.slice A2 k2 c2/\fe w E.lab e (.int k) (ys:List Int) (λ_=>True) A2 k2 css2:=by
   unfold AM at hys;split at hys
   ·rename_i q;split at hys;·rename_i row2 hrow2;obtain⟨htt,hys'⟩:=gk hys;obtain⟨e2,t2,xs2,dp2,nl2⟩:=row2;have htt':t2=.int k:=htt;subst htt';have hys2:xs2=ys:=hys';subst hys2;obtain⟨rfl,_⟩:=hx;have hrd:=(h.rows q _ hrow2).rd (S:=λ_=>True) (λk hk=>trivial) (λk hk=>trivial);obtain⟨A,m,c,css,hv,hs⟩:=fe.of_rd (lab:=E.lab) hrd;exact⟨A,m,c,css,hv,⟨hs.len,hs.cells,hs.rd⟩⟩
    ·cases hys
   ·rename_i e2 t2 xs2 p2;obtain⟨htt,hys'⟩:=gk hys;subst htt;have hys2:xs2=ys:=hys';subst hys2;obtain⟨A,m,c,css,hv,hs⟩:=fe.of_rd (lab:=E.lab) (Rd.mono (S':=λ_=>True) (λ_ _=>trivial) (show Rd w (λk=>E.lab k=bh p2) (.sl e2 (.int k)) [vx] xs2 from hx));exact⟨A,m,c,css,hv,⟨hs.len,hs.cells,hs.rd⟩⟩
   ·cases hys
  obtain⟨hrd,A0,hv0⟩:=hs;obtain⟨A1,k1,c1,css1,hv1,hs1⟩:=fe.of_rd (lab:=E.lab) hrd;rw[hv0]at hv1;injection hv1 with q1 q2 q3;subst q1 q2 q3;have f1:=vX hs1.rd;have f2:=vX hs2.rd;have l2:ys.length=k2:=hs2.len;subst l2;obtain⟨inf,dd,z,i1,i2,i3,i4,i5,i6,i7,i8⟩:=fc hT hei;have hu:=gO hT ht he;have hz:=lY (V:=V) (E:=E) (w:=w) i6;have hzc:z.cells.size=1:=by rw[<-Array.length_toList,<-hz.1.len,hnc]
  obtain⟨a2,rfl,hc2⟩:∃a2,A2=some a2/\∀(j:Nat) (u:Value),(ys.map (Value.int k))[j]? = some u->w.cell? (a2.add j)=some u:=by
   rcases hs2.cells with h0|⟨ad,h1,h2⟩;·omega
   ·exact⟨ad,h1,by rw[<-f2];exact h2⟩
  have hbnd:(xs.length+ys.length)*ei.bytes<=140737488355328:=by have:(xs.length+ys.length)*ei.bytes<=1099511627776*128:=Nat.mul_le_mul (by omega) hbytes;omega
  have h63:xs.length+ys.length<=maxLen:=by simp only[maxLen];omega
  have one:∀u∈ys.map (Value.int k),u.oneCell'=true:=λu hu=>by obtain⟨z,_,rfl⟩:=List.mem_map.1 hu;rfl
  have fin:∀{v':Value}{w':World},(Builtin.append_ #[t,t] ty #[vs,.slice (some a2) ys.length c2]).run P w=.ok v' w'->w'.ownsRow w.heap.size e 1 v' (xs.length+ys.length) (xs.map (Value.int k)++ys.map (Value.int k))->w.grownBy w' none ->
    ∃v w' E',(Builtin.append_ #[t,t] ty #[vs,.slice (some a2) ys.length c2]).run P w=.ok v w'/\R w0 lab0 oo n { slot:=am V.slot d (.c (.own (aT d 0))),box:=V.box,row:=am V.row (aT d 0) (some ⟨e,.int k,xs++ys,true,false⟩) } E' (a.put (some d) v) w':=by
   intro v' w' r1 r2 r3;obtain⟨E',hR⟩:=h.grownInts (kk:=k) (zs:=xs++ys) hd hfree (by rw[List.length_append,List.map_append];exact r2) r3 (eS _ r1);exact⟨v',w',E',r1,hR⟩
  by_cases hx0:xs.length=0
  ·have hxn:xs=[]:=List.eq_nil_of_length_eq_zero hx0;subst hxn;cases A0 with
   |none =>have hvn:vs=.slice none 0 0:=hv0;obtain⟨v',w',r1,r2,r3,_⟩:=run_append_own_at (P:=P) w w.heap.size t ty e inf z 1 ei.bytes hu i1 i5 (i3.trans hnc) i4 hzc Nat.one_pos (.slice none 0 0) 0 [] (World.ownsRow_nil w _ e 1) a2 ys.length c2 (ys.map (Value.int k)) (by simp) hc2 one (by simpa using h63) (by simpa using hbnd) (Nat.le_refl _);rw[<-hvn]at r1;exact fin r1 (by simpa using r2) (by simpa[Value.ownBlock]using r3)
   |some b =>obtain⟨v',w',r1,r2,r3⟩:=run_append_arg_grows (P:=P) (w:=w) t ty e inf z 1 ei.bytes hu i1 i5 (i3.trans hnc) i4 hzc Nat.one_pos b 0 0 [] (by simp) (λj u hj=>by simp at hj) a2 ys.length c2 (ys.map (Value.int k)) (by simp) hc2 (by omega) (by simpa using h63) (by simpa using hbnd);have hvs:vs=.slice (some b) 0 0:=hv0;rw[<-hvs]at r1;exact fin r1 (by simpa using r2) r3
  ·obtain⟨b,rfl,hc1⟩:∃b,A0=some b/\∀(j:Nat) (u:Value),(xs.map (Value.int k))[j]? = some u->w.cell? (b.add j)=some u:=by
    rcases hs1.cells with h0|⟨ad,h1,h2⟩;·exact absurd h0 hx0
    ·exact⟨ad,h1,by rw[<-f1];exact h2⟩
   obtain⟨v',w',r1,r2,r3⟩:=run_append_arg_grows (P:=P) (w:=w) t ty e inf z 1 ei.bytes hu i1 i5 (i3.trans hnc) i4 hzc Nat.one_pos b xs.length xs.length (xs.map (Value.int k)) (by simp) hc1 a2 ys.length c2 (ys.map (Value.int k)) (by simp) hc2 (by omega) h63 hbnd;rw[<-hv0]at r1;exact fin r1 r2 r3
 ·cases hr
def cq.rowTo{r:Nat}{row row':ac}(hrow:V.row r=some row)(ht:row'.t.nc=row.t.nc)(hl:row.xs.length<=row'.xs.length):cq V E w { V with row:=am V.row r (some row') } E w :=
 ⟨λq row2 hq=>by
  by_cases e:q=r;·subst e;rw[hrow]at hq;injection hq with hq;subst hq;exact⟨row',aU _ _ _,rfl,ht,hl⟩
  ·exact⟨row2,(ba _ _ e).trans hq,rfl,rfl,Nat.le_refl _⟩,λb te cs hb=>⟨te,cs,hb,rfl,rfl⟩,λ_ _ _ h1 h2=>⟨h1,h2⟩,λ_ _ _ _ h=>h⟩
def R.shal(h:R w0 lab0 oo n V E a w){r:Nat}{row row':ac}{dp:Bool}(hrow:V.row r=some row)(hsh:r6 row dp=some row') :
  row'.e=row.e/\row'.t.nc=row.t.nc/\row.xs.length<=row'.xs.length/\R w0 lab0 oo n { V with row:=am V.row r (some row') } E a w:=by
 obtain⟨e,t,xs,deep,nilE⟩:=row;unfold r6 at hsh;cases hc:(deep&&(!t.flat&&!dp));·simp only[hc]at hsh;cases hsh
 ·simp only[hc]at hsh;cases xs with
  |cons y ys=>cases hsh
  |nil =>
   injection hsh with hsh;subst hsh;have m:cq V E w { V with row:=am V.row r (some ⟨e,t,[],false,nilE⟩) } E w:=cq.rowTo hrow rfl (Nat.le_refl _);refine⟨rfl,rfl,Nat.le_refl _,⟨h.bound,h.size,h.defers,λs=>(h.slots s).move m,λb te cs hb=>?_,λq row2 hq=>?_,h.same⟩⟩;·obtain⟨arr,h1,h2,h3,h4⟩:=h.boxes b te cs hb;exact⟨arr,h1,h2,h3.imp λ_ _ h=>h.move m,h4⟩
   ·by_cases eq:q=r
    ·subst eq;have hq':am V.row q (some (⟨e,t,[],false,nilE⟩:ac)) q=some row2:=hq;rw[aU]at hq';injection hq' with hq';subst hq';obtain⟨css,k1,k2,k3,k4⟩:=h.rows q _ hrow;refine⟨css,k1,k2, ?_,k4⟩;simp only[Bool.and_eq_true]at hc;obtain⟨hdeep,_⟩:=hc;subst hdeep;obtain⟨Ls,j1,_⟩:=k3;cases css with
     |nil=>exact trivial
     |cons c cs=>exact absurd j1.len2 (by simp)
    ·have hq':am V.row r (some (⟨e,t,[],false,nilE⟩:ac)) q=some row2:=hq;rw[ba _ _ eq]at hq';exact h.rows q row2 hq'
def IC(hT:aX P T)(h:R w0 lab0 oo n V E a w){d t:Nat}{s x:SV}{vs vx:Value}(hd:d<n)(hs:aK V E w s vs)(hx:aK V E w x vx)(hr:(vS T V d t s x).run=some V')(ty:TypeId) :
  ∃v w' E',(Builtin.append_ #[t,t] ty #[vs,vx]).run P w=.ok v w'/\R w0 lab0 oo n V' E' (a.put (some d) v) w':=by
 unfold vS at hr;split at hr
 ·rename_i ti s x ht;split at hr
  ·rename_i e he;split at hr
   ·rename_i ei hei;cases hb:Nat.ble ei.bytes 128;·rw[hb]at hr;cases hr
    ·rw[hb]at hr;have hbytes:=Nat.le_of_ble_eq_true hb;simp only[cond_true]at hr;split at hr
     ·rename_i r;split at hr
      ·rename_i row hrow;cases hq:(Nat.beq row.e e&&Nat.beq ei.zero.length row.t.nc);·rw[hq]at hr;cases hr
       ·rw[hq]at hr;simp only[Bool.and_eq_true]at hq;obtain rfl:=Nat.eq_of_beq_eq_true hq.1;obtain⟨rfl,_⟩:=hs.c_inv;split at hr;·rename_i row' hsh;obtain⟨h1,h2,h3,hR⟩:=h.shal hrow hsh;have hx':aj { V with row:=am V.row r (some row') } E w x vx:=hx.c_inv.move (cq.rowTo hrow h2 h3);have:=vW (ei:=ei) hT hR hd (aU _ _ _) ht (by rw[h1];exact he) (by rw[h1];exact hei) (by rw[h2];exact Nat.eq_of_beq_eq_true hq.2) hbytes hx' hr ty;exact this
        ·exact vW hT h hd hrow ht he hei (Nat.eq_of_beq_eq_true hq.2) hbytes hx.c_inv hr ty
      ·cases hr
     ·cases hq:Nat.beq ei.zero.length ei.ty.nc;·rw[hq]at hr;cases hr
      ·rw[hq]at hr;simp only[cond_true]at hr;split at hr
       ·rename_i hfree;have G:=h.nilRow (r:=aT d 0) (e:=e) (t:=ei.ty) (deep:=nu V ei.ty x) hfree;obtain rfl:vs=_:=hs.c_inv;have hx':aj { V with row:=am V.row (aT d 0) (some ⟨e,ei.ty,[],nu V ei.ty x,true⟩) } { E with rv:=am E.rv (aT d 0) (.slice none 0 0) } w x vx:=by
         refine aj.move (V:=V) (E:=E) (w:=w) (cq.grow (V:=V) (E:=E) (w:=w) (V':={ V with row:=am V.row (aT d 0) (some ⟨e,ei.ty,[],nu V ei.ty x,true⟩) }) (E':={ E with rv:=am E.rv (aT d 0) (.slice none 0 0) }) (w':=w) (λk hk=>⟨rfl,rfl⟩) (λr row hr=>?_) (λb te cs hb=>⟨te,cs,hb,rfl,rfl⟩)) hx.c_inv;have hne:r≠aT d 0:=λe=>by rw[e,hfree]at hr;cases hr
         exact⟨row,(ba _ _ hne).trans hr,ba _ _ hne,rfl,Nat.le_refl _⟩
        have:=vW (ei:=ei) hT G hd (aU _ _ _) ht he hei (Nat.eq_of_beq_eq_true hq) hbytes hx' hr ty;rwa [show({ E with rv:=am E.rv (aT d 0) (.slice none 0 0) }:aM).rv (aT d 0)=.slice none 0 0 from aU _ _ _]at this
       ·cases hr
     ·cases hq:Nat.beq ei.zero.length 1;·rw[hq]at hr;cases hr
      ·rw[hq]at hr;exact IB hT h hd ht he hei (Nat.eq_of_beq_eq_true hq) hbytes hs.c_inv hx.c_inv hr ty
     ·cases hr
   ·cases hr
  ·cases hr
 ·cases hr
def ID(hT:aX P T)(h:R w0 lab0 oo n V E a w){o:Oper}(hd:∀d,o.dst=some d->d<n)(hr:(r7 T V o.dst o.op).run=some V'):It P w0 lab0 oo n o a w V':=by
 obtain⟨dst,op,oty,pos,after,guard⟩:=o;simp only at hd hr;unfold r7 at hr;split at hr
 ·rename_i t d;split at hr
  ·rename_i i ht;cases hq:Nat.blt 0 i.zero.length;·rw[hq]at hr;cases hr
   ·rw[hq]at hr;obtain⟨h1,rfl,hte⟩:=AN hr;obtain⟨inf,dd,z,i1,i2,i3,i4,i5,i6,i7,i8⟩:=fc hT ht;obtain⟨hz,hz1⟩:=lY (V:=V) (E:=E) (w:=w) i6;obtain⟨E',g⟩:=h.newBox (d:=d) (te:=t) (arr:=z.cells) hte (hd d rfl) h1 hz hz1 (by simpa using hq);refine .inl ⟨_,_,E', ?_,(λhq=>bL.alloc _ _),g⟩;have hz0:(zeroValue t).run P w=.ok z w:=by simp[zeroValue,typeInfo,i1,i5]
    simp[execOp,Instr.alloc,hz0,newVar,Go.newRow]
  ·cases hr
 ·rename_i t x d;split at hr
  ·rename_i i cs ht hcs;cases hq:(Nat.beq cs.length i.zero.length&&(Nat.blt 0 cs.length&&l7 cs));·rw[hq]at hr;cases hr
   ·rw[hq]at hr;simp only[Bool.and_eq_true]at hq;obtain⟨h1,rfl,hte⟩:=AN hr;have hx:=a6 h x;obtain⟨E',g⟩:=h.newBox (d:=d) (te:=t) (arr:=(a.eval x).cells) hte (hd d rfl) h1 (o8 hcs hx) (AO hcs hx (vV hq.2.2)) (by simpa using hq.2.1);refine .inl ⟨_,_,E', ?_,(λhq=>bL.alloc _ _),g⟩;simp[execOp,Instr.box,newVar,Go.newRow]
  ·cases hr
 ·rename_i t p x;obtain⟨w',E',g1,g2⟩:=Ix hT h (a6 h p) (a6 h x) hr;refine .inr ⟨w',E', ?_,g2⟩;simp[execOp,g1]
 ·rename_i t l c d;obtain⟨v,w',E',g1,gx,g2⟩:=Iw hT h (hd d rfl) hr;refine .inl ⟨v,w',E', ?_,λ_=>gx,g2⟩;simp[execOp,g1]
 ·rename_i t d;split at hr
  ·rename_i ti ht;split at hr
   ·rename_i kt _ hty;cases hq:fA ti kt;·rw[hq]at hr;cases hr
    ·rw[hq]at hr;obtain⟨h1,rfl⟩:=Iu hr;obtain⟨E',g⟩:=h.newMap (d:=d) (te:=bV+t) (t:=kt) (Nat.le_add_right _ _) (hd d rfl) h1;exact .inl ⟨_,_,E',by simp[execOp,Instr.makeMap],(λhq=>by cases hq),g⟩
   ·cases hr
  ·cases hr
 ·rename_i t m k v;split at hr
  ·rename_i ti u c ht hm hk hv;unfold ns at hr;split at hr;·rename_i σ1 hs;injection hr with hr;subst hr;obtain⟨b,te,kt,xs,y,rfl,hb,hi,hte,hy,rfl⟩:=vT hs;have rm:=a6 h m;have rk:=a6 h k;have rv:=a6 h v;rw[hm]at rm;rw[hk]at rk;rw[hv]at rv;obtain⟨w',g1,g2⟩:=AD hT h ht hi hb hte hy rk;refine .inr ⟨w',E, ?_,g2⟩;have e1:a.eval m=.map (some (E.bb b)):=rm.1;have e2:a.eval v=.bool true:=rv;simp[execOp,e1,e2,g1]
   ·cases hr
  ·cases hr
 ·rename_i t m k v;split at hr
  ·rename_i ti u c ht hm hk hv;unfold ns at hr;split at hr;·rename_i σ1 hs;injection hr with hr;subst hr;obtain⟨b,te,kt,xs,y,rfl,hb,hi,hte,hy,rfl⟩:=vT hs;have rm:=a6 h m;have rk:=a6 h k;have rv:=a6 h v;rw[hm]at rm;rw[hk]at rk;rw[hv]at rv;obtain⟨w',g1,g2⟩:=AD hT h ht hi hb hte hy rk;refine .inr ⟨w',E, ?_,g2⟩;have e1:a.eval m=.map (some (E.bb b)):=rm.1;have e2:a.eval v=.bool true:=rv;simp[execOp,e1,e2,g1]
   ·cases hr
  ·cases hr
 ·rename_i dst args ts;split at hr
  ·rename_i m k t t' ha ht0;have ea:args=#[m,k]:=by apply Array.ext';simpa using ha
   have et:ts=#[t,t']:=by apply Array.ext';simpa using ht0
   subst ea et;split at hr
   ·rename_i ti u c ht hm hk;split at hr;·rename_i σ1 hs;injection hr with hr;obtain⟨b,te,kt,xs,y,rfl,hb,hi,hte,hy,rfl⟩:=vT hs;have rm:=a6 h m;have rk:=a6 h k;rw[hm]at rm;rw[hk]at rk;obtain⟨w',g1,g2⟩:=Ic hT h (t':=t') ht hi hb hte hy rk oty;have e1:a.eval m=.map (some (E.bb b)):=rm.1;refine .inl ⟨.tuple #[],w',E,by simp[execOp,resolve,invoke,builtin,e1,g1],(λhq=>by cases hq), ?_⟩;subst hr;exact g2.iput hd (s:=.tup []) ⟨#[],rfl,trivial⟩
    ·cases hr
   ·cases hr
  ·cases hr
 ·rename_i t len parts d;obtain⟨v,w',E',g1,gx,g2⟩:=Iz hT h (hd d rfl) hr;refine .inl ⟨v,w',E', ?_,(λ_=>gx),g2⟩;simp[execOp,g1]
 ·rename_i args ts d;split at hr
  ·rename_i s x t t' ha ht;cases hq:Nat.beq t t';·rw[hq]at hr;cases hr
   ·rw[hq]at hr;obtain rfl:=Nat.eq_of_beq_eq_true hq;have ea:args=#[s,x]:=by apply Array.ext';simpa using ha
    have et:ts=#[t,t]:=by apply Array.ext';simpa using ht
    subst ea et;obtain⟨v,w',E',g1,g2⟩:=IC hT h (hd d rfl) (a6 h s) (a6 h x) hr oty;refine .inl ⟨v,w',E', ?_,(λhq=>by cases hq),g2⟩;simp[execOp,resolve,invoke,builtin,g1]
  ·cases hr
 ·cases hr
end
end Go.Fw
namespace Go.Fw
open Go.RowKit
section
variable {P : Program} {V V' : St} {E : aM} {w w' : World} {w0 : World} {lab0 : Nat → ay} {oo : Nat → Value} {n : Nat} {a : Act} {T : bc} [DC]
def R.ext(h:R w0 lab0 oo n V E a w)(e:bL w w'):R w0 lab0 oo n V E a w' :=
 h.grow (λk hk=>⟨e.old k hk,rfl⟩) ⟨e.os,e.tape,e.output⟩ e.size rfl (λr row hr=>.inl ⟨hr,rfl⟩) (λr row hr=>hr) (λb te cs hb=>.inl ⟨hb,rfl⟩) (λb x hb=>hb)
def r9:SV->Bool
 |.c (.int _ _)=>true
 |.c (.bool _)=>true
 |.c (.str _)=>true
 |.c .nil=>true
 |.c (.own _)=>true
 |.c (.box _ _)=>true
 |.c (.fn _ _)=>true
 |.c (.elt _ _ _)=>true
 |_=>false
def IE{s:SV}{v v':Value}(hp:r9 s=true)(h:aK V E w s v)(h':aK V E w' s v'):v=v':=by
 cases s with
 |c x =>
  cases x<;>simp only[r9]at hp<;>try contradiction
  case int=>exact(show v=_ from h).trans (show v'=_ from h').symm
  case bool=>exact(show v=_ from h).trans (show v'=_ from h').symm
  case str=>exact(show v=_ from h).trans (show v'=_ from h').symm
  case nil=>exact(show v=_ from h).trans (show v'=_ from h').symm
  case own r=>exact h.1.trans h'.1.symm
  case box b f=>exact h.1.trans h'.1.symm
  case fn f caps=>exact h.1.trans h'.1.symm
  case elt r i f =>obtain⟨row,g,m,c,e1,e2,_,_,_,e3⟩:=h;obtain⟨row',g',m',c',k1,k2,_,_,_,k3⟩:=h';rw[e1]at k1;injection k1 with k1;subst k1;rw[e2]at k2;injection k2 with k2;injection k2 with k2;injection k2 with k2;subst k2;rw[e3,k3]
 |agg l=>cases hp
 |tup l=>cases hp
def vY(op:Op)(s:SV):Bool :=
 match op with
 |.move _=>true
 |.assign _=>true
 |.load _ _=>true
 |.indexAddr _ _ _=>true
 |.fieldAddr _ _ _=>true
 |.extract _ _=>true
 |.nilCheck _=>true
 |_=>r9 s
def IF(hT:aX P T)(h:R w0 lab0 oo n V E a w){o:Oper}{c:Bool}{sv:SV}(hv:cd T V o.op=some (c,sv))(hc:c=true)(hk:vY o.op sv=true) :
  ∃v,(∀w',bL w w'->(execOp a.eval o).run P w'=.ok (.value v) w')/\aK V E w sv v:=by
 by_cases hp:r9 sv=true;·obtain⟨v,h1,h2⟩:=kF hT h hv hc;refine⟨v,λw' e=>?_,h2⟩;obtain⟨v',k1,k2⟩:=kF hT (h.ext e) hv hc;rw[IE hp h2 k2];exact k1
 obtain⟨dst,op,oty,pos,after,guard⟩:=o;have fin:∀{s:Sem Value}{sv:SV},(∃v,(∀w',bL w w'->s.run P w'=.ok v w')/\aK V E w sv v)->∃v,(∀w',bL w w'->(do pure (Next.value (<-s)):Sem Next).run P w'=.ok (.value v) w')/\aK V E w sv v:=by
  rintro s sv ⟨v,h1,h2⟩
  exact⟨v,λw' e=>by simp[h1 w' e],h2⟩
 cases op<;>first | (exact absurd hk hp)|skip
 case move x =>simp only[cd,Option.some.injEq,Prod.mk.injEq]at hv;obtain⟨_,rfl⟩:=hv;exact⟨_,λ_ _=>rfl,a6 h x⟩
 case assign x =>simp only[cd,Option.some.injEq,Prod.mk.injEq]at hv;obtain⟨_,rfl⟩:=hv;exact⟨_,λ_ _=>rfl,a6 h x⟩
 case extract x i =>obtain⟨v,h1,h2⟩:=kF hT h hv hc;refine⟨v,λw' e=>?_,h2⟩;simp only[execOp,Instr.extract]at h1 ⊢;split at h1<;>first | (simp at h1 ⊢;split at h1<;>first | (simp at h1 ⊢;exact h1) | (simp at h1;done)) | (simp at h1;done)
 case nilCheck x =>
  simp only[cd]at hv;split at hv
  ·rename_i u hx;have rx:=a6 h x;rw[hx]at rx;have rx:aj V E w u (a.eval x):=rx;cases hu:rX u;·rw[hu]at hv;cases hv
   ·rw[hu]at hv;simp only[cond_true,Option.some.injEq,Prod.mk.injEq]at hv;obtain⟨_,rfl⟩:=hv;obtain⟨ad,hv⟩:=AL hu rx;exact⟨a.eval x,λw' _=>by simp[execOp,hv],rx⟩
  ·cases hv
 case load t x =>
  simp only[cd]at hv;split at hv
  ·rename_i i u ht hx;split at hv;·rename_i z hz;simp only[Option.some.injEq,Prod.mk.injEq]at hv;obtain⟨_,rfl⟩:=hv;have:=a6 h x;rw[hx]at this;exact fin (vj hT h ht hz this)
   ·cases hv
  ·cases hv
 case fieldAddr s x f =>
  simp only[cd]at hv;split at hv
  ·rename_i i u hs hx;have rx:=a6 h x;rw[hx]at rx;split at hv
   ·rename_i a7 m ag hf;split at hv;·rename_i z hz;simp only[Option.some.injEq,Prod.mk.injEq]at hv;obtain⟨_,rfl⟩:=hv;exact fin (let⟨v,h1,h2⟩:=vg hT hs hf hz rx.c_inv;⟨v,λw' _=>h1 w',h2⟩)
    ·cases hv
   ·cases hv
  ·cases hv
 case indexAddr t x i =>
  simp only[cd]at hv;split at hv
  ·rename_i ti u v ht hx hi;have rx:=a6 h x;have ri:=a6 h i;rw[hx]at rx;rw[hi]at ri;split at hv
   ·rename_i e he;split at hv
    ·rename_i ei hei;split at hv;·rename_i c' z hz;simp only[Option.some.injEq,Prod.mk.injEq]at hv;obtain⟨rfl,rfl⟩:=hv;exact fin (let⟨v,h1,h2⟩:=vf hT h ht he hei hz hc rx.c_inv ri.c_inv;⟨v,λw' _=>h1 w',h2⟩)
     ·cases hv
    ·cases hv
   ·cases hv
  ·cases hv
def IG(hT:aX P T)(h:R w0 lab0 oo n V E a w){o:Oper}{c:Bool}{sv:SV}(hv:cd T V o.op=some (c,sv))(hc:c=true)(hk:(match o.op with
 |.move _=>true
 |.assign _=>true
 |.extract _ _=>true
 |.fieldAddr _ _ _=>true
 |.indexAddr _ _ _=>true
 |_=>false)=true) :
  ∃v,(∀w',(execOp a.eval o).run P w'=.ok (.value v) w')/\aK V E w sv v:=by
 obtain⟨dst,op,oty,pos,after,guard⟩:=o;have fin:∀{s:Sem Value}{sv:SV},(∃v,(∀w',s.run P w'=.ok v w')/\aK V E w sv v)->∃v,(∀w',(do pure (Next.value (<-s)):Sem Next).run P w'=.ok (.value v) w')/\aK V E w sv v:=by
  rintro s sv ⟨v,h1,h2⟩
  exact⟨v,λw'=>by simp[h1 w'],h2⟩
 cases op<;>first | (cases hk;done)|skip
 case move x =>simp only[cd,Option.some.injEq,Prod.mk.injEq]at hv;obtain⟨_,rfl⟩:=hv;exact⟨_,λ_=>rfl,a6 h x⟩
 case assign x =>simp only[cd,Option.some.injEq,Prod.mk.injEq]at hv;obtain⟨_,rfl⟩:=hv;exact⟨_,λ_=>rfl,a6 h x⟩
 case fieldAddr s x f =>
  simp only[cd]at hv;split at hv
  ·rename_i i u hs hx;have rx:=a6 h x;rw[hx]at rx;split at hv
   ·rename_i a7 m ag hf;split at hv;·rename_i z hz;simp only[Option.some.injEq,Prod.mk.injEq]at hv;obtain⟨_,rfl⟩:=hv;exact fin (let⟨v,h1,h2⟩:=vg hT hs hf hz rx.c_inv;⟨v,λw'=>h1 w',h2⟩)
    ·cases hv
   ·cases hv
  ·cases hv
 case indexAddr t x i =>
  simp only[cd]at hv;split at hv
  ·rename_i ti u v ht hx hi;have rx:=a6 h x;have ri:=a6 h i;rw[hx]at rx;rw[hi]at ri;split at hv
   ·rename_i e he;split at hv
    ·rename_i ei hei;split at hv;·rename_i c' z hz;simp only[Option.some.injEq,Prod.mk.injEq]at hv;obtain⟨rfl,rfl⟩:=hv;exact fin (let⟨v,h1,h2⟩:=vf hT h ht he hei hz hc rx.c_inv ri.c_inv;⟨v,λw'=>h1 w',h2⟩)
     ·cases hv
    ·cases hv
   ·cases hv
  ·cases hv
 case extract x i =>obtain⟨v,h1,h2⟩:=kF hT h hv hc;refine⟨v,λw'=>?_,h2⟩;simp only[execOp,Instr.extract]at h1 ⊢;split at h1<;>first | (simp at h1 ⊢;split at h1<;>first | (simp at h1 ⊢;exact h1) | (simp at h1;done)) | (simp at h1;done)
end
section
variable {P : Program} {ops : Array Oper} {Q : Exit → Act → World → Prop} [DC]
def l9:Op->Bool
 |.move _=>true
 |.assign _=>true
 |.extract _ _=>true
 |.fieldAddr _ _ _=>true
 |.indexAddr _ _ _=>true
 |_=>false
def fN(ops:Array Oper):Nat->Nat->Nat->Bool
 |0,_,_=>false
 |f+1,i,j=>match ops[i]? with
  |some oi=>oi.after.any λe=>Region.binds .any e&&(Nat.beq e.on j||fN ops f e.on j)
  |none=>false
def jl(ops:Array Oper)(H:Nat->Bool)(i:Nat):Bool :=
 (List.range ops.size).all λj=>Nat.beq j i||(match ops[j]? with
  |some oj=>l9 oj.op||((fN ops 4 i j||fN ops 4 j i)||H j)
  |none=>true)
def ix(ops:Array Oper)(listed:Array Bool):Prop:=∀i oi,ops[i]? = some oi->listed.getD i false=true->∀e∈oi.after,Region.binds .any e=true->listed.getD e.on false=true
def ix.none:ix ops (Array.replicate ops.size false):=by
 intro i oi hi h;exfalso;rcases Nat.lt_or_ge i ops.size with h'|h';·simp[h']at h
 ·simp[Array.getD,Nat.not_lt.2 h']at h
def vZ{listed:Array Bool}{k:Nat}(h1:listed.getD k true=false)(h2:listed.getD k false=true):False:=by
 rcases Nat.lt_or_ge k listed.size with h'|h';·simp[h']at h1 h2;rw[h1]at h2;cases h2
 ·simp[Array.getElem?_eq_none h']at h2
def ix.put{listed:Array Bool}(h:ix ops listed){i:Nat}(hi:i∈Region.ready .any ops listed):ix ops (listed.setIfInBounds i true):=by
 obtain⟨hiun,oi,hoi,hia⟩:=mem_ready.1 hi;have grow:∀k,listed.getD k false=true->(listed.setIfInBounds i true).getD k false=true:=by
  intro k hk;by_cases e:i=k;·subst e;exact(vZ hiun hk).elim
  ·rw[getD_set_ne false e];exact hk
 intro k ok hk hl e he hb;by_cases hik:i=k;·subst hik;rw[hoi]at hk;injection hk with hk;subst hk;exact grow _ (hia e he hb)
 ·rw[getD_set_ne false hik]at hl;exact grow _ (h k ok hk hl e he hb)
def v7{listed:Array Bool}(h:ix ops listed):∀(f:Nat) {i j:Nat}{oi:Oper},ops[i]? = some oi->(∀e∈oi.after,Region.binds .any e=true->listed.getD e.on false=true)->fN ops f i j=true->listed.getD j false=true
 |0,_,_,_,_,_,hb=>by cases hb
 |f+1,i,j,oi,hi,ha,hb=>by
  simp only[fN,hi]at hb;obtain⟨e,he,hb⟩:=Array.any_eq_true'.1 hb;simp only[Bool.and_eq_true,Bool.or_eq_true]at hb;have h1:=ha e he hb.1;rcases hb.2 with h2|h2;·rw[Nat.eq_of_beq_eq_true h2]at h1;exact h1
  ·cases hoe:ops[e.on]? with
   |none =>
    cases f with
    |zero=>cases h2
    |succ f=>simp only[fN,hoe]at h2;cases h2
   |some oe=>exact v7 h f hoe (λe' he' hb'=>h _ oe hoe h1 e' he' hb') h2
def IH{Hd:Nat->Bool}{listed:Array Bool}{i j:Nat}(hH:Hd i=false)(hcl:ix ops listed)(hnp:∀o,ops[i]? = some o->l9 o.op=false)(hl:jl ops Hd j=true)(hne:j≠i)(hi:i∈Region.ready .any ops listed)(hj:j∈Region.ready .any ops listed):False:=by
 obtain⟨hiun,oi,hoi,hia⟩:=mem_ready.1 hi;obtain⟨hjun,oj,hoj,hja⟩:=mem_ready.1 hj;have hlt:i<ops.size:=(Array.getElem?_eq_some_iff.1 hoi).1;have:=List.all_eq_true.1 hl i (List.mem_range.2 hlt);rw[hoi]at this;simp only[Bool.or_eq_true]at this;rw[hH]at this;rcases this with h|h | (h|h)|h;rotate_left 4
 ·cases h
 ·exact hne (Nat.eq_of_beq_eq_true h).symm
 ·rw[hnp oi hoi]at h;cases h
 ·exact vZ hiun (v7 hcl 4 hoj hja h)
 ·exact vZ hjun (v7 hcl 4 hoi hia h)
def fO(P:Program)(ops:Array Oper)(Hd:Nat->Bool)(Q:Exit->Act->World->Prop):Nat->Array Bool->Act->World->Prop
 |0,listed,a,w=>Region.ready .any ops listed=[]/\Q .normal a w
 |fuel+1,listed,a,w =>
  (Region.ready .any ops listed=[]->Q .normal a w) /\
  ∀i∈Region.ready .any ops listed,wpOp P ops Q i (λa' w'=>(jl ops Hd i=false->bL w w')/\fO P ops Hd Q fuel (listed.setIfInBounds i true) a' w') a w
def AT{Hd:Nat->Bool}:∀(fuel:Nat) (listed:Array Bool) (a:Act) (w:World),fO P ops Hd Q fuel listed a w->wpAny P .any ops Q fuel listed a w
 |0,_,_,_,h=>h
 |fuel+1,_,_,_,h=>⟨h.1,λi hi=>wpOp_mono (λa' w' h'=>AT fuel _ a' w' h'.2) (h.2 i hi)⟩
def AU{S S':World->Prop}{o:Oper}{v:Value}{a:Act}(hS:∀w,S' w->S w)(h:YieldsIf P ops S o v a):YieldsIf P ops S' o v a :=
 h.imp (λ⟨hw,hv⟩=>⟨hw,λw hs=>hv w (hS w hs)⟩) id
def II{Hd:Nat->Bool}{i:Nat}{oi:Oper}{v:Value}(hH:Hd i=false)(hi:ops[i]? = some oi)(hnp:l9 oi.op=false)(hsel:∀(j:Nat) (o:Oper) cs b,ops[j]? = some o->o.op≠.select cs b)
  (hQ:∀c a w,Q (.panic c) (a.put oi.dst v) w->Q (.panic c) a w) :
  ∀(fuel:Nat) (listed:Array Bool) (a:Act) (w:World),ix ops listed ->
   (∀j oj,ops[j]? = some oj->j≠i->listed.getD j true=false->(∀e∈oj.after,Region.binds .any e=true->e.on≠i)->oi.apart ops oj=true) ->
   i∈Region.ready .any ops listed->YieldsIf P ops (bL w) oi v a ->
   fO P ops Hd Q fuel (listed.setIfInBounds i true) (a.put oi.dst v) w->fO P ops Hd Q (fuel+1) listed a w:=by
 intro fuel;induction fuel with
 |zero =>
  intro listed a w _ _ hr hy H;refine⟨λh=>(by rw[h]at hr;cases hr),λj hj=>?_⟩;by_cases hji:j=i;·subst hji;exact hy.wpOp hi (bL.refl w) ⟨λ_=>bL.refl w,H⟩
  ·have:=ready_mono hj hji;rw[H.1]at this;cases this
 |succ fuel ih =>
  intro listed a w hcl hfree hr hy H;refine⟨λh=>(by rw[h]at hr;cases hr),λj hj=>?_⟩;by_cases hji:j=i;·subst hji;exact hy.wpOp hi (bL.refl w) ⟨λ_=>bL.refl w,H⟩
  ·have h1:=H.2 j (ready_mono hj hji);obtain⟨hjun,oj,hoj,hall⟩:=mem_ready.1 hj;have hnot:∀e∈oj.after,Region.binds .any e=true->e.on≠i:=λe he hb heq=>by
    have h1:=hall e he hb;have h0:=(mem_ready.1 hr).1;rw[heq]at h1;rcases Nat.lt_or_ge i listed.size with h'|h';·simp[h']at h0 h1;rw[h0]at h1;cases h1
    ·simp[Array.getElem?_eq_none h']at h1
   have hlast:jl ops Hd j=false:=by
    cases hb:jl ops Hd j;·rfl
    ·exact(IH hH hcl (λo ho=>by rw[hi]at ho;injection ho with ho;subst ho;exact hnp) hb hji hr hj).elim
   have h2:=wpOp_putIf hoj (hfree j oj hoj hji hjun hnot) (λcs b=>hsel i oi cs b hi) (λcs b=>hsel j oj cs b hoj) hQ hy h1;have hfree':∀k ok,ops[k]? = some ok->k≠i->(listed.setIfInBounds j true).getD k true=false ->
     (∀e∈ok.after,Region.binds .any e=true->e.on≠i)->oi.apart ops ok=true:=λk ok hk hki hun hno=>by
    refine hfree k ok hk hki ?_ hno;by_cases hjk:j=k;·subst hjk;exact hjun
    ·rw[getD_set_ne true hjk]at hun;exact hun
   refine wpOp_mono (λa' w' h3=>⟨h3.2.1,ih (listed.setIfInBounds j true) a' w' (hcl.put hj) hfree' (ready_mono hr (Ne.symm hji)) (AU (λw'' e=>(h3.2.1 hlast).trans e) h3.1) ?_⟩) h2;rw[Array.setIfInBounds_comm _ _ hji];exact h3.2.2
def IJ{Hd:Nat->Bool}{i:Nat}{oi:Oper}{v:Value}(hi:ops[i]? = some oi)(hsel:∀(j:Nat) (o:Oper) cs b,ops[j]? = some o->o.op≠.select cs b)
  (hQ:∀c a w,Q (.panic c) (a.put oi.dst v) w->Q (.panic c) a w) :
  ∀(fuel:Nat) (listed:Array Bool) (a:Act) (w:World),
   (∀j oj,ops[j]? = some oj->j≠i->listed.getD j true=false->(∀e∈oj.after,Region.binds .any e=true->e.on≠i)->oi.apart ops oj=true) ->
   i∈Region.ready .any ops listed->YieldsIf P ops (λ_=>True) oi v a ->
   fO P ops Hd Q fuel (listed.setIfInBounds i true) (a.put oi.dst v) w->fO P ops Hd Q (fuel+1) listed a w:=by
 intro fuel;induction fuel with
 |zero =>
  intro listed a w _ hr hy H;refine⟨λh=>(by rw[h]at hr;cases hr),λj hj=>?_⟩;by_cases hji:j=i;·subst hji;exact hy.wpOp hi trivial ⟨λ_=>bL.refl w,H⟩
  ·have:=ready_mono hj hji;rw[H.1]at this;cases this
 |succ fuel ih =>
  intro listed a w hfree hr hy H;refine⟨λh=>(by rw[h]at hr;cases hr),λj hj=>?_⟩;by_cases hji:j=i;·subst hji;exact hy.wpOp hi trivial ⟨λ_=>bL.refl w,H⟩
  ·have h1:=H.2 j (ready_mono hj hji);obtain⟨hjun,oj,hoj,hall⟩:=mem_ready.1 hj;have hnot:∀e∈oj.after,Region.binds .any e=true->e.on≠i:=λe he hb heq=>by
    have h1:=hall e he hb;have h0:=(mem_ready.1 hr).1;rw[heq]at h1;rcases Nat.lt_or_ge i listed.size with h'|h';·simp[h']at h0 h1;rw[h0]at h1;cases h1
    ·simp[Array.getElem?_eq_none h']at h1
   have h2:=wpOp_putIf hoj (hfree j oj hoj hji hjun hnot) (λcs b=>hsel i oi cs b hi) (λcs b=>hsel j oj cs b hoj) hQ hy h1;have hfree':∀k ok,ops[k]? = some ok->k≠i->(listed.setIfInBounds j true).getD k true=false ->
     (∀e∈ok.after,Region.binds .any e=true->e.on≠i)->oi.apart ops ok=true:=λk ok hk hki hun hno=>by
    refine hfree k ok hk hki ?_ hno;by_cases hjk:j=k;·subst hjk;exact hjun
    ·rw[getD_set_ne true hjk]at hun;exact hun
   refine wpOp_mono (λa' w' h3=>⟨h3.2.1,ih (listed.setIfInBounds j true) a' w' hfree' (ready_mono hr (Ne.symm hji)) (AU (λ_ _=>trivial) h3.1) ?_⟩) h2;rw[Array.setIfInBounds_comm _ _ hji];exact h3.2.2
def AV{Hd:Nat->Bool}{i:Nat}{oi:Oper}{v:Value}{fuel:Nat}{listed:Array Bool}{a:Act}{w:World}(hH:Hd i=false)(hi:ops[i]? = some oi)(hnp:l9 oi.op=false)
  (hs:Region.noSelect ops=true) (hcl:ix ops listed) (hf:Region.free .any ops listed i=true) (hr:i∈Region.ready .any ops listed)
  (hQ:∀c a w,Q (.panic c) (a.put oi.dst v) w->Q (.panic c) a w) (hy:YieldsIf P ops (bL w) oi v a)
  (h:fO P ops Hd Q fuel (listed.setIfInBounds i true) (a.put oi.dst v) w):fO P ops Hd Q (fuel+1) listed a w :=
 II hH hi hnp (Region.noSelect_spec hs) hQ fuel listed a w hcl (Region.free_spec hi hf) hr hy h
def AW{Hd:Nat->Bool}{i:Nat}{oi:Oper}{v:Value}{fuel:Nat}{listed:Array Bool}{a:Act}{w:World}(hi:ops[i]? = some oi)
  (hs:Region.noSelect ops=true) (hf:Region.free .any ops listed i=true) (hr:i∈Region.ready .any ops listed)
  (hQ:∀c a w,Q (.panic c) (a.put oi.dst v) w->Q (.panic c) a w) (hy:YieldsIf P ops (λ_=>True) oi v a)
  (h:fO P ops Hd Q fuel (listed.setIfInBounds i true) (a.put oi.dst v) w):fO P ops Hd Q (fuel+1) listed a w :=
 IJ hi (Region.noSelect_spec hs) hQ fuel listed a w (Region.free_spec hi hf) hr hy h
def IK{Hd:Nat->Bool}{listed:Array Bool}{a:Act}{w:World}(hr:Region.ready .any ops listed=[])(h:Q .normal a w) :
  ∀fuel,fO P ops Hd Q fuel listed a w
 |0=>⟨hr,h⟩
 |_+1=>⟨λ_=>h,by rw[hr];simp⟩
end
end Go.Fw
namespace Go.Fw
open Go.RowKit
structure PT where
 t:Ty
 agg:Bool
 io:Bool
def an:List PT->Type
 |[]=>Unit
 |p::ps=>p.t.den×an ps
def cL:List PT->Type
 |[]=>Unit
 |p::ps=>cond p.io p.t.den (cL ps)
structure bC where
 ps:List PT
 rs:List PT
structure a8 where
 sig:bC
 pre:Option (an sig.ps->Bool)
 val:an sig.ps->cL sig.ps×an sig.rs
def bZ{α:Type}(p:Option (α->Bool))(X:α):Bool:=match p with
 |none=>true
 |some f=>f X
def a8.G(en:a8)(X:an en.sig.ps):Option (cL en.sig.ps×an en.sig.rs):=cond (bZ en.pre X) (some (en.val X)) none
def fB(agg:Bool)(v:Value)(cs:List Value):Prop:=cond agg (∃arr:Array Value,v=.agg arr/\arr.toList=cs) (cs=[v])
def dW(w:World)(L:List Nat):(ps:List PT)->List Value->an ps->Prop
 |[],[],_=>True
 |p::ps,v::vs,X=>(∃cs,fB p.agg v cs/\cond p.io (aE w p.t L cs X.1) (Rd w (λk=>k∉L) p.t cs X.1))/\dW w L ps vs X.2
 |[],_::_,_=>False
 |_::_,[],_=>False
def IL{A B:Type}:(b:Bool)->(A->Prop)->(B->Prop)->cond b A B->Prop
 |true,f,_,y=>f y
 |false,_,g,y=>g y
def kH(w:World)(L:List Nat):(ps:List PT)->List Value->cL ps->Prop
 |[],_,_=>L=[]
 |p::ps,v::vs,y=>IL p.io (λx=>∃cs,fB p.agg v cs/\aE w p.t L cs x) (λy=>kH w L ps vs y) y
 |_::_,[],_=>False
def v8(io:Bool):(t:Ty)->List Value->t.den->Prop
 |.sl _ _,cs,x=>io=true->x.length=0->cs=[.slice none 0 0]
 |_,_,_=>True
def ma(w:World):(rs:List PT)->List Value->an rs->List Nat->Prop
 |[],[],_,L=>L=[]
 |r::rs,v::vs,Y,L=>∃cs L1 L2,L=L1++L2/\fB r.agg v cs/\aE w r.t L1 cs Y.1/\v8 r.io r.t cs Y.1/\ma w rs vs Y.2 L2
 |[],_::_,_,_=>False
 |_::_,[],_,_=>False
def mb:List Value->Value->Prop
 |[u],v=>v=u
 |vs,v=>v=.tuple vs.toArray
def b7(ps:List PT):Bool:=ps.all λp=>!p.io
def dA:List PT->Bool
 |[]=>true
 |p::ps=>cond p.io (b7 ps) (dA ps)
structure v9[DC](w:World)(sig:bC)(args:List Value)(L:List Nat)(y:cL sig.ps)(Y:an sig.rs)(v:Value)(w':World)(vs:List Value)(L' Lr:List Nat):Prop where
 ret:mb vs v
 res:ma w' sig.rs vs Y Lr
 io:kH w' L' sig.ps args y
 nodup:(Lr++L').Nodup
 fresh:∀k∈Lr,k∈L\/w.heap.size<=k
 from_:∀k∈L',k∈L\/w.heap.size<=k
 os:w'.os=w.os
 tape:Tp w w'
 output:w'.output=w.output
 size:w.heap.size<=w'.heap.size
 old:∀k,k<w.heap.size->k∉L->w'.heap[k]? = w.heap[k]?
def cM(P:Program)(f:Nat)(args:Array Value)(w:World)(Q:Ending->World->Prop):Prop :=
 ((callFunc f args).run P w=.ok (.enter f args) w/\Calls P f args w Q)\/∃v w',(callFunc f args).run P w=.ok (.value v) w'/\Q (.returned v) w'
def cM.mono{P:Program}{f:Nat}{args:Array Value}{w:World}{Q Q':Ending->World->Prop}(h:cM P f args w Q)(hq:∀e w,Q e w->Q' e w):cM P f args w Q' :=
 h.imp (λ⟨h1,h2⟩=>⟨h1,h2.mono λe w=>hq e w⟩) λ⟨v,w',h1,h2⟩=>⟨v,w',h1,hq _ _ h2⟩
class Inv (P:Program) where
 I:World->Prop
 B:Nat->Prop
 keep:∀w w',(∀k,B k->w'.heap[k]? = w.heap[k]?)->I w->I w'
 lt:∀w k,I w->B k->k<w.heap.size
def aG[DC](P:Program)[Inv P](f:Nat)(en:a8):Prop :=
 ∀(w:World) (args:Array Value) (L:List Nat) (X:an en.sig.ps) (y:cL en.sig.ps) (Y:an en.sig.rs),dW w L en.sig.ps args.toList X->(b7 en.sig.ps=true->L=[])->L.Nodup->(∀k∈L,k<w.heap.size) ->
  en.G X=some (y,Y)->Inv.I P w->(∀k∈L,¬ Inv.B P k)->cM P f args w λe w'=>∃v vs L' Lr,e=.returned v/\v9 w en.sig args.toList L y Y v w' vs L' Lr
def px[DC](P:Program)(w0:World)(lab0:Nat->ay)(f:Nat)(en:a8):Prop :=
 ∀(w:World) (args:Array Value) (L:List Nat) (X:an en.sig.ps) (y:cL en.sig.ps) (Y:an en.sig.rs),dW w L en.sig.ps args.toList X->(b7 en.sig.ps=true->L=[])->L.Nodup->(∀k∈L,k<w.heap.size) ->
  en.G X=some (y,Y)->(∀k,k<w0.heap.size->lab0 k=.st->w.heap[k]? = w0.heap[k]?)->(∀k∈L,¬ (k<w0.heap.size/\lab0 k=.st))->cM P f args w λe w'=>∃v vs L' Lr,e=.returned v/\v9 w en.sig args.toList L y Y v w' vs L' Lr
def aG.at[DC]{P:Program}[Inv P]{f:Nat}{en:a8}(h:aG P f en){w0:World}{lab0:Nat->ay}(hI:Inv.I P w0)(hB:∀k,Inv.B P k->lab0 k=.st):px P w0 lab0 f en :=
 λw args L X y Y h1 h2 h3 h4 h5 h6 h7=>h w args L X y Y h1 h2 h3 h4 h5 (Inv.keep w0 w (λk hk=>h6 k (Inv.lt w0 k hI hk) (hB k hk)) hI) λk hk hb=>h7 k hk ⟨Inv.lt w0 k hI hb,hB k hb⟩
def sa(bad:List Nat)(look:Nat->Option ac)(e:Nat)(t:Ty):List af->Option (List t.den)
 |[.nil]=>some []
 |[.own r]=>match look r with
  |some row=>cond (Nat.beq row.e e&&!(bq r bad)) (dj row.t t row.xs) none
  |none=>none
 |[.part r lo n]=>match look r with
  |some row=>cond (!(bq r bad)) (dj row.t t ((row.xs.drop lo.toNat).take n.toNat)) none
  |none=>none
 |[.sn e' t' xs none]=>dj t' t xs
 |[.sn e' t' xs (some r)]=>cond (!(bq r bad)) (dj t' t xs) none
 |[.full e' t' xs none]=>dj t' t xs
 |[.full e' t' xs (some r)]=>cond (!(bq r bad)) (dj t' t xs) none
 |[.bor _ _ t' xs]=>dj t' t xs
 |_=>none
def py(bad:List Nat)(look:Nat->Option ac):(t:Ty)->List af->Option t.den
 |.int k,cs=>kA k cs
 |.bool,cs=>lR cs
 |.fnc g,cs=>oW g cs
 |.str,cs=>kB cs
 |.err,cs=>oX cs
 |.sl e t,cs=>sa bad look e t cs
 |.pair a b,cs=>dJ (py bad look a (cs.take a.nc)) (py bad look b (cs.drop a.nc))
section
variable {P : Program} {V V' : St} {E E' : aM} {w w' : World} {w0 : World} {lab0 : Nat → ay} {oo : Nat → Value} {n : Nat} {a : Act} [DC]
def mc{S:Nat->Prop}{e e':Nat}{t t':Ty}{xs:List t.den}{ys:List t'.den}{u:Value}(hc:dj t t' xs=some ys)(h:Rd w S (.sl e t) [u] xs):Rd w S (.sl e' t') [u] ys:=by obtain⟨rfl,rfl⟩:=gk hc;exact h
def sb{x:Nat}{l:List Nat}(h:(!bq x l)=true):x∉l:=λhm=>by rw[gi.2 hm]at h;cases h
def fP(lab:Nat->ay)(bad:List Nat)(k:Nat):Prop:=∀q∈bad,¬ dr lab q k
def sc{lab:Nat->ay}{bad:List Nat}{r k:Nat}(hr:r∉bad)(h:dr lab r k):fP lab bad k:=λq hq h'=>hr (jR h h'▸hq)
def AX{lab:Nat->ay}{bad:List Nat}{k:Nat}(h:lab k=.dead):fP lab bad k:=λq hq h'=>by rcases h' with h'|h'<;>rw[h]at h'<;>cases h'
def nv{lab:Nat->ay}{bad:List Nat}{k:Nat}(h:lab k=.st):fP lab bad k:=λq hq h'=>by rcases h' with h'|h'<;>rw[h]at h'<;>cases h'
def iy(lab:Nat->ay)(bad:List Nat)(k:Nat):Prop:=fP lab bad k/\∀b,lab k≠.box b
def nw{lab:Nat->ay}{bad:List Nat}{r k:Nat}(hr:r∉bad)(h:dr lab r k):iy lab bad k:=⟨sc hr h,λb hb=>by rcases h with h|h<;>rw[h]at hb<;>cases hb⟩
def IM{lab:Nat->ay}{bad:List Nat}{k:Nat}(h:lab k=.dead):iy lab bad k:=⟨AX h,λb hb=>by rw[h]at hb;cases hb⟩
def ny{lab:Nat->ay}{bad:List Nat}{k:Nat}(h:lab k=.st):iy lab bad k:=⟨nv h,λb hb=>by rw[h]at hb;cases hb⟩
def AY(h:R w0 lab0 oo n V E a w){bad:List Nat}{e:Nat}{t:Ty}{cs:List af}{us:List Value}{y:List t.den}(hp:sa bad V.row e t cs=some y)(hc:ai (aj V E w) cs us) :
  Rd w (iy E.lab bad) (.sl e t) us y:=by
 unfold sa at hp;split at hp;·obtain⟨u,rfl,hu⟩:=cb hc;injection hp with hp;subst hp;obtain rfl:u=_:=hu;exact⟨none,0,0,rfl,rfl,Nat.le_refl _,Nat.zero_le _,.inl rfl⟩
 ·rename_i r;obtain⟨u,rfl,hu⟩:=cb hc;split at hp
  ·rename_i row hrow;cases hq:(Nat.beq row.e e&&!(bq r bad));·rw[hq]at hp;cases hp
   ·rw[hq]at hp;simp only[Bool.and_eq_true]at hq;have hnb:=sb hq.2;obtain⟨rfl,_,_⟩:=hu;exact mc hp ((h.rows r row hrow).rd (λk hk=>nw hnb (.inl hk)) (λk hk=>by
     cases hd:row.deep;·rw[hd]at hk;exact ny hk
     ·rw[hd]at hk;exact nw hnb (.inr hk)))
  ·cases hp
 ·rename_i r lo m;obtain⟨u,rfl,hu⟩:=cb hc;split at hp
  ·rename_i row hrow;cases hq:(!(bq r bad));·rw[hq]at hp;cases hp
   ·rw[hq]at hp;have hnb:=sb hq;exact mc hp (AS h hrow hu λk hk=>hk.elim (nw hnb) ny)
  ·cases hp
 ·rename_i e' t' xs;obtain⟨u,rfl,hu⟩:=cb hc;exact mc hp (Rd.mono (λk hk=>ny hk) (show Rd w (λk=>E.lab k=.st) (.sl e' t') [u] xs from hu))
 ·rename_i e' t' xs r;obtain⟨u,rfl,hu⟩:=cb hc;cases hq:(!(bq r bad));·rw[hq]at hp;cases hp
  ·rw[hq]at hp;exact mc hp (Rd.mono (λk hk=>nw (sb hq) (.inr hk)) (show Rd w (λk=>E.lab k=.inn r) (.sl e' t') [u] xs from hu))
 ·rename_i e' t' xs;obtain⟨u,rfl,hu⟩:=cb hc;exact mc hp (Rd.mono (λk hk=>ny hk) (show Rd w (λk=>E.lab k=.st) (.sl e' t') [u] xs from hu.1))
 ·rename_i e' t' xs r;obtain⟨u,rfl,hu⟩:=cb hc;cases hq:(!(bq r bad));·rw[hq]at hp;cases hp
  ·rw[hq]at hp;exact mc hp (Rd.mono (λk hk=>nw (sb hq) (.inr hk)) (show Rd w (λk=>E.lab k=.inn r) (.sl e' t') [u] xs from hu.1))
 ·rename_i v0 e' t' xs;obtain⟨u,rfl,hu⟩:=cb hc;exact mc hp (Rd.mono (λk hk=>ny hk) (show Rd w (λk=>E.lab k=.st) (.sl e' t') [u] xs from hu.2))
 ·cases hp
def me(h:R w0 lab0 oo n V E a w){bad:List Nat}:∀{t:Ty}{cs:List af}{us:List Value}{y:t.den},py bad V.row t cs=some y->ai (aj V E w) cs us->Rd w (iy E.lab bad) t us y
 |.int k,cs,us,y,e,hc=>by obtain rfl:=lZ e;obtain⟨u,rfl,hu⟩:=cb hc;obtain rfl:u=_:=hu;rfl
 |.bool,cs,us,y,e,hc=>by obtain rfl:=nk e;obtain⟨u,rfl,hu⟩:=cb hc;obtain rfl:u=_:=hu;rfl
 |.fnc _,cs,us,y,e,hc=>by obtain rfl:=o9 e;obtain⟨u,rfl,hu⟩:=cb hc;obtain⟨rfl,_⟩:=hu;rfl
 |.err,cs,us,y,e,hc=>by obtain rfl:=rQ e;obtain⟨u,rfl,hu⟩:=cb hc;exact⟨u,rfl,hu⟩
 |.str,cs,us,y,e,hc=>by obtain rfl:=l5 e;obtain⟨u,rfl,hu⟩:=cb hc;obtain rfl:u=_:=hu;rfl
 |.sl e t,cs,us,y,hp,hc=>AY h hp hc
 |.pair t1 t2,cs,us,y,e,hc=>by obtain⟨h1,h2⟩:=dK e;exact⟨us.take t1.nc,us.drop t1.nc,(List.take_append_drop _ _).symm,me h h1 (hc.take _),me h h2 (hc.drop _)⟩
def aJ(d:Nat):(t:Ty)->t.den->Nat->List af×List (Nat×ac)×Nat
 |.int k,x,j=>([.int k x],[],j)
 |.bool,x,j=>([.bool x],[],j)
 |.fnc g,_,j=>([.fn g []],[],j)
 |.str,x,j=>([.str x],[],j)
 |.err,x,j=>([.err x],[],j)
 |.sl e t,xs,j=>([.own (aT d j)],[(aT d j,⟨e,t,xs,true,false⟩)],j+1)
 |.pair a b,x,j =>
  match aJ d a x.1 j with
  | (c1,r1,j1)=>match aJ d b x.2 j1 with
   | (c2,r2,j2)=>(c1++c2,r1++r2,j2)
def gn(d:Nat):∀{t:Ty}{y:t.den}{j:Nat},j<=(aJ d t y j).2.2/\∀p∈(aJ d t y j).2.1,∃i,j<=i/\i<(aJ d t y j).2.2/\p.1=aT d i
 |.int _,_,j=>⟨Nat.le_refl _,λp hp=>by simp[aJ]at hp⟩
 |.bool,_,j=>⟨Nat.le_refl _,λp hp=>by simp[aJ]at hp⟩
 |.fnc _,_,j=>⟨Nat.le_refl _,λp hp=>by simp[aJ]at hp⟩
 |.str,_,j=>⟨Nat.le_refl _,λp hp=>by simp[aJ]at hp⟩
 |.err,_,j=>⟨Nat.le_refl _,λp hp=>by simp[aJ]at hp⟩
 |.sl e t,xs,j=>⟨Nat.le_succ _,λp hp=>by simp only[aJ,List.mem_singleton]at hp;subst hp;exact⟨j,Nat.le_refl _,Nat.lt_succ_self _,rfl⟩⟩
 |.pair a b,x,j=>by
  have h1:=gn d (t:=a) (y:=x.1) (j:=j);have h2:=gn d (t:=b) (y:=x.2) (j:=(aJ d a x.1 j).2.2);refine⟨Nat.le_trans h1.1 h2.1,λp hp=>?_⟩;simp only[aJ,List.mem_append]at hp;rcases hp with hp|hp;·obtain⟨i,k1,k2,k3⟩:=h1.2 p hp;exact⟨i,k1,Nat.lt_of_lt_of_le k2 h2.1,k3⟩
  ·obtain⟨i,k1,k2,k3⟩:=h2.2 p hp;exact⟨i,Nat.le_trans h1.1 k1,k2,k3⟩
def mf{d i j:Nat}(h:aT d i=aT d j):i=j:=by unfold aT at h;omega
def mg(d:Nat):∀{t:Ty}{y:t.den}{L:List Nat}{cs:List Value}{j:Nat},aE w t L cs y->L.Nodup ->
  ∃(f:Nat->ay) (rvf:Nat->Value),(∀k∈L,∃i,j<=i/\i<(aJ d t y j).2.2/\(f k=.row (aT d i)\/f k=.inn (aT d i))) /\
   ∀(σ2:St) (E2:aM),(∀k∈L,E2.lab k=f k)->(∀p∈(aJ d t y j).2.1,E2.rv p.1=rvf p.1) ->
   (∀p∈(aJ d t y j).2.1,σ2.row p.1=some p.2)->ai (aj σ2 E2 w) (aJ d t y j).1 cs/\∀p∈(aJ d t y j).2.1,bP w E2.lab p.1 p.2 (E2.rv p.1)
 |.int k,y,L,cs,j,h,_=>by obtain⟨rfl,rfl⟩:=h;exact⟨λ_=>.st,λ_=>undef,(λ_ h=>by cases h),λ_ _ _ _ _=>⟨⟨rfl,trivial⟩,λp hp=>by simp[aJ]at hp⟩⟩
 |.bool,y,L,cs,j,h,_=>by obtain⟨rfl,rfl⟩:=h;exact⟨λ_=>.st,λ_=>undef,(λ_ h=>by cases h),λ_ _ _ _ _=>⟨⟨rfl,trivial⟩,λp hp=>by simp[aJ]at hp⟩⟩
 |.fnc _,y,L,cs,j,h,_=>by obtain⟨rfl,rfl⟩:=h;exact⟨λ_=>.st,λ_=>undef,(λ_ h=>by cases h),λ_ _ _ _ _=>⟨⟨⟨rfl,λp hp=>by cases hp⟩,trivial⟩,λp hp=>by simp[aJ]at hp⟩⟩
 |.err,y,L,cs,j,h,_=>by obtain⟨⟨v,rfl,hv⟩,rfl⟩:=h;exact⟨λ_=>.st,λ_=>undef,(λ_ h=>by cases h),λ_ _ _ _ _=>⟨⟨hv,trivial⟩,λp hp=>by simp[aJ]at hp⟩⟩
 |.str,y,L,cs,j,h,_=>by obtain⟨rfl,rfl⟩:=h;exact⟨λ_=>.st,λ_=>undef,(λ_ h=>by cases h),λ_ _ _ _ _=>⟨⟨rfl,trivial⟩,λp hp=>by simp[aJ]at hp⟩⟩
 |.sl e t,xs,L,cs,j,h,hn=>by
  obtain⟨v,css,Ls,rfl,ho,rfl,hall⟩:=h;obtain⟨hn1,hn2,hn3⟩:=List.nodup_append.1 hn;refine⟨λk=>if k∈v.ownBlock.toList then .row (aT d j)else .inn (aT d j),λ_=>v,λk hk=>⟨j,Nat.le_refl _,Nat.lt_succ_self _, ?_⟩,λσ2 E2 hl hv hr=>?_⟩
  ·by_cases e:k∈v.ownBlock.toList;·exact .inl (if_pos e)
   ·exact .inr (if_neg e)
  ·have hv':E2.rv (aT d j)=v:=hv (aT d j,⟨e,t,xs,true,false⟩) (by simp[aJ]);have hr':=hr (aT d j,⟨e,t,xs,true,false⟩) (by simp[aJ]);obtain⟨A,c,hvs,_,_⟩:=gM ho;refine⟨⟨⟨hv'.symm,by rw[hr'];rfl,A,_,c,hvs⟩,trivial⟩,λp hp=>?_⟩;simp only[aJ,List.mem_singleton]at hp;subst hp;simp only;rw[hv'];refine⟨css,ho,λk hk=>?_,⟨Ls,hall,hn2,λk hk=>?_⟩,λh=>by cases h⟩
   ·have hm:k∈v.ownBlock.toList:=by rw[hk];simp
    exact(hl k (List.mem_append_left _ hm)).trans (if_pos hm)
   ·have hm:k∉v.ownBlock.toList:=λhm=>hn3 k hm k hk rfl;exact(hl k (List.mem_append_right _ hk)).trans (if_neg hm)
 |.pair t1 t2,x,L,cs,j,h,hn=>by
  obtain⟨c1,c2,L1,L2,rfl,rfl,h1,h2⟩:=h;obtain⟨hn1,hn2,hn3⟩:=List.nodup_append.1 hn;obtain⟨f1,v1,a1,b1⟩:=mg d (j:=j) h1 hn1;obtain⟨f2,v2,a2,b2⟩:=mg d (j:=(aJ d t1 x.1 j).2.2) h2 hn2;have m1:=(gn d (t:=t1) (y:=x.1) (j:=j)).1;have m2:=(gn d (t:=t2) (y:=x.2) (j:=(aJ d t1 x.1 j).2.2)).1;have hname:∀i,i<(aJ d t1 x.1 j).2.2->∃i',i'<(aJ d t1 x.1 j).2.2/\aT d i=aT d i':=λi hi=>⟨i,hi,rfl⟩;refine⟨λk=>if k∈L1 then f1 k else f2 k,λr=>if ∃i',i'<(aJ d t1 x.1 j).2.2/\r=aT d i' then v1 r else v2 r,λk hk=>?_,λσ2 E2 hl hv hr=>?_⟩
  ·rcases List.mem_append.1 hk with hk|hk;·obtain⟨i,k1,k2,k3⟩:=a1 k hk;exact⟨i,k1,Nat.lt_of_lt_of_le k2 m2,by simpa[hk]using k3⟩
   ·have hne:k∉L1:=λh'=>hn3 k h' k hk rfl;obtain⟨i,k1,k2,k3⟩:=a2 k hk;exact⟨i,Nat.le_trans m1 k1,k2,by simpa[hne]using k3⟩
  ·obtain⟨g1,g2⟩:=b1 σ2 E2 (λk hk=>(hl k (List.mem_append_left _ hk)).trans (if_pos hk)) (λp hp=>by obtain⟨i,i1,i2,i3⟩:=(gn d).2 p hp;refine(hv p (by simp only[aJ,List.mem_append];exact .inl hp)).trans (if_pos ?_);rw[i3];exact hname i i2) (λp hp=>hr p (by simp only[aJ,List.mem_append];exact .inl hp));obtain⟨g3,g4⟩:=b2 σ2 E2 (λk hk=>(hl k (List.mem_append_right _ hk)).trans (if_neg (λh'=>hn3 k h' k hk rfl))) (λp hp=>by
    obtain⟨i,i1,i2,i3⟩:=(gn d).2 p hp;refine(hv p (by simp only[aJ,List.mem_append];exact .inr hp)).trans (if_neg ?_);rintro ⟨i',h1,h2⟩
    have:=mf (i3.symm.trans h2);omega) (λp hp=>hr p (by simp only[aJ,List.mem_append];exact .inr hp))
   refine⟨g1.app g3,λp hp=>?_⟩;simp only[aJ,List.mem_append]at hp;rcases hp with hp|hp;·exact g2 p hp
   ·exact g4 p hp
def eF(io:Bool)(d:Nat)(t:Ty)(y:t.den)(j:Nat):List af×List (Nat×ac)×Nat:=match t,y with
 |.sl e t,xs=>([.own (aT d j)],[(aT d j,⟨e,t,xs,true,io⟩)],j+1)
 |t,y=>aJ d t y j
def wb(io:Bool)(d:Nat)(t:Ty)(y:t.den)(j:Nat):(∃e s,∃h:t=.sl e s,eF io d t y j=([.own (aT d j)],[(aT d j,⟨e,s,(h▸y:(Ty.sl e s).den),true,io⟩)],j+1))\/((∀e s,t≠.sl e s)/\eF io d t y j=aJ d t y j):=by
 cases t with
 |sl e s=>exact .inl ⟨e,s,rfl,rfl⟩
 |int k=>exact .inr ⟨(λe s h=>by cases h),rfl⟩
 |bool=>exact .inr ⟨(λe s h=>by cases h),rfl⟩
 |str=>exact .inr ⟨(λe s h=>by cases h),rfl⟩
 |err=>exact .inr ⟨(λe s h=>by cases h),rfl⟩
 |fnc g=>exact .inr ⟨(λe s h=>by cases h),rfl⟩
 |pair a b=>exact .inr ⟨(λe s h=>by cases h),rfl⟩
def wd(io:Bool)(d:Nat){t:Ty}{y:t.den}{j:Nat}:j<=(eF io d t y j).2.2/\∀p∈(eF io d t y j).2.1,∃i,j<=i/\i<(eF io d t y j).2.2/\p.1=aT d i:=by
 rcases wb io d t y j with⟨e,s,rfl,h⟩|⟨_,h⟩;·rw[h];exact⟨Nat.le_succ _,λp hp=>⟨j,Nat.le_refl _,Nat.lt_succ_self _,by have:=List.mem_singleton.1 hp;rw[this]⟩⟩
 ·rw[h];exact gn d
def IN(io:Bool)(d:Nat){t:Ty}{y:t.den}{L:List Nat}{cs:List Value}{j:Nat}(h:aE w t L cs y)(hn:L.Nodup)(hz:v8 io t cs y) :
  ∃(f:Nat->ay) (rvf:Nat->Value),(∀k∈L,∃i,j<=i/\i<(eF io d t y j).2.2/\(f k=.row (aT d i)\/f k=.inn (aT d i))) /\
   ∀(σ2:St) (E2:aM),(∀k∈L,E2.lab k=f k)->(∀p∈(eF io d t y j).2.1,E2.rv p.1=rvf p.1) ->
   (∀p∈(eF io d t y j).2.1,σ2.row p.1=some p.2)->ai (aj σ2 E2 w) (eF io d t y j).1 cs/\∀p∈(eF io d t y j).2.1,bP w E2.lab p.1 p.2 (E2.rv p.1):=by
 obtain⟨f,rvf,a1,b1⟩:=mg d (j:=j) h hn;rcases wb io d t y j with⟨e,s,rfl,hi⟩|⟨_,hi⟩
 ·rw[hi];refine⟨f,rvf,a1,λσ2 E2 hl hv hr=>?_⟩;have hr0:=hr _ (List.mem_singleton.2 rfl);obtain⟨g1,g2⟩:=b1 ⟨σ2.slot,σ2.box,am σ2.row (aT d j) (some ⟨e,s,y,true,false⟩)⟩ E2 hl (λp hp=>by
   have:=List.mem_singleton.1 hp;subst this;have h2:=hv (aT d j,⟨e,s,y,true,io⟩) (List.mem_singleton.2 rfl);exact h2) (λp hp=>by
   have:=List.mem_singleton.1 hp;subst this;exact aU _ _ _)
  have g2:=g2 _ (List.mem_singleton.2 rfl);cases cs with
  |nil=>exact g1.elim
  |cons u us=>cases us with
   |cons _ _=>exact g1.2.elim
   |nil =>obtain⟨hu,_,hA⟩:=g1.1;refine⟨⟨⟨hu,by rw[hr0];rfl,hA⟩,trivial⟩,λp hp=>?_⟩;have:=List.mem_singleton.1 hp;subst this;obtain⟨css,k1,k2,k3,k4⟩:=g2;refine⟨css,k1,k2,k3,λhio hl0=>?_⟩;have:=hz hio hl0;injection this with this;rw[<-hu];exact this
 ·rw[hi];exact⟨f,rvf,a1,b1⟩
def we(e:Nat)(t:Ty):List af->List t.den->(Nat->Option ac)->Option (Nat->Option ac)
 |[.own r],ys,look=>match look r with
  |some row=>match dj t row.t ys with
   |some zs=>some (am look r (some ⟨row.e,row.t,zs,true,row.nilE⟩))
   |none=>none
  |none=>none
 |[.nil],_,look=>some look
 |_,_,_=>none
def pA:(t:Ty)->List af->t.den->(Nat->Option ac)->Option (Nat->Option ac)
 |.int _,_,_,look=>some look
 |.bool,_,_,look=>some look
 |.fnc _,_,_,look=>some look
 |.str,_,_,look=>some look
 |.err,_,_,_=>none
 |.sl e t,cs,ys,look=>we e t cs ys look
 |.pair a b,cs,x,look=>match pA a (cs.take a.nc) x.1 look with
  |some l=>pA b (cs.drop a.nc) x.2 l
  |none=>none
def wg(E:aM)(q:Nat)(row:ac):Prop:=(∃A c,E.rv q=.slice A row.xs.length c)/\(row.nilE=true->row.xs.length=0->E.rv q=.slice none 0 0)
def bP.was{lab:Nat->ay}{q:Nat}{row:ac}(h:bP w lab q row (E.rv q)):wg E q row:=by obtain⟨css,ho,_,_,hn⟩:=h;obtain⟨A,c,hv,_⟩:=gM ho;exact⟨⟨A,c,hv⟩,hn⟩
structure nz(look look':Nat->Option ac)(qs:List Nat)(L:List Nat)(E:aM)(w':World)(f:Nat->ay):Prop where
 lab:∀k∈L,∃q∈qs,f k=.row q\/f k=.inn q
 other:∀q,q∉qs->look' q=look q
 row:∀q∈qs,∃row row',look q=some row/\look' q=some row'/\row'.t=row.t/\row'.xs.length=row.xs.length/\∀lab2:Nat->ay,(∀k∈L,lab2 k=f k)->bP w' lab2 q row' (E.rv q)
def AZ{cs:List af}(m:Nat):aF cs=aF (cs.take m)++aF (cs.drop m):=by rw[<-gj,List.take_append_drop]
def zIO{t1 t2:Ty}{L:List Nat}{us:List Value}{y:(Ty.pair t1 t2).den}(h:aE w' (.pair t1 t2) L us y):∃L1 L2,L=L1++L2/\aE w' t1 L1 (us.take t1.nc) y.1/\aE w' t2 L2 (us.drop t1.nc) y.2:=by
 obtain⟨c1,c2,L1,L2,rfl,rfl,h1,h2⟩:=h;have:=h1.len;refine⟨L1,L2,rfl, ?_, ?_⟩;·rw[List.take_left' this];exact h1
 ·rw[List.drop_left' this];exact h2
def IP{e:Nat}{t:Ty}{cs:List af}{us:List Value}{ys:List t.den}{look look':Nat->Option ac}{L:List Nat}(hu:we e t cs ys look=some look')(hc:ai (aj V E w) cs us)
  (ho:aE w' (.sl e t) L us ys) (hL:L.Nodup) (hw:∀q∈aF cs,∀row,look q=some row->wg E q row/\row.e=e):∃f,nz look look' (aF cs) L E w' f:=by
 unfold we at hu;split at hu
 ·rename_i r;obtain⟨u,rfl,hu1⟩:=cb hc;split at hu
  ·rename_i row hrow;split at hu
   ·rename_i zs hz;injection hu with hu;subst hu;obtain⟨v,css,Ls,hvs,hrow',rfl,hall⟩:=ho;injection hvs with hvs;subst hvs;obtain⟨rfl,_,_⟩:=hu1;obtain⟨⟨⟨A,c,hv⟩,hnil⟩,he⟩:=hw r (by simp[aF]) row hrow;obtain⟨A',c',hv',_⟩:=gM hrow';have hlen:ys.length=row.xs.length:=by rw[hv]at hv';injection hv' with _ h2 _;exact h2.symm
    obtain⟨hn1,hn2,hn3⟩:=List.nodup_append.1 hL;obtain⟨et,ez⟩:=gk hz;have hzl:zs.length=ys.length:=by subst ez;subst et;rfl
    refine⟨λk=>if k∈(E.rv r).ownBlock.toList then .row r else .inn r,⟨λk hk=>⟨r,by simp[aF], ?_⟩,λq hq=>?_,λq hq=>?_⟩⟩
    ·by_cases e:k∈(E.rv r).ownBlock.toList;·exact .inl (if_pos e)
     ·exact .inr (if_neg e)
    ·exact ba _ _ λe=>hq (by simp[aF,e])
    ·have hq':q=r:=by simpa[aF]using hq
     subst hq';refine⟨row,_,hrow,aU _ _ _,rfl,by simpa[hzl]using hlen,λlab2 hl=>?_⟩;have hgoal:bP w' lab2 q ⟨e,t,ys,true,row.nilE⟩ (E.rv q):=by
      refine⟨css,hrow',λk hk=>?_,⟨Ls,hall,hn2,λk hk=>?_⟩,λh1 h2=>hnil h1 (by rw[<-hlen];exact h2)⟩
      ·have hm:k∈(E.rv q).ownBlock.toList:=by rw[hk];simp
       exact(hl k (List.mem_append_left _ hm)).trans (if_pos hm)
      ·have hm:k∉(E.rv q).ownBlock.toList:=λhm=>hn3 k hm k hk rfl;exact(hl k (List.mem_append_right _ hk)).trans (if_neg hm)
     obtain⟨re,rt,rxs,rdeep,rnil⟩:=row;simp only at et he ez ⊢;subst et he ez;exact hgoal
   ·cases hu
  ·cases hu
 ·obtain⟨u,rfl,hu1⟩:=cb hc;injection hu with hu;subst hu;obtain⟨v,css,Ls,hvs,hrow',rfl,hall⟩:=ho;injection hvs with hvs;subst hvs;obtain rfl:u=_:=hu1;obtain⟨A',c',hv',_⟩:=gM hrow';have h0:ys.length=0:=by injection hv' with _ h2 _;exact h2.symm
  have hLs:Ls=[]:=by have:=hall.len1;rw[h0]at this;exact List.eq_nil_of_length_eq_zero this
  subst hLs;exact⟨λ_=>.st,(λk hk=>by simp[Value.ownBlock]at hk),λ_ _=>rfl,λq hq=>by simp[aF]at hq⟩
 ·cases hu
def IQ{look look':Nat->Option ac}{e:Nat}{t:Ty}{cs:List af}(h:∀q∈aF cs,look' q=look q):iv look' e t cs=iv look e t cs:=by
 unfold iv;split;·rfl
 ·rename_i r;rw[h r (by simp[aF])]
 ·rfl
def wh{look look':Nat->Option ac}:∀{t:Ty}{cs:List af},(∀q∈aF cs,look' q=look q)->dk look' t cs=dk look t cs
 |.int _,_,_=>rfl
 |.bool,_,_=>rfl
 |.fnc _,_,_=>rfl
 |.str,_,_=>rfl
 |.err,_,_=>rfl
 |.sl e t,cs,h=>IQ h
 |.pair a b,cs,h=>by rw[AZ a.nc]at h;simp only[dk];rw[wh λq hq=>h q (List.mem_append_left _ hq),wh λq hq=>h q (List.mem_append_right _ hq)]
def wi:∀{t:Ty}{cs:List af}{us:List Value}{y x:t.den}{look look':Nat->Option ac}{L:List Nat},pA t cs y look=some look'->dk look t cs=some x->ai (aj V E w) cs us->aE w' t L us y->L.Nodup->(aF cs).Nodup ->
  (∀q∈aF cs,∀row,look q=some row->wg E q row)->∃f,nz look look' (aF cs) L E w' f
 |.int k,cs,us,y,x,look,look',L,hu,hp,hc,ho,_,_,_=>by injection hu with hu;subst hu;obtain rfl:=lZ hp;obtain⟨_,rfl⟩:=ho;exact⟨λ_=>.st,(λk hk=>by cases hk),λ_ _=>rfl,λq hq=>by simp[aF]at hq⟩
 |.bool,cs,us,y,x,look,look',L,hu,hp,hc,ho,_,_,_=>by injection hu with hu;subst hu;obtain rfl:=nk hp;obtain⟨_,rfl⟩:=ho;exact⟨λ_=>.st,(λk hk=>by cases hk),λ_ _=>rfl,λq hq=>by simp[aF]at hq⟩
 |.fnc _,cs,us,y,x,look,look',L,hu,hp,hc,ho,_,_,_=>by injection hu with hu;subst hu;obtain rfl:=o9 hp;obtain⟨_,rfl⟩:=ho;exact⟨λ_=>.st,(λk hk=>by cases hk),λ_ _=>rfl,λq hq=>by simp[aF]at hq⟩
 |.err,cs,us,y,x,look,look',L,hu,hp,hc,ho,_,_,_=>by cases hu
 |.str,cs,us,y,x,look,look',L,hu,hp,hc,ho,_,_,_=>by injection hu with hu;subst hu;obtain rfl:=l5 hp;obtain⟨_,rfl⟩:=ho;exact⟨λ_=>.st,(λk hk=>by cases hk),λ_ _=>rfl,λq hq=>by simp[aF]at hq⟩
 |.sl e t,cs,us,y,x,look,look',L,hu,hp,hc,ho,hL,_,hw=>IP hu hc ho hL λq hq row hrow=>⟨hw q hq row hrow,by
   rcases vo (V:={ slot:=λ_=>.c .undef,box:=λ_=>none,row:=look }) (show iv look e t cs=some x from hp)with⟨rfl,_⟩|⟨r,row',rfl,h1,h2,_⟩;·simp[aF]at hq
   ·have:q=r:=by simpa[aF]using hq
    subst this;have h3:look q=some row':=h1;rw[hrow]at h3;injection h3 with h3;subst h3;exact h2⟩
 |.pair t1 t2,cs,us,y,x,look,look',L,hu,hp,hc,ho,hL,hn,hw=>by
  simp only[pA]at hu;split at hu
  ·rename_i l1 hl1;obtain⟨p1,p2⟩:=dK hp;obtain⟨L1,L2,rfl,o1,o2⟩:=zIO ho;obtain⟨hn1,hn2,hn3⟩:=List.nodup_append.1 hL;rw[AZ t1.nc]at hn hw ⊢;obtain⟨qn1,qn2,qn3⟩:=List.nodup_append.1 hn;obtain⟨f1,W1⟩:=wi hl1 p1 (hc.take _) o1 hn1 qn1 λq hq=>hw q (List.mem_append_left _ hq);have hsame:∀q∈aF (cs.drop t1.nc),l1 q=look q:=λq hq=>W1.other q λh'=>qn3 q h' q hq rfl;have p2':dk l1 t2 (cs.drop t1.nc)=some x.2:=by rw[<-p2];exact wh hsame
   obtain⟨f2,W2⟩:=wi hu p2' (hc.drop _) o2 hn2 qn2 λq hq row hr=>hw q (List.mem_append_right _ hq) row (by rw[<-hsame q hq];exact hr);refine⟨λk=>if k∈L1 then f1 k else f2 k,λk hk=>?_,λq hq=>?_,λq hq=>?_⟩
   ·rcases List.mem_append.1 hk with hk|hk;·obtain⟨q,k1,k2⟩:=W1.lab k hk;exact⟨q,List.mem_append_left _ k1,by simpa[hk]using k2⟩
    ·have hne:k∉L1:=λh'=>hn3 k h' k hk rfl;obtain⟨q,k1,k2⟩:=W2.lab k hk;exact⟨q,List.mem_append_right _ k1,by simpa[hne]using k2⟩
   ·rw[W2.other q λh'=>hq (List.mem_append_right _ h'),W1.other q λh'=>hq (List.mem_append_left _ h')]
   ·rcases List.mem_append.1 hq with hq|hq;·obtain⟨row,row',k1,k2,k3,k4,k5⟩:=W1.row q hq;refine⟨row,row',k1, ?_,k3,k4,λlab2 hl=>k5 lab2 λk hk=>(hl k (List.mem_append_left _ hk)).trans (if_pos hk)⟩;rw[W2.other q λh'=>qn3 q hq q h' rfl];exact k2
    ·obtain⟨row,row',k1,k2,k3,k4,k5⟩:=W2.row q hq;exact⟨row,row',by rw[<-hsame q hq];exact k1,k2,k3,k4,λlab2 hl=>k5 lab2 λk hk=>(hl k (List.mem_append_right _ hk)).trans (if_neg (λh'=>hn3 k h' k hk rfl))⟩
  ·cases hu
end
def fQ:Bool->SV->Option (List af)
 |true,.agg l=>some l
 |false,.c x=>some [x]
 |_,_=>none
def gq(bad:List Nat)(look:Nat->Option ac):(ps:List PT)->List SV->Option (an ps)
 |[],[]=>some ()
 |p::ps,s::ss=>match fQ p.agg s with
  |some cs=>dJ (cond p.io (dk look p.t cs) (py bad look p.t cs)) (gq bad look ps ss)
  |none=>none
 |[],_::_=>none
 |_::_,[]=>none
def eT:List PT->List SV->List af
 |p::ps,s::ss=>cond p.io (match fQ p.agg s with|some cs=>cs|none=>[]) (eT ps ss)
 |_,_=>[]
def mh:List (Nat×ac)->(Nat->Option ac)->Option (Nat->Option ac)
 |[],look=>some look
 | (r,row)::l,look=>match look r with
  |none=>mh l (am look r (some row))
  |some _=>none
def cr(d:Nat):(rs:List PT)->an rs->Nat->List (Bool×List af)×List (Nat×ac)×Nat
 |[],_,j=>([],[],j)
 |r::rs,Y,j=>match eF r.io d r.t Y.1 j with
  | (c1,r1,j1)=>match cr d rs Y.2 j1 with
   | (cs,r2,j2)=>((r.agg,c1)::cs,r1++r2,j2)
def nA:List (Bool×List af)->SV
 |[(true,l)]=>.agg l
 |[(false,[c])]=>.c c
 |[(false,l)]=>.agg l
 |l=>.tup l
def fh(qs:List Nat):af->af
 |.sn e t xs (some q)=>cond (bq q qs) .undef (.sn e t xs (some q))
 |.full e t xs (some q)=>cond (bq q qs) .undef (.full e t xs (some q))
 |.selt t x (some q) f=>cond (bq q qs) .undef (.selt t x (some q) f)
 |c=>c
def A3(p:PT)(s:SV){A:Type}(next:A->(Nat->Option ac)->Option (Nat->Option ac)):cond p.io p.t.den A->(Nat->Option ac)->Option (Nat->Option ac) :=
 match p with
 |⟨t,agg,true⟩=>λy look=>match fQ agg s with
  |some cs=>pA t cs y look
  |none=>none
 |⟨t,agg,false⟩=>λy look=>next y look
def nB:(ps:List PT)->List SV->cL ps->(Nat->Option ac)->Option (Nat->Option ac)
 |[],_,_,look=>some look
 |p::ps,s::ss,y,look=>A3 p s (nB ps ss) y look
 |_::_,[],_,look=>none
def St.withRow(V:St)(look:Nat->Option ac):St:=⟨V.slot,V.box,look⟩
def gQ(qs:List Nat)(V:St):St:=match qs with
 |[]=>V
 |q::qs=>V.mapc (fh (q::qs))
def wj(en:a8)(V:St)(ss:List SV):Option (an en.sig.ps) :=
 cond (dA en.sig.ps&&dq (aF (eT en.sig.ps ss))) (gq (aF (eT en.sig.ps ss)) V.row en.sig.ps ss) none
def pB(en:a8)(V:St)(dst:Option Nat)(qs:List Nat)(look:Nat->Option ac)(Y:an en.sig.rs):Option St :=
 match dst with
 |some d=>match cr d en.sig.rs Y 0 with
  | (cs,rows,_)=>match mh rows look with
   |some look=>some (((gQ qs V).withRow look).put d (nA cs))
   |none=>none
 |none=>some ((gQ qs V).withRow look)
def wk(en:a8)(V:St)(dst:Option Nat)(ss:List SV)(r:cL en.sig.ps×an en.sig.rs):Option St :=
 match nB en.sig.ps ss r.1 V.row with
 |some look=>pB en V dst (aF (eT en.sig.ps ss)) look r.2
 |none=>none
section
variable {P : Program} {V V' : St} {E E' : aM} {w w' : World} {w0 : World} {lab0 : Nat → ay} {oo : Nat → Value} {n : Nat} {a : Act} [DC]
def mi{agg:Bool}{s:SV}{cs:List af}{v:Value}(h:fQ agg s=some cs)(hs:aK V E w s v):∃us,fB agg v us/\ai (aj V E w) cs us:=by
 unfold fQ at h;split at h;·injection h with h;subst h;obtain⟨arr,e,h⟩:=hs;exact⟨arr.toList,⟨arr,e,rfl⟩,h⟩
 ·injection h with h;subst h;exact⟨[v],rfl,hs,trivial⟩
 ·cases h
def fB.uniq{agg:Bool}{v:Value}{us us':List Value}(h:fB agg v us)(h':fB agg v us'):us=us':=by
 cases agg;·exact(show us=[v]from h).trans (show us'=[v]from h').symm
 ·obtain⟨arr,e,rfl⟩:=h;obtain⟨arr',e',rfl⟩:=h';rw[e]at e';injection e' with e';rw[e']
def A4(h:R w0 lab0 oo n V E a w){bad:List Nat}{L:List Nat}(hL:∀k,fP E.lab bad k->k∉L):∀{ps:List PT}{ss:List SV}{vs:List Value}{X:an ps},b7 ps=true->gq bad V.row ps ss=some X->ai (aK V E w) ss vs->dW w L ps vs X
 |[],[],[],_,_,_,_=>trivial
 |p::ps,s::ss,v::vs,X,hn,hp,hs=>by
  simp only[gq]at hp;split at hp;·rename_i cs hcs;obtain⟨h1,h2⟩:=dK hp;simp only[b7,List.all_cons,Bool.and_eq_true,Bool.not_eq_true']at hn;rw[hn.1]at h1;obtain⟨us,k1,k2⟩:=mi hcs hs.1;refine⟨⟨us,k1, ?_⟩,A4 h hL hn.2 h2 hs.2⟩;rw[hn.1];exact(me h h1 k2).mono λk hk=>hL k hk.1
  ·cases hp
 |[],[],_::_,_,_,_,hs=>hs.elim
 |[],_::_,_,_,_,hp,_=>by cases hp
 |_::_,[],_,_,_,hp,_=>by cases hp
 |_::_,_::_,[],_,_,_,hs=>hs.elim
structure sd(B:Nat)(L0:List Nat)(look look':Nat->Option ac)(qs:List Nat)(L:List Nat)(E:aM)(w':World)(f:Nat->ay):Prop where
 other:∀q,q∉qs->look' q=look q
 row:∀q∈qs,∃row row',look q=some row/\look' q=some row'/\row'.t=row.t/\row'.xs.length=row.xs.length/\∀lab2:Nat->ay,(∀k∈L,lab2 k=f k)->(∀k,k<B->k∉L0->k∉L->lab2 k=E.lab k)->bP w' lab2 q row' (E.rv q)
def nz.two{B:Nat}{L0:List Nat}{look look':Nat->Option ac}{qs L:List Nat}{f:Nat->ay}(h:nz look look' qs L E w' f):sd B L0 look look' qs L E w' f :=
 ⟨h.other,λq hq=>by obtain⟨row,row',h1,h2,h3,h4,h5⟩:=h.row q hq;exact⟨row,row',h1,h2,h3,h4,λlab2 hl _=>h5 lab2 hl⟩⟩
structure A5(V:St)(E:aM)(w:World)(qs:List Nat)(L:List Nat):Prop where
 nodup:L.Nodup
 lt:∀k∈L,k<w.heap.size
 lab:∀k∈L,∃q∈qs,dr E.lab q k
def A6(h:R w0 lab0 oo n V E a w):∀{ps:List PT}{ss:List SV}{vs:List Value}{X:an ps},dA ps=true->dq (aF (eT ps ss))=true->gq (aF (eT ps ss)) V.row ps ss=some X->ai (aK V E w) ss vs ->
  ∃L,A5 V E w (aF (eT ps ss)) L/\dW w L ps vs X/\(b7 ps=true->L=[]) /\
   (∀{y:cL ps}{look':Nat->Option ac}{w':World}{L':List Nat},nB ps ss y V.row=some look'->kH w' L' ps vs y->L'.Nodup->∃f,nz V.row look' (aF (eT ps ss)) L' E w' f):=by
 intro ps ss vs X h1 hn hp hs;have key:∀(bad:List Nat) {ps:List PT}{ss:List SV}{vs:List Value}{X:an ps},dA ps=true->bad=aF (eT ps ss)->bad.Nodup->gq bad V.row ps ss=some X->ai (aK V E w) ss vs ->
   ∃L,A5 V E w bad L/\(∀L2:List Nat,(∀k,fP E.lab bad k->k∉L2)->(b7 ps=false->L2=L)->dW w L2 ps vs X)/\(b7 ps=true->L=[]) /\
   (∀{y:cL ps}{look':Nat->Option ac}{w':World}{L':List Nat},nB ps ss y V.row=some look'->kH w' L' ps vs y->L'.Nodup->∃f,nz V.row look' bad L' E w' f):=by
  intro bad ps;induction ps with
  |nil =>
   intro ss vs X _ hb _ hp hs;cases ss with
   |nil=>cases vs with
    |nil =>subst hb;refine⟨[],⟨List.nodup_nil,(λk hk=>by cases hk),λk hk=>by cases hk⟩,λ_ _ _=>trivial,λ_=>rfl,λ{y look' w' L'} hu hi _=>?_⟩;injection hu with hu;subst hu;obtain rfl:L'=[]:=hi;exact⟨λ_=>.st,(λk hk=>by cases hk),λ_ _=>rfl,λq hq=>by simp[eT,aF]at hq⟩
    |cons _ _=>exact hs.elim
   |cons _ _=>cases hp
  |cons p ps ih =>
   intro ss vs X h1 hb hbn hp hs;cases ss with
   |nil=>cases hp
   |cons s ss=>cases vs with
    |nil=>exact hs.elim
    |cons v vs =>
     simp only[gq]at hp;split at hp
     ·rename_i cs hcs;obtain⟨g1,g2⟩:=dK hp;obtain⟨us,k1,k2⟩:=mi hcs hs.1;obtain⟨t,agg,io⟩:=p;cases io;·simp only[dA,cond_false]at h1;simp only[eT,cond_false]at hb;simp only[cond_false]at g1;obtain⟨L,i1,i2,i3,i4⟩:=ih h1 hb hbn g2 hs.2;refine⟨L,i1,λL2 hL2 hL2'=>⟨⟨us,k1,(me h g1 k2).mono λk hk=>hL2 k hk.1⟩,i2 L2 hL2 (λhf=>hL2' (by simpa[b7]using hf))⟩,λhf=>i3 (by simpa[b7]using hf),λ{y look' w' L'} hu hi hL'=>?_⟩;exact i4 hu hi hL'
      ·simp only[dA,cond_true]at h1;simp only[eT,cond_true]at hb;simp only[]at hcs;rw[hcs]at hb;simp only at hb;subst hb;simp only[cond_true]at g1;obtain⟨L,o1,o2,o3⟩:=gl h g1 k2 hbn;refine⟨L,⟨o2,o1.lt,o3⟩,λL2 hL2 hL2'=>⟨⟨us,k1, ?_⟩,A4 h hL2 h1 g2 hs.2⟩,λhf=>by simp[b7]at hf,λ{y look' w' L'} hu hi hL'=>?_⟩;·rw[hL2' (by simp[b7])];exact o1
       ·obtain⟨us',j1,j2⟩:=(hi:∃cs,fB agg v cs/\aE w' t L' cs y);have:=fB.uniq k1 j1;subst this;simp only[nB,A3,hcs]at hu;refine wi hu g1 k2 j2 hL' hbn λq hq row hrow=>(h.rows q row hrow).was
     ·cases hp
 obtain⟨L,i1,i2,i3,i4⟩:=key _ h1 rfl (iw hn) hp hs;refine⟨L,i1,i2 L (λk hk hkL=>?_) (λ_=>rfl),i3,i4⟩;obtain⟨q,hq,ho⟩:=i1.lab k hkL;exact hk q hq ho
def se:∀{l:List (Nat×ac)}{look look':Nat->Option ac},mh l look=some look'->(∀p∈l,look p.1=none/\look' p.1=some p.2)/\(∀r,(∀p∈l,p.1≠r)->look' r=look r)
 |[],look,look',h=>by injection h with h;subst h;exact⟨(λp hp=>by cases hp),λ_ _=>rfl⟩
 | (r,row)::l,look,look',h=>by
  simp only[mh]at h;split at h
  ·rename_i hr;obtain⟨g1,g2⟩:=se h;refine⟨λp hp=>?_,λq hq=>?_⟩
   ·rcases List.mem_cons.1 hp with rfl|hp
    ·refine⟨hr, ?_⟩;by_cases hex:∃p∈l,p.1=r;·obtain⟨p',hp',e'⟩:=hex;have:=(g1 p' hp').1;rw[e',aU]at this;cases this
     ·rw[g2 r λp hp e=>hex ⟨p,hp,e⟩,aU]
    ·obtain⟨k1,k2⟩:=g1 p hp;refine⟨?_,k2⟩;by_cases e:p.1=r;·rw[e,aU]at k1;cases k1
     ·rwa [ba _ _ e]at k1
   ·rw[g2 q λp hp=>hq p (List.mem_cons_of_mem _ hp),ba];exact λe=>hq (r,row) List.mem_cons_self e.symm
  ·cases h
def sf(σ2:St)(E2:aM)(w:World):List (Bool×List af)->List Value->Prop :=
 ai λp u=>∃us,fB p.1 u us/\ai (aj σ2 E2 w) p.2 us
def sh(d:Nat):∀{rs:List PT}{Y:an rs}{j:Nat},j<=(cr d rs Y j).2.2/\∀p∈(cr d rs Y j).2.1,∃i,j<=i/\i<(cr d rs Y j).2.2/\p.1=aT d i
 |[],_,j=>⟨Nat.le_refl _,λp hp=>by simp[cr]at hp⟩
 |r::rs,Y,j=>by
  have h1:=wd r.io d (t:=r.t) (y:=Y.1) (j:=j);have h2:=sh d (rs:=rs) (Y:=Y.2) (j:=(eF r.io d r.t Y.1 j).2.2);refine⟨Nat.le_trans h1.1 h2.1,λp hp=>?_⟩;simp only[cr,List.mem_append]at hp;rcases hp with hp|hp;·obtain⟨i,k1,k2,k3⟩:=h1.2 p hp;exact⟨i,k1,Nat.lt_of_lt_of_le k2 h2.1,k3⟩
  ·obtain⟨i,k1,k2,k3⟩:=h2.2 p hp;exact⟨i,Nat.le_trans h1.1 k1,k2,k3⟩
def sj(d:Nat):∀{rs:List PT}{vs:List Value}{Y:an rs}{L:List Nat}{j:Nat},ma w rs vs Y L->L.Nodup ->
  ∃(f:Nat->ay) (rvf:Nat->Value),(∀k∈L,∃i,j<=i/\i<(cr d rs Y j).2.2/\(f k=.row (aT d i)\/f k=.inn (aT d i))) /\
   ∀(σ2:St) (E2:aM),(∀k∈L,E2.lab k=f k)->(∀p∈(cr d rs Y j).2.1,E2.rv p.1=rvf p.1) ->
   (∀p∈(cr d rs Y j).2.1,σ2.row p.1=some p.2)->sf σ2 E2 w (cr d rs Y j).1 vs/\∀p∈(cr d rs Y j).2.1,bP w E2.lab p.1 p.2 (E2.rv p.1)
 |[],[],_,L,j,h,_=>by obtain rfl:L=[]:=h;exact⟨λ_=>.st,λ_=>undef,(λ_ h=>by cases h),λ_ _ _ _ _=>⟨trivial,λp hp=>by simp[cr]at hp⟩⟩
 |[],_::_,_,L,j,h,_=>h.elim
 |_::_,[],_,L,j,h,_=>h.elim
 |r::rs,v::vs,Y,L,j,h,hn=>by
  obtain⟨cs,L1,L2,rfl,hcv,h1,hz,h2⟩:=h;obtain⟨hn1,hn2,hn3⟩:=List.nodup_append.1 hn;obtain⟨f1,v1,a1,b1⟩:=IN r.io d (j:=j) h1 hn1 hz;obtain⟨f2,v2,a2,b2⟩:=sj d (j:=(eF r.io d r.t Y.1 j).2.2) h2 hn2;have m1:=(wd r.io d (t:=r.t) (y:=Y.1) (j:=j)).1;have m2:=(sh d (rs:=rs) (Y:=Y.2) (j:=(eF r.io d r.t Y.1 j).2.2)).1;have hname:∀i,i<(eF r.io d r.t Y.1 j).2.2->∃i',i'<(eF r.io d r.t Y.1 j).2.2/\aT d i=aT d i':=λi hi=>⟨i,hi,rfl⟩;refine⟨λk=>if k∈L1 then f1 k else f2 k,λq=>if ∃i',i'<(eF r.io d r.t Y.1 j).2.2/\q=aT d i' then v1 q else v2 q,λk hk=>?_,λσ2 E2 hl hv hr=>?_⟩
  ·rcases List.mem_append.1 hk with hk|hk;·obtain⟨i,k1,k2,k3⟩:=a1 k hk;exact⟨i,k1,Nat.lt_of_lt_of_le k2 m2,by simpa[hk]using k3⟩
   ·have hne:k∉L1:=λh'=>hn3 k h' k hk rfl;obtain⟨i,k1,k2,k3⟩:=a2 k hk;exact⟨i,Nat.le_trans m1 k1,k2,by simpa[hne]using k3⟩
  ·obtain⟨g1,g2⟩:=b1 σ2 E2 (λk hk=>(hl k (List.mem_append_left _ hk)).trans (if_pos hk)) (λp hp=>by obtain⟨i,i1,i2,i3⟩:=(wd r.io d).2 p hp;refine(hv p (by simp only[cr,List.mem_append];exact .inl hp)).trans (if_pos ?_);rw[i3];exact hname i i2) (λp hp=>hr p (by simp only[cr,List.mem_append];exact .inl hp));obtain⟨g3,g4⟩:=b2 σ2 E2 (λk hk=>(hl k (List.mem_append_right _ hk)).trans (if_neg (λh'=>hn3 k h' k hk rfl))) (λp hp=>by
    obtain⟨i,i1,i2,i3⟩:=(sh d).2 p hp;refine(hv p (by simp only[cr,List.mem_append];exact .inr hp)).trans (if_neg ?_);rintro ⟨i',h1,h2⟩
    have:=mf (i3.symm.trans h2);omega) (λp hp=>hr p (by simp only[cr,List.mem_append];exact .inr hp))
   refine⟨⟨⟨cs,hcv,g1⟩,g3⟩,λp hp=>?_⟩;simp only[cr,List.mem_append]at hp;rcases hp with hp|hp;·exact g2 p hp
   ·exact g4 p hp
def A7{σ2:St}{E2:aM}{cs:List (Bool×List af)}{vs:List Value}{v:Value}(h:sf σ2 E2 w cs vs)(hr:mb vs v)(hb:∀l,cs≠[(false,l)]\/∃c,l=[c]):aK σ2 E2 w (nA cs) v:=by
 have tup:v=.tuple vs.toArray->aK σ2 E2 w (.tup cs) v:=λe=>⟨vs.toArray,e,by
  refine ai.imp (λp u hp=>?_) (show ai (λ(p:Bool×List af) u=>∃us,fB p.1 u us/\ai (aj σ2 E2 w) p.2 us) cs vs from h);obtain⟨us,k1,k2⟩:=hp;obtain⟨b,l⟩:=p;cases b;·obtain rfl:us=[u]:=k1;exact k2
  ·obtain⟨arr,e,rfl⟩:=k1;exact⟨arr,e,k2⟩⟩
 unfold nA;split
 ·rename_i l;cases vs with
  |nil=>exact h.elim
  |cons u vs=>cases vs with
   |nil =>obtain rfl:v=u:=hr;obtain⟨us,⟨arr,e,rfl⟩,k2⟩:=h.1;exact⟨arr,e,k2⟩
   |cons _ _=>exact h.2.elim
 ·rename_i c;cases vs with
  |nil=>exact h.elim
  |cons u vs=>cases vs with
   |nil =>obtain rfl:v=u:=hr;obtain⟨us,k1,k2⟩:=h.1;obtain rfl:us=[v]:=k1;exact k2.1
   |cons _ _=>exact h.2.elim
 ·rename_i l hl;rcases hb l with h'|⟨c,rfl⟩;·exact absurd rfl h'
  ·exact absurd rfl (hl c)
 ·rename_i h1 h2 h3;refine tup ?_;unfold mb at hr;split at hr
  ·rename_i u;cases cs with
   |nil=>exact h.elim
   |cons p cs=>cases cs with
    |nil =>
     obtain⟨b,l⟩:=p;cases b;·exact absurd rfl (h3 l)
     ·exact absurd rfl (h1 l)
    |cons _ _=>exact h.2.elim
  ·exact hr
end
end Go.Fw
namespace Go.Fw
open Go.RowKit
section
variable {P : Program} {V V' : St} {E E' : aM} {w w' : World} {w0 : World} {lab0 : Nat → ay} {oo : Nat → Value} {n : Nat} {a : Act} {qs : List Nat} [DC]
def sm{lab:Nat->ay}{p:Option Nat}{k:Nat}(hp:∀q,p=some q->q∉qs)(h:lab k=bh p):fP lab qs k:=by
 cases p with
 |none=>exact nv h
 |some q=>exact sc (hp q rfl) (.inr h)
def aj.called(hk:∀k,k<w.heap.size->fP E.lab qs k->w'.heap[k]? = w.heap[k]?/\E'.lab k=E.lab k)
  (hrow:∀r row,V.row r=some row->∃row',V'.row r=some row'/\E'.rv r=E.rv r/\row'.t.nc=row.t.nc/\row.xs.length<=row'.xs.length)
  (hbox:∀b te cs,V.box b=some (te,cs)->∃cs',V'.box b=some (te,cs')/\cs'.length=cs.length) (hbb:E'.bb=E.bb) :
  ∀{c:af}{v:Value},aj V E w c v->aj V' E' w' (fh qs c) v:=by
 have rd:∀{p:Option Nat}{t:Ty}{cs:List Value}{x:t.den},(∀q,p=some q->q∉qs)->Rd w (λk=>E.lab k=bh p) t cs x->Rd w' (λk=>E'.lab k=bh p) t cs x:=by intro p t cs x hp h;refine(h.lt.frame λk hk' _=>(hk k hk'.2 (sm hp hk'.1)).1).mono λk hk'=>?_;rw[(hk k hk'.2 (sm hp hk'.1)).2];exact hk'.1
 have selt:∀{t:Ty}{x:t.den}{p:Option Nat}{f:Nat}{v:Value},(∀q,p=some q->q∉qs)->aj V E w (.selt t x p f) v->aj V' E' w' (.selt t x p f) v:=by
  intro t x p f v hp h;obtain⟨ad,cs,h1,h2,h3,h4,h5⟩:=h;have hb:∀j,(ad.add j).block=ad.block:=λj=>by unfold Addr.add;split<;>rfl
  have h0:0<cs.length:=by rw[h4.len];exact t.nc_pos
  have hlt:ad.block<w.heap.size:=by have:=World.block_lt_of_cell? w (ad.add 0) (h5 0 cs[0] (by simp));rwa [hb]at this
  have hkk:=hk ad.block hlt (sm hp h3);refine⟨ad,cs,h1,h2,by rw[hkk.2];exact h3,rd hp h4,λj u hu=>?_⟩;rw[World.cell?_of_block (w:=w) (by rw[hb];exact hkk.1)];exact h5 j u hu
 intro c v h;cases c with
 |undef=>trivial
 |int _ _=>exact h
 |bool _=>exact h
 |str _=>exact h
 |err _=>exact h
 |bor v0 e t xs=>exact⟨h.1,rd (p:=none) (λq hq=>by cases hq) h.2⟩
 |nil=>exact h
 |sn e t xs p =>
  cases p with
  |none=>exact rd (p:=none) (λq hq=>by cases hq) h
  |some q =>
   simp only[fh];cases hm:bq q qs;·exact rd (p:=some q) (λr hr=>by injection hr with hr;subst hr;exact λhx=>by rw[gi.2 hx]at hm;cases hm) h
   ·trivial
 |full e t xs p =>
  cases p with
  |none=>exact⟨rd (p:=none) (λq hq=>by cases hq) h.1,h.2⟩
  |some q =>
   simp only[fh];cases hm:bq q qs;·exact⟨rd (p:=some q) (λr hr=>by injection hr with hr;subst hr;exact λhx=>by rw[gi.2 hx]at hm;cases hm) h.1,h.2⟩
   ·trivial
 |own r =>obtain⟨rfl,h1,h2⟩:=h;obtain⟨row,hr⟩:=Option.isSome_iff_exists.1 h1;obtain⟨row',k1,k2,_⟩:=hrow r row hr;exact⟨k2.symm,by rw[k1];rfl,h2⟩
 |part r lo n =>obtain⟨row,A,c,h1,h2,h3,h4,h5,h6,h7,h8⟩:=h;obtain⟨row',g1,g2,g3,g4⟩:=hrow r row h1;refine⟨row',A,c,g1,h2,h3,by omega,h5,h6,h7,λhn=>?_⟩;rw[g2,g3];exact h8 hn
 |box b f =>obtain⟨rfl,te,cs,h1,h2⟩:=h;obtain⟨cs',g1,g3⟩:=hbox b te cs h1;exact⟨by rw[hbb],te,cs',g1,by omega⟩
 |mp b =>obtain⟨rfl,te,cs,h1⟩:=h;obtain⟨cs',g1,_⟩:=hbox b te cs h1;exact⟨by rw[hbb],te,cs',g1⟩
 |mset t xs=>exact h
 |elt r i f =>obtain⟨row,g,n,c,h1,h2,h3,h4,h5,h6⟩:=h;obtain⟨row',g1,g2,g3,g4⟩:=hrow r row h1;exact⟨row',g,n,c,g1,by rw[g2];exact h2,h3,by omega,by rw[g3];exact h5,by rw[g3];exact h6⟩
 |selt t x p f =>
  cases p with
  |none=>exact selt (p:=none) (λq hq=>by cases hq) h
  |some q =>
   simp only[fh];cases hm:bq q qs;·exact selt (p:=some q) (λr hr=>by injection hr with hr;subst hr;exact λhx=>by rw[gi.2 hx]at hm;cases hm) h
   ·trivial
 |fn f caps =>
  obtain⟨rfl,h⟩:=h;refine⟨?_,λp hp=>?_⟩;·rw[hbb]
  ·obtain⟨te,cs,h1,h2⟩:=h p hp;obtain⟨cs',g1,g3⟩:=hbox _ _ _ h1;exact⟨te,cs',g1,by omega⟩
def wl:∀c:af,fh [] c=c
 |.mp _=>rfl
 |.mset _ _=>rfl
 |.sn _ _ _ (some _)=>rfl
 |.full _ _ _ (some _)=>rfl
 |.selt _ _ (some _) _=>rfl
 |.sn _ _ _ none=>rfl
 |.full _ _ _ none=>rfl
 |.selt _ _ none _=>rfl
 |.undef=>rfl
 |.int _ _=>rfl
 |.bool _=>rfl
 |.str _=>rfl
 |.err _=>rfl
 |.bor _ _ _ _=>rfl
 |.nil=>rfl
 |.own _=>rfl
 |.part _ _ _=>rfl
 |.box _ _=>rfl
 |.elt _ _ _=>rfl
 |.fn _ _=>rfl
def so{l:List af}{f:af->af}(hf:∀c,f c=c):l.map f=l:=by
 induction l with
 |nil=>rfl
 |cons c l ih=>rw[List.map_cons,hf,ih]
def SV.map_id{f:af->af}(hf:∀c,f c=c):∀s:SV,s.map f=s
 |.c x=>by simp[SV.map,hf]
 |.agg l=>by simp[SV.map,so hf]
 |.tup l=>by
  simp only[SV.map];congr 1;induction l with
  |nil=>rfl
  |cons p l ih=>rw[List.map_cons,so hf,ih]
def IR(V:St)(t:Nat):(gQ qs V).slot t=(V.slot t).map (fh qs):=by
 cases qs with
 |nil=>exact(SV.map_id wl _).symm
 |cons q qs=>rfl
def A8(V:St)(b:Nat):(gQ qs V).box b=match V.box b with|some (te,cs)=>some (te,cs.map (fh qs))|none=>none:=by
 cases qs with
 |nil =>
  show V.box b=_;cases V.box b with
  |none=>rfl
  |some p=>simp[so wl]
 |cons q qs=>rfl
def ai.mapl{α β γ:Type}{Q:α->β->Prop}{Q':γ->β->Prop}{f:α->γ}(hf:∀a b,Q a b->Q' (f a) b):∀{as:List α}{bs:List β},ai Q as bs->ai Q' (as.map f) bs
 |[],[],_=>trivial
 |_::_,_::_,h=>⟨hf _ _ h.1,ai.mapl hf h.2⟩
 |[],_::_,h=>h.elim
 |_::_,[],h=>h.elim
def aK.mapl{f:af->af}(hf:∀c v,aj V E w c v->aj V' E' w' (f c) v):∀{s:SV}{v:Value},aK V E w s v->aK V' E' w' (s.map f) v
 |.c _,_,h=>hf _ _ h
 |.agg l,_,h=>by obtain⟨arr,e,h⟩:=h;exact⟨arr,e,h.mapl hf⟩
 |.tup l,_,h=>by
  obtain⟨arr,e,h⟩:=h;refine⟨arr,e,h.mapl λp u h=>?_⟩;obtain⟨b,l⟩:=p;cases b;·exact ai.mapl hf (show ai (aj V E w) l [u]from h)
  ·obtain⟨ar,e,h⟩:∃ar:Array Value,u=.agg ar/\ai (aj V E w) l ar.toList:=h;exact(⟨ar,e,h.mapl hf⟩:∃ar:Array Value,u=.agg ar/\ai (aj V' E' w') (l.map f) ar.toList)
def bP.called{lab lab':Nat->ay}{r:Nat}{row:ac}{v:Value}(hk:∀k,k<w.heap.size->fP lab qs k->w'.heap[k]? = w.heap[k]?/\lab' k=lab k)(hr:r∉qs)(h:bP w lab r row v):bP w' lab' r row v:=by
 obtain⟨css,h1,h2,h3,h4⟩:=h;have hlt:∀k,v.ownBlock=some k->k<w.heap.size:=λk hk=>(h1.lt k hk).2;have hb:∀k,v.ownBlock=some k->w'.heap[k]? = w.heap[k]?/\lab' k=lab k:=λk h=>hk k (hlt k h) (sc hr (.inl (h2 k h)));refine⟨css,lO (λk h=>(hb k h).1) h1,λk h=>by rw[(hb k h).2];exact h2 k h, ?_,h4⟩;cases hd:row.deep;·rw[hd]at h3;exact ai.imp (λc y h=>((h.lt.frame λk hk' _=>(hk k hk'.2 (nv hk'.1)).1)).mono λk hk'=>by rw[(hk k hk'.2 (nv hk'.1)).2];exact hk'.1) h3
 ·rw[hd]at h3;obtain⟨Ls,k1,k2,k3⟩:=h3;have hL:∀k∈Ls.flatten,k<w.heap.size:=λk hk=>by obtain⟨l,hl,hk⟩:=List.mem_flatten.1 hk;have:aP (λ(l:List Nat) (_:List Value) (_:row.t.den)=>∀k∈l,k<w.heap.size) Ls css row.xs:=k1.imp λ_ _ _ ho=>ho.lt;exact jM this l hl k hk
  have hs:∀k∈Ls.flatten,w'.heap[k]? = w.heap[k]?/\lab' k=lab k:=λk h=>hk k (hL k h) (sc hr (.inr (k3 k h)));exact⟨Ls,k1.imp_mem λl c y hl ho=>ho.frame λk h=>(hs k (List.mem_flatten.2 ⟨l,hl,h⟩)).1,k2,λk h=>by rw[(hs k h).2];exact k3 k h⟩
def R.called(h:R w0 lab0 oo n V E a w)(hk:∀k,k<w.heap.size->fP E.lab qs k->w'.heap[k]? = w.heap[k]?/\E'.lab k=E.lab k)
  (ho:w'.os=w.os/\Tp w w'/\w'.output=w.output) (hs:w.heap.size<=w'.heap.size) (hbb:E'.bb=E.bb) {look:Nat->Option ac}
  (hrow:∀r row,V.row r=some row->∃row',look r=some row'/\E'.rv r=E.rv r/\row'.t.nc=row.t.nc/\row.xs.length<=row'.xs.length)
  (hrel:∀r row,look r=some row->(r∉qs/\V.row r=some row)\/bP w' E'.lab r row (E'.rv r)) :
  R w0 lab0 oo n ((gQ qs V).withRow look) E' a w':=by
 have hbox:∀b te cs,V.box b=some (te,cs)->∃cs',((gQ qs V).withRow look).box b=some (te,cs')/\cs'.length=cs.length:=λb te cs hb =>⟨cs.map (fh qs),by show(gQ qs V).box b=_;rw[A8,hb],by simp⟩;have hc:∀c v,aj V E w c v->aj ((gQ qs V).withRow look) E' w' (fh qs c) v:=λc v h=>aj.called hk hrow hbox hbb h;refine⟨h.bound,h.size,h.defers,λt=>?_,λb te cs hb=>?_,λr row hr=>?_, ?_⟩;·show aK _ E' w' ((gQ qs V).slot t) _;rw[IR];exact(h.slots t).mapl hc
 ·have hb':(gQ qs V).box b=some (te,cs):=hb;rw[A8]at hb';split at hb'
  ·rename_i te' cs' hb2;injection hb' with hb';injection hb' with e1 e2;subst e1 e2;obtain⟨arr,k1,k2,k3,k4⟩:=h.boxes b _ _ hb2;have hlt:=k1.lt;have hsp:fP E.lab qs (E.bb b):=λq _ hq=>by rcases hq with hq|hq<;>rw[k2]at hq<;>cases hq
   obtain⟨j1,j2⟩:=hk _ hlt hsp;exact⟨arr,by rw[hbb,j1];exact k1,by rw[hbb,j2];exact k2,k3.mapl hc,k4⟩
  ·cases hb'
 ·rcases hrel r row hr with⟨h1,h2⟩|h2;·obtain⟨row',_,g2,_⟩:=hrow r row h2;rw[g2];exact(h.rows r row h2).called hk h1
  ·exact h2
 ·refine⟨ho.1.trans h.same.os,ho.2.1.trans h.same.tape,ho.2.2.trans h.same.output,Nat.le_trans h.same.size hs,λk hk' hl=>?_,λk hk' hl=>?_⟩;·obtain⟨g1,g2⟩:=h.same.old k hk' hl;obtain⟨j1,j2⟩:=hk k (Nat.lt_of_lt_of_le hk' h.same.size) (nv g1);exact⟨by rw[j2];exact g1,by rw[j1];exact g2⟩
  ·obtain⟨g1,g2⟩:=h.same.gone k hk' hl;obtain⟨j1,j2⟩:=hk k (Nat.lt_of_lt_of_le hk' h.same.size) (AX g1);exact⟨by rw[j2];exact g1,by rw[j1];exact g2⟩
def pC(d:Nat):∀{t:Ty}{y:t.den}{j:Nat},(aJ d t y j).1.length=t.nc
 |.int _,_,_=>rfl
 |.bool,_,_=>rfl
 |.fnc _,_,_=>rfl
 |.str,_,_=>rfl
 |.err,_,_=>rfl
 |.sl _ _,_,_=>rfl
 |.pair a b,x,j=>by simp only[aJ,List.length_append,Ty.nc];rw[pC d,pC d]
def IS(io:Bool)(d:Nat){t:Ty}{y:t.den}{j:Nat}:(eF io d t y j).1.length=t.nc:=by
 rcases wb io d t y j with⟨e,s,rfl,h⟩|⟨_,h⟩;·rw[h];rfl
 ·rw[h];exact pC d
def A9{d:Nat}{rs:List PT}{Y:an rs}{j j':Nat}{cs:List (Bool×List af)}{rows:List (Nat×ac)}(hfl:∀p∈rs,p.agg=false->p.t.nc=1)(h:cr d rs Y j=(cs,rows,j'))(l:List af):cs≠[(false,l)]\/∃c,l=[c]:=by
 by_cases e:cs=[(false,l)]
 ·right;subst e;cases rs with
  |nil=>simp[cr]at h
  |cons r rs =>
   simp only[cr,Prod.mk.injEq,List.cons.injEq]at h;have h1:=h.1.1.2;have h2:=hfl r List.mem_cons_self h.1.1.1;have h3:l.length=1:=by rw[<-h1,IS,h2]
   match l,h3 with
   |[c],_=>exact⟨c,rfl⟩
 ·exact .inl e
def Ba{f:Nat}{en:a8}(hΓ:px P w0 lab0 f en)(h:R w0 lab0 oo n V E a w){args:Array Value}{L:List Nat}{X:an en.sig.ps}(i2:dW w L en.sig.ps args.toList X)(i3:b7 en.sig.ps=true->L=[])(i1:L.Nodup)(i1':∀k∈L,k<w.heap.size)
  (hL:∀k,fP E.lab qs k->k∉L) {look:Nat->Option ac}{r:cL en.sig.ps×an en.sig.rs}
  (hW:∀{w':World}{L':List Nat},kH w' L' en.sig.ps args.toList r.1->L'.Nodup->(∀k∈L',k∈L\/w.heap.size<=k)->(∀k,k<w.heap.size->k∉L->w'.heap[k]? = w.heap[k]?)->∃f,sd w.heap.size L V.row look qs L' E w' f)
  (hG:en.G X=some r) {dst:Option Nat} (hd:∀d,dst=some d->d<n) (hfl:∀p∈en.sig.rs,p.agg=false->p.t.nc=1) (hout:pB en V dst qs look r.2=some V') :
  cM P f args w λe w'=>∃v E',e=.returned v/\R w0 lab0 oo n V' E' (a.put dst v) w'/\(b7 en.sig.ps=true->bL w w'):=by
 refine cM.mono (hΓ w args L X r.1 r.2 i2 i3 i1 i1' hG (λk hk hl=>(h.same.old k hk hl).2) (λk hkL hq=>hL k (nv (h.same.old k hq.1 hq.2).1) hkL)) ?_;rintro e w' ⟨v,vs,L',Lr,rfl,A⟩
 obtain⟨nd1,nd2,nd3⟩:=List.nodup_append.1 A.nodup;have hout2:∀k,k<w.heap.size->k∉L->k∉Lr/\k∉L':=by
  intro k hk hkL;refine⟨λhr=>?_,λhl=>?_⟩
  ·rcases A.fresh k hr with h1|h1;·exact hkL h1
   ·omega
  ·rcases A.from_ k hl with h1|h1;·exact hkL h1
   ·omega
 have hspare:∀k,k<w.heap.size->fP E.lab qs k->k∉L/\k∉Lr/\k∉L':=λk hk hsp=>⟨hL k hsp,hout2 k hk (hL k hsp)⟩;have hext:b7 en.sig.ps=true->bL w w':=λhn=>⟨A.os,A.tape,A.output,A.size,λk hk=>A.old k hk (by rw[i3 hn];simp)⟩;obtain⟨f1,W⟩:=hW A.io nd2 A.from_ A.old;have hold:∀q row,V.row q=some row->∃row',look q=some row'/\row'.t.nc=row.t.nc/\row'.xs.length=row.xs.length:=by
  intro q row hrow;by_cases hm:q∈qs;·obtain⟨ro,row',w1,w2,w3,w4,_⟩:=W.row q hm;rw[hrow]at w1;injection w1 with w1;subst w1;exact⟨row',w2,by rw[w3],w4⟩
  ·exact⟨row,by rw[W.other q hm];exact hrow,rfl,rfl⟩
 unfold pB at hout;split at hout
 ·rename_i d;split at hout;rename_i cs rows j hres;split at hout
  ·rename_i look2 hadd;injection hout with hout;subst hout;obtain⟨f2,rvf,c1,c2⟩:=sj d (j:=0) A.res nd1;rw[hres]at c1 c2;obtain⟨ad1,ad2⟩:=se hadd
   classical
   let E':aM:=⟨λk=>if k∈Lr then f2 k else if k∈L' then f1 k else E.lab k,λq=>if ∃p∈rows,p.1=q then rvf q else E.rv q,E.bb⟩;have hlabr:∀k∈Lr,E'.lab k=f2 k:=λk hk=>if_pos hk;have hlabl:∀k∈L',E'.lab k=f1 k:=λk hk=>(if_neg λh'=>nd3 k h' k hk rfl).trans (if_pos hk);have hlabo:∀k,k<w.heap.size->k∉L->k∉L'->E'.lab k=E.lab k:=λk hk h1 h2=>(if_neg (hout2 k hk h1).1).trans (if_neg h2);have hrvo:∀q,(∀p∈rows,p.1≠q)->E'.rv q=E.rv q:=λq hq=>if_neg λ⟨p,h1,h2⟩=>hq p h1 h2;have hlook:∀q row,look q=some row->∀p∈rows,p.1≠q:=λq row hq p hp e=>by have:=(ad1 p hp).1;rw[e,hq]at this;cases this
   have hR:R w0 lab0 oo n ((gQ qs V).withRow look2) E' a w':=by
    refine R.called (E':=E') (qs:=qs) h (λk hk hsp=>?_) ⟨A.os,A.tape,A.output⟩ A.size rfl (λq row hrow=>?_) (λq row hrow=>?_);·obtain⟨s1,s2,s3⟩:=hspare k hk hsp;exact⟨A.old k hk s1,(if_neg s2).trans (if_neg s3)⟩
    ·obtain⟨row',k1,k2,k3⟩:=hold q row hrow;exact⟨row',by rw[ad2 q (hlook q row' k1)];exact k1,hrvo q (hlook q row' k1),k2,by omega⟩
    ·by_cases hex:∃p∈rows,p.1=q;·obtain⟨p,hp,rfl⟩:=hex;have e2:=(ad1 p hp).2;rw[hrow]at e2;injection e2 with e2;subst e2;exact .inr ((c2 ⟨λ_=>.c .undef,λ_=>none,look2⟩ E' hlabr (λp' hp'=>if_pos ⟨p',hp',rfl⟩) (λp' hp'=>(ad1 p' hp').2)).2 p hp)
     ·have hne:∀p∈rows,p.1≠q:=λp hp e=>hex ⟨p,hp,e⟩;rw[ad2 q hne]at hrow;by_cases hm:q∈qs;·obtain⟨ro,row',w1,w2,w3,w4,w5⟩:=W.row q hm;rw[hrow]at w2;injection w2 with w2;subst w2;rw[hrvo q hne];exact .inr (w5 E'.lab hlabl hlabo)
      ·rw[W.other q hm]at hrow;exact .inl ⟨hm,hrow⟩
   refine⟨v,E',rfl,R.put hR (hd d rfl) (A7 (vs:=vs) (c2 _ E' hlabr (λp' hp'=>if_pos ⟨p',hp',rfl⟩) (λp' hp'=>(ad1 p' hp').2)).1 A.ret λl=>?_),hext⟩;exact A9 hfl hres l
  ·cases hout
 ·injection hout with hout;subst hout
  classical
  let E':aM:=⟨λk=>if k∈L' then f1 k else E.lab k,E.rv,E.bb⟩;have hlabl:∀k∈L',E'.lab k=f1 k:=λk hk=>if_pos hk;have hlabo:∀k,k<w.heap.size->k∉L->k∉L'->E'.lab k=E.lab k:=λk hk h1 h2=>if_neg h2;refine⟨v,E',rfl, ?_,hext⟩;show R w0 lab0 oo n _ E' a w';refine R.called (E':=E') (qs:=qs) h (λk hk hsp=>?_) ⟨A.os,A.tape,A.output⟩ A.size rfl (λq row hrow=>?_) (λq row hrow=>?_);·obtain⟨s1,s2,s3⟩:=hspare k hk hsp;exact⟨A.old k hk s1,if_neg s3⟩
  ·obtain⟨row',k1,k2,k3⟩:=hold q row hrow;exact⟨row',k1,rfl,k2,by omega⟩
  ·by_cases hm:q∈qs;·obtain⟨ro,row',w1,w2,w3,w4,w5⟩:=W.row q hm;rw[hrow]at w2;injection w2 with w2;subst w2;exact .inr (w5 E'.lab hlabl hlabo)
   ·rw[W.other q hm]at hrow;exact .inl ⟨hm,hrow⟩
def IT{f:Nat}{en:a8}(hΓ:px P w0 lab0 f en)(h:R w0 lab0 oo n V E a w){ss:List SV}{args:Array Value}(hs:ai (aK V E w) ss args.toList){X:an en.sig.ps}(hin:wj en V ss=some X)
  {r:cL en.sig.ps×an en.sig.rs} (hG:en.G X=some r) {dst:Option Nat} (hd:∀d,dst=some d->d<n) (hfl:∀p∈en.sig.rs,p.agg=false->p.t.nc=1) (hout:wk en V dst ss r=some V') :
  cM P f args w λe w'=>∃v E',e=.returned v/\R w0 lab0 oo n V' E' (a.put dst v) w'/\(b7 en.sig.ps=true->bL w w'):=by
 unfold wj at hin;cases hq:(dA en.sig.ps&&dq (aF (eT en.sig.ps ss)));·rw[hq]at hin;cases hin
 rw[hq]at hin;simp only[Bool.and_eq_true]at hq;simp only[cond_true]at hin;obtain⟨L,i1,i2,i3,i4⟩:=A6 h hq.1 hq.2 hin hs;unfold wk at hout;split at hout
 ·rename_i look hlook;refine Ba hΓ h i2 i3 i1.nodup i1.lt (λk hsp hkL=>?_) (λ{w' L'} hio hnd _ _=>?_) hG hd hfl hout;·obtain⟨q,q1,q2⟩:=i1.lab k hkL;exact hsp q q1 q2
  ·obtain⟨f1,W⟩:=i4 hlook hio hnd;exact⟨f1,W.two⟩
 ·cases hout
def jU:(t:Ty)->t.den->Nat->Option ((e:Nat×Ty)×List e.2.den)
 |.sl e t,xs,f=>cond (Nat.beq f 0) (some ⟨(e,t),xs⟩) none
 |.pair a b,x,f=>cond (Nat.blt f a.nc) (jU a x.1 f) (jU b x.2 (f-a.nc))
 |.int _,_,_=>none
 |.bool,_,_=>none
 |.fnc _,_,_=>none
 |.str,_,_=>none
 |.err,_,_=>none
def jV:(t:Ty)->t.den->Nat->(s:Ty)->List s.den->Option t.den
 |.sl e t,_,f,s,ys=>cond (Nat.beq f 0) (dj s t ys) none
 |.pair a b,x,f,s,ys=>cond (Nat.blt f a.nc) (match jV a x.1 f s ys with|some y=>some (y,x.2)|none=>none) (match jV b x.2 (f-a.nc) s ys with|some y=>some (x.1,y)|none=>none)
 |.int _,_,_,_,_=>none
 |.bool,_,_,_,_=>none
 |.fnc _,_,_,_,_=>none
 |.str,_,_,_,_=>none
 |.err,_,_,_,_=>none
def wm:∀{t:Ty}{L:List Nat}{c:List Value}{x:t.den}{f:Nat}{e:Nat×Ty}{ys:List e.2.den},aE w t L c x->jU t x f=some ⟨e,ys⟩ ->
  ∃(v:Value) (L1 Ls L2:List Nat),L=L1++(Ls++L2)/\c[f]? = some v/\aE w (.sl e.1 e.2) Ls [v] ys /\
   ∀{w':World}{Ls':List Nat}{ys':List e.2.den}{x':t.den},(∀k∈L1,w'.heap[k]? = w.heap[k]?)->(∀k∈L2,w'.heap[k]? = w.heap[k]?)->aE w' (.sl e.1 e.2) Ls' [v] ys'->jV t x f e.2 ys'=some x'->aE w' t (L1++(Ls'++L2)) c x'
 |.int _,_,_,_,_,_,_,_,h=>by cases h
 |.bool,_,_,_,_,_,_,_,h=>by cases h
 |.fnc _,_,_,_,_,_,_,_,h=>by cases h
 |.str,_,_,_,_,_,_,_,h=>by cases h
 |.err,_,_,_,_,_,_,_,h=>by cases h
 |.sl e0 t,L,c,x,f,e,ys,ho,h=>by
  simp only[jU]at h;cases hb:Nat.beq f 0;·rw[hb]at h;cases h
  ·rw[hb]at h;obtain rfl:=Nat.eq_of_beq_eq_true hb;simp only[cond_true,Option.some.injEq,Sigma.mk.injEq]at h;obtain⟨rfl,h⟩:=h;obtain rfl:=eq_of_heq h;obtain⟨v,css,Ls,rfl,h1,h2,h3⟩:=id ho;refine⟨v,[],L,[],by simp,rfl,ho,λ{w' Ls' ys' x'} _ _ ho' hs=>?_⟩;simp only[jV,hb,cond_true]at hs;obtain⟨e1,e2⟩:=gk hs;subst e2;simpa using ho'
 |.pair a b,L,c,x,f,e,ys,ho,h=>by
  obtain⟨c1,c2,L1,L2,rfl,rfl,o1,o2⟩:=ho;have hl:=o1.len;simp only[jU]at h;cases hb:Nat.blt f a.nc
  ·rw[hb]at h;have hf:a.nc<=f:=by
    have:¬ f<a.nc:=λhlt=>by rw[show Nat.blt f a.nc=true from by simpa using hlt]at hb;cases hb
    omega
   obtain⟨v,M1,Ms,M2,rfl,k1,k2,k3⟩:=wm o2 h;refine⟨v,L1++M1,Ms,M2,by simp, ?_,k2,λ{w' Ls' ys' x'} g1 g2 ho' hs=>?_⟩;·rw[List.getElem?_append_right (by omega),hl];exact k1
   ·simp only[jV,hb,cond_false]at hs;split at hs;·rename_i y hy;injection hs with hs;subst hs;exact⟨c1,c2,L1,M1++(Ls'++M2),rfl,by simp,o1.frame λk hk=>g1 k (List.mem_append_left _ hk),k3 (λk hk=>g1 k (List.mem_append_right _ hk)) g2 ho' hy⟩
    ·cases hs
  ·rw[hb]at h;have hf:f<a.nc:=by simpa using hb
   obtain⟨v,M1,Ms,M2,rfl,k1,k2,k3⟩:=wm o1 h;refine⟨v,M1,Ms,M2++L2,by simp, ?_,k2,λ{w' Ls' ys' x'} g1 g2 ho' hs=>?_⟩;·rw[List.getElem?_append_left (by rw[hl];exact hf)];exact k1
   ·simp only[jV,hb,cond_true]at hs;split at hs;·rename_i y hy;injection hs with hs;subst hs;exact⟨c1,c2,M1++(Ls'++M2),L2,rfl,by simp,k3 g1 (λk hk=>g2 k (List.mem_append_left _ hk)) ho' hy,o2.frame λk hk=>g2 k (List.mem_append_right _ hk)⟩
    ·cases hs
def Bb(row:ac)(i:Int)(f:Nat):(t:Ty)->Option t.den
 |.sl e t=>match jU row.t (row.xs.getD i.toNat row.t.dflt) f with
  |some ⟨(e',t'),ys⟩=>cond (Nat.beq e' e) (dj t' t ys) none
  |none=>none
 |.int _=>none
 |.bool=>none
 |.str=>none
 |.err=>none
 |.fnc _=>none
 |.pair _ _=>none
def mj(row:ac)(r:Nat)(i:Int)(f:Nat)(look:Nat->Option ac):(ps:List PT)->List SV->Option (an ps)
 |[],[]=>some ()
 |p::ps,s::ss=>match fQ p.agg s with
  |some cs=>dJ (cond p.io (cond p.agg none (Bb row i f p.t)) (py [r] look p.t cs)) (mj row r i f look ps ss)
  |none=>none
 |[],_::_=>none
 |_::_,[]=>none
def pD(row:ac)(i:Int)(f:Nat):(ps:List PT)->cL ps->Option row.t.den
 |[],_=>none
 |⟨.sl e t,false,true⟩::ps,y=>jV row.t (row.xs.getD i.toNat row.t.dflt) f t y
 |⟨_,_,true⟩::ps,_=>none
 |⟨_,_,false⟩::ps,y=>pD row i f ps y
def fC{α:Type}:List PT->List α->Option α
 |p::ps,v::vs=>cond p.io (some v) (fC ps vs)
 |_,_=>none
def aP.at{α β γ:Type}{Q:α->β->γ->Prop}:∀{as:List α}{bs:List β}{cs:List γ},aP Q as bs cs->∀{i:Nat},i<cs.length ->
  ∃(a1:List α) (a:α) (a2:List α) (b1:List β) (b:β) (b2:List β) (c1:List γ) (c:γ) (c2:List γ),as=a1++a::a2/\bs=b1++b::b2/\cs=c1++c::c2/\b1.length=i/\c1.length=i/\aP Q a1 b1 c1/\Q a b c/\aP Q a2 b2 c2
 |[],[],[],_,i,hi=>absurd hi (Nat.not_lt_zero _)
 |a::as,b::bs,c::cs,h,0,_=>⟨[],a,as,[],b,bs,[],c,cs,rfl,rfl,rfl,rfl,rfl,trivial,h.1,h.2⟩
 |a::as,b::bs,c::cs,h,i+1,hi=>by obtain⟨a1,x,a2,b1,y,b2,c1,z,c2,rfl,rfl,rfl,h1,h2,h3,h4,h5⟩:=h.2.at (i:=i) (by simpa using hi);exact⟨a::a1,x,a2,b::b1,y,b2,c::c1,z,c2,rfl,rfl,rfl,by simp[h1],by simp[h2],⟨h.1,h3⟩,h4,h5⟩
 |[],[],_::_,h,_,_=>h.elim
 |[],_::_,[],h,_,_=>h.elim
 |[],_::_,_::_,h,_,_=>h.elim
 |_::_,[],[],h,_,_=>h.elim
 |_::_,[],_::_,h,_,_=>h.elim
 |_::_,_::_,[],h,_,_=>h.elim
def IU{α:Type}{m:Nat}:∀{bs:List (List α)}{b:List α}{cs:List (List α)}{f:Nat}{v:α},(∀x∈bs,x.length=m)->b[f]? = some v->(bs++b::cs).flatten[bs.length*m+f]? = some v:=by intro bs b cs f v h hv;have hl:bs.flatten.length=bs.length*m:=nn h;have hf:f<b.length:=(List.getElem?_eq_some_iff.1 hv).1;rw[List.flatten_append,List.getElem?_append_right (by omega),List.flatten_cons,List.getElem?_append_left (by omega),hl];rw[show bs.length*m+f-bs.length*m=f by omega];exact hv
structure sr(V:St)(E:aM)(w:World)(r:Nat)(i:Int)(f:Nat)(row:ac)(v:Value):Prop where
 hrow:V.row r=some row
 deep:row.deep=true
 i0:0<=i
 lt:i<row.xs.length
 cell:∃g m c,E.rv r=.slice (some ⟨g,0,none⟩) m c/\w.cell? ⟨g,i.toNat*row.t.nc+f,none⟩=some v
def wn(h:R w0 lab0 oo n V E a w){r f:Nat}{i:Int}{row:ac}{v:Value}(p:sr V E w r i f row v){e:Nat×Ty}{ys:List e.2.den}(hg:jU row.t (row.xs.getD i.toNat row.t.dflt) f=some ⟨e,ys⟩) :
  ∃L:List Nat,aE w (.sl e.1 e.2) L [v] ys/\L.Nodup/\(∀k∈L,E.lab k=.inn r) /\
   ∀{w':World}{L':List Nat}{ys':List e.2.den}{x':row.t.den},aE w' (.sl e.1 e.2) L' [v] ys'->jV row.t (row.xs.getD i.toNat row.t.dflt) f e.2 ys'=some x'->L'.Nodup->(∀k∈L',k∈L\/w.heap.size<=k)->(∀k,k<w.heap.size->k∉L->w'.heap[k]? = w.heap[k]?) ->
    ∃f1,sd w.heap.size L V.row (am V.row r (some ⟨row.e,row.t,row.xs.set i.toNat x',row.deep,row.nilE⟩)) [r] L' E w' f1:=by
 obtain⟨hrow,hd,hi0,hi,g,m,c,hrv,hcell⟩:=p;obtain⟨css,h1,h2,h3,h4⟩:=h.rows r row hrow;rw[hd]at h3;obtain⟨Ls,k1,k2,k3⟩:=h3;have hit:i.toNat<row.xs.length:=by omega
 obtain⟨a1,l,a2,b1,cc,b2,c1,x,c2,rfl,rfl,hxs,q1,q2,q3,q4,q5⟩:=k1.at hit;have hx:row.xs.getD i.toNat row.t.dflt=x:=by rw[hxs,List.getD_eq_getElem?_getD,List.getElem?_append_right (by omega),q2];simp
 rw[hx]at hg;obtain⟨v0,L1,Lsub,L2,rfl,hcf,ho,hback⟩:=wm q4 hg;have hlens:∀y∈b1,y.length=row.t.nc:=q3.mid (λ_ _ _ ho=>ho.len);have hv:v0=v:=by
  obtain⟨_,hor⟩:=id h1;rw[hrv]at hor;rcases hor with⟨e0,_⟩|⟨g',cap,cur,e0,_,hblk,hn1,hn2,hsz,htk⟩;·cases e0
  ·injection e0 with e1 e2 e3;injection e1 with e1;injection e1 with e1;subst e1 e2 e3;have hfl:(b1++cc::b2).flatten[i.toNat*row.t.nc+f]? = some v0:=by rw[<-q1];exact IU hlens hcf
   rw[<-htk]at hfl;have hlt:=(List.getElem?_eq_some_iff.1 hfl).1;rw[List.getElem?_take_of_lt (by rw[List.length_take]at hlt;omega)]at hfl;have:w.cell? ⟨g,i.toNat*row.t.nc+f,none⟩=some v0:=by simp only[World.cell?,hblk];simpa using hfl
   rw[hcell]at this;injection this with this;exact this.symm
 subst hv;simp only[List.flatten_append,List.flatten_cons]at k2 k3;obtain⟨n1,n2,n3⟩:=List.nodup_append.1 k2;obtain⟨n4,n5,n6⟩:=List.nodup_append.1 n2;obtain⟨m1,m2,m3⟩:=List.nodup_append.1 n4;obtain⟨m4,m5,m6⟩:=List.nodup_append.1 m2;have hlabL:∀k∈Lsub,E.lab k=.inn r:=λk hk=>k3 k (by simp[hk]);refine⟨Lsub,ho,m4,hlabL,λ{w' L' ys' x'} ho' hset hnd hfrom hold=>?_⟩;rw[hx]at hset;have hltL:∀k∈a1.flatten++((L1++(Lsub++L2))++a2.flatten),k<w.heap.size:=by
  intro k hk;have hall:aP (λ(l:List Nat) (_:List Value) (_:row.t.den)=>∀k∈l,k<w.heap.size) (a1++(L1++(Lsub++L2))::a2) (b1++cc::b2) row.xs:=k1.imp λ_ _ _ ho=>ho.lt;have:k∈(a1++(L1++(Lsub++L2))::a2).flatten:=by simpa using hk
  obtain⟨l,hl,hk⟩:=List.mem_flatten.1 this;exact jM hall l hl k hk
 have keep:∀k,k∈a1.flatten++((L1++(Lsub++L2))++a2.flatten)->k∉Lsub->w'.heap[k]? = w.heap[k]?:=λk hk hn=>hold k (hltL k hk) hn;have d1:∀k∈a1.flatten,k∉Lsub:=λk hk hl=>n3 k hk k (by simp[hl]) rfl;have d2:∀k∈a2.flatten,k∉Lsub:=λk hk hl=>n6 k (by simp[hl]) k hk rfl;have d3:∀k∈L1,k∉Lsub:=λk hk hl=>m3 k hk k (by simp[hl]) rfl;have d4:∀k∈L2,k∉Lsub:=λk hk hl=>m6 k hl k hk rfl;have hnew:=hback (λk hk=>keep k (by simp[hk]) (d3 k hk)) (λk hk=>keep k (by simp[hk]) (d4 k hk)) ho' hset;have notin:∀k,k<w.heap.size->k∉Lsub->k∉L':=λk hk hn hl=>(hfrom k hl).elim hn λh=>by omega
 refine⟨λ_=>.inn r,⟨λq hq=>ba _ _ (by simpa using hq),λq hq=>?_⟩⟩;have hq:q=r:=by simpa using hq
 subst hq;refine⟨row,_,hrow,aU _ _ _,rfl,by simp,λlab2 hl2 hl2'=>?_⟩;have hlabo:∀k,k<w.heap.size->k∉Lsub->lab2 k=E.lab k:=λk hk hn=>hl2' k hk hn (notin k hk hn);refine⟨b1++cc::b2, ?_,λk hk=>?_, ?_,λhz hl=>h4 hz (by simpa using hl)⟩;·show w'.ownsRow 0 row.e row.t.nc (E.rv q) (row.xs.set i.toNat x').length _;rw[List.length_set];refine lO (λk hk=>hold k (h1.lt k hk).2 λhl=>?_) h1;have:=h2 k hk;rw[hlabL k hl]at this;cases this
 ·rw[hlabo k (h1.lt k hk).2 λhl=>by have:=h2 k hk;rw[hlabL k hl]at this;cases this];exact h2 k hk
 ·show cond row.deep _ _;rw[hd];refine⟨a1++(L1++(L'++L2))::a2, ?_, ?_,λk hk=>?_⟩
  ·rw[hxs,show(c1++x::c2).set i.toNat x'=c1++x'::c2 by rw[List.set_append_right _ _ (by omega),q2];simp];refine aP.app (q3.imp_mem λl b y hl ho=>ho.frame λk hk=>?_) ⟨hnew,q5.imp_mem λl b y hl ho=>ho.frame λk hk=>?_⟩;·have:k∈a1.flatten:=List.mem_flatten.2 ⟨l,hl,hk⟩;exact keep k (by simp[this]) (d1 k this)
   ·have:k∈a2.flatten:=List.mem_flatten.2 ⟨l,hl,hk⟩;exact keep k (by simp[this]) (d2 k this)
  ·simp only[List.flatten_append,List.flatten_cons];have fr:∀k∈L',∀k'∈a1.flatten++((L1++(Lsub++L2))++a2.flatten),k'∉Lsub->k≠k':=λk hk k' hk' hn e=>notin k' (hltL k' hk') hn (e▸hk);refine List.nodup_append.2 ⟨n1,List.nodup_append.2 ⟨List.nodup_append.2 ⟨m1,List.nodup_append.2 ⟨hnd,m5,λk hk k' hk'=>fr k hk k' (by simp[hk']) (d4 k' hk')⟩,λk hk k' hk'=>?_⟩,n5,λk hk k' hk'=>?_⟩,λk hk k' hk'=>?_⟩
   ·rcases List.mem_append.1 hk' with hk'|hk';·exact(fr k' hk' k (by simp[hk]) (d3 k hk)).symm
    ·exact m3 k hk k' (by simp[hk'])
   ·rcases List.mem_append.1 hk with hk|hk;·exact n6 k (by simp[hk]) k' hk'
    ·rcases List.mem_append.1 hk with hk|hk;·exact fr k hk k' (by simp[hk']) (d2 k' hk')
     ·exact n6 k (by simp[hk]) k' hk'
   ·rcases List.mem_append.1 hk' with hk'|hk'
    ·rcases List.mem_append.1 hk' with hk'|hk';·exact n3 k hk k' (by simp[hk'])
     ·rcases List.mem_append.1 hk' with hk'|hk';·exact(fr k' hk' k (by simp[hk]) (d1 k hk)).symm
      ·exact n3 k hk k' (by simp[hk'])
    ·exact n3 k hk k' (by simp[hk'])
  ·have old:∀k,k∈a1.flatten++((L1++(Lsub++L2))++a2.flatten)->k∉Lsub->lab2 k=.inn q:=λk hk hn=>(hlabo k (hltL k hk) hn).trans (k3 k (by simpa using hk));simp only[List.flatten_append,List.flatten_cons,List.mem_append]at hk;rcases hk with hk | (hk|hk|hk)|hk;·exact old k (by simp[hk]) (d1 k hk)
   ·exact old k (by simp[hk]) (d3 k hk)
   ·exact hl2 k hk
   ·exact old k (by simp[hk]) (d4 k hk)
   ·exact old k (by simp[hk]) (d2 k hk)
def IV{f0:Nat}{en:a8}(hΓ:px P w0 lab0 f0 en)(h:R w0 lab0 oo n V E a w){ss:List SV}{args:Array Value}(hs:ai (aK V E w) ss args.toList){r f:Nat}{i:Int}{row:ac}{v:Value}(p:sr V E w r i f row v)(hone:dA en.sig.ps=true)
  (hv:fC en.sig.ps args.toList=some v) {X:an en.sig.ps} (hin:mj row r i f V.row en.sig.ps ss=some X)
  {q:cL en.sig.ps×an en.sig.rs} (hG:en.G X=some q) {x':row.t.den} (hu:pD row i f en.sig.ps q.1=some x') {dst:Option Nat} (hd:∀d,dst=some d->d<n) (hfl:∀p∈en.sig.rs,p.agg=false->p.t.nc=1)
  (hout:pB en V dst [r] (am V.row r (some ⟨row.e,row.t,row.xs.set i.toNat x',row.deep,row.nilE⟩)) q.2=some V') :
  cM P f0 args w λe w'=>∃v E',e=.returned v/\R w0 lab0 oo n V' E' (a.put dst v) w':=by
 have key:∀{ps:List PT}{ss:List SV}{vs:List Value}{X:an ps}{y:cL ps},dA ps=true->mj row r i f V.row ps ss=some X->ai (aK V E w) ss vs->fC ps vs=some v->pD row i f ps y=some x' ->
   ∃L:List Nat,L.Nodup/\(∀k∈L,E.lab k=.inn r/\k<w.heap.size)/\b7 ps=false/\dW w L ps vs X /\
    ∀{w':World}{L':List Nat},kH w' L' ps vs y->L'.Nodup->(∀k∈L',k∈L\/w.heap.size<=k)->(∀k,k<w.heap.size->k∉L->w'.heap[k]? = w.heap[k]?) ->
     ∃f1,sd w.heap.size L V.row (am V.row r (some ⟨row.e,row.t,row.xs.set i.toNat x',row.deep,row.nilE⟩)) [r] L' E w' f1:=by
  intro ps;induction ps with
  |nil=>intro ss vs X y _ _ _ hv;cases vs<;>cases hv
  |cons p0 ps ih =>
   intro ss vs X y h1 hp hs hv hu;cases ss with
   |nil=>cases hp
   |cons s ss=>cases vs with
    |nil=>exact hs.elim
    |cons v1 vs =>
     simp only[mj]at hp;split at hp
     ·rename_i cs hcs;obtain⟨g1,g2⟩:=dK hp;obtain⟨us,j1,j2⟩:=mi hcs hs.1;obtain⟨t,agg,io⟩:=p0;cases io
      ·simp only[dA,cond_false]at h1;simp only[cond_false]at g1;simp only[fC,cond_false]at hv;have hu:pD row i f ps y=some x':=by cases t<;>cases agg<;>exact hu
       obtain⟨L,i1,i2,i3,i4,i5⟩:=ih h1 g2 hs.2 hv hu;refine⟨L,i1,i2,by simpa[b7]using i3,⟨⟨us,j1,(me h g1 j2).mono λk hk hl=>?_⟩,i4⟩,λ{w' L'} hio=>i5 hio⟩;exact hk.1 r (by simp) (.inr (i2 k hl).1)
      ·simp only[dA,cond_true]at h1;simp only[fC,cond_true,Option.some.injEq]at hv;subst hv;simp only[cond_true]at g1;have hagg:agg=false:=by
        cases agg;·rfl
        ·cases g1
       subst hagg;simp only[cond_false]at g1;cases t with
       |sl e t =>
        simp only[Bb]at g1;split at g1
        ·rename_i e' t' ys hg;cases hb:Nat.beq e' e;·rw[hb]at g1;cases g1
         rw[hb]at g1;obtain rfl:=Nat.eq_of_beq_eq_true hb;obtain⟨rfl,e2⟩:=gk (show dj t' t ys=some X.1 from g1);obtain⟨L,o1,o2,o3,o4⟩:=wn h p (e:=(e',t')) hg;have e2:ys=X.1:=e2;refine⟨L,o2,λk hk=>⟨o3 k hk,o1.lt k hk⟩,rfl,⟨⟨[v1],rfl, ?_⟩, ?_⟩,λ{w' L'} hio hnd hf ho=>?_⟩;·show aE w (.sl e' t') L [v1] X.1;rw[<-e2];exact o1
         ·have oth:∀{ps:List PT}{ss:List SV}{vs:List Value}{X:an ps},b7 ps=true->mj row r i f V.row ps ss=some X->ai (aK V E w) ss vs->dW w L ps vs X:=by
           intro ps;induction ps with
           |nil =>
            intro ss vs X _ hp hs;cases ss with
            |nil=>cases vs with
             |nil=>trivial
             |cons _ _=>exact hs.elim
            |cons _ _=>cases hp
           |cons p1 ps ih =>
            intro ss vs X hn hp hs;cases ss with
            |nil=>cases hp
            |cons s ss=>cases vs with
             |nil=>exact hs.elim
             |cons v2 vs =>
              simp only[mj]at hp;split at hp;·rename_i cs' hcs';obtain⟨g3,g4⟩:=dK hp;simp only[b7,List.all_cons,Bool.and_eq_true,Bool.not_eq_true']at hn;rw[hn.1]at g3;obtain⟨us',j3,j4⟩:=mi hcs' hs.1;refine⟨⟨us',j3, ?_⟩,ih hn.2 g4 hs.2⟩;rw[hn.1];exact(me h g3 j4).mono λk hk hl=>hk.1 r (by simp) (.inr (o3 k hl))
              ·cases hp
          exact oth h1 g2 hs.2
         ·obtain⟨us',j3,j4⟩:=(hio:∃cs,fB false v1 cs/\aE w' (.sl e' t') L' cs y);obtain rfl:us'=[v1]:=j3;exact o4 j4 hu hnd hf ho
        ·cases g1
       |int _=>cases g1
       |bool=>cases g1
       |str=>cases g1
       |err=>cases g1
       |fnc _=>cases g1
       |pair _ _=>cases g1
     ·cases hp
 obtain⟨L,i1,i2,i3,i4,i5⟩:=key hone hin hs hv hu;refine(Ba hΓ h i4 (λhn=>by rw[i3]at hn;cases hn) i1 (λk hk=>(i2 k hk).2) (qs:=[r]) (λk hsp hkL=>hsp r (by simp) (.inr (i2 k hkL).1)) (λ{w' L'} hio hnd hf ho=>i5 hio hnd hf ho) hG hd hfl hout).mono ?_;rintro e w' ⟨v,E',h1,h2,_⟩
 exact⟨v,E',h1,h2⟩
end
end Go.Fw
namespace Go.Fw
open Go.RowKit
abbrev Rf:=Option (Nat×Ty)
abbrev cu:Rf->Type
 |none=>Unit
 |some p=>p.2.den
structure jm where
 rf:Rf
 ps:List PT
 rs:List PT
 pre:Option (cu rf×an ps->Bool)
 val:cu rf×an ps->cu rf×an rs
def du(w:World)(S:Nat->Prop):(ps:List PT)->List Value->an ps->List Nat->Prop
 |[],[],_,L=>L=[]
 |p::ps,v::vs,X,L=>∃cs L1 L2,L=L1++L2/\fB p.agg v cs/\cond p.io (aE w p.t L1 cs X.1) (L1=[]/\Rd w S p.t cs X.1)/\du w S ps vs X.2 L2
 |[],_::_,_,_=>False
 |_::_,[],_,_=>False
def wo(w:World)(te:Nat)(t:Ty)(v:Value)(x:t.den)(g:Nat)(L:List Nat):Prop :=
 v=.pointer (some ⟨g,0,none⟩)/\∃arr:Array Value,w.heap[g]? = some (.cells arr te (0,0))/\(∀u∈arr.toList,u.oneCell'=true)/\aE w t L arr.toList x
def jW(w:World)(S:Nat->Prop):(rf:Rf)->(ps:List PT)->List Value->cu rf->an ps->List Nat->Prop
 |none,ps,vs,_,X,L=>du w S ps vs X L
 |some p,ps,v::vs,x,X,L=>∃g L1 L2,L=g::(L1++L2)/\wo w p.1 p.2 v x g L1/\du w S ps vs X L2
 |some _,_,[],_,_,_=>False
def Bc(w':World):(rf:Rf)->List Value->cu rf->List Nat->Prop
 |none,_,_,L=>L=[]
 |some p,v::_,y,L=>∃g,wo w' p.1 p.2 v y g L/\g∉L
 |some _,[],_,_=>False
structure wq[DC](w:World)(en:jm)(args:List Value)(L:List Nat)(Y:cu en.rf×an en.rs)(v:Value)(w':World)(vs:List Value)(Lf Lr:List Nat):Prop where
 ret:mb vs v
 res:ma w' en.rs vs Y.2 Lr
 ref:Bc w' en.rf args Y.1 Lf
 nodup:(Lr++Lf).Nodup
 fresh:∀k∈Lr++Lf,k∈L\/w.heap.size<=k
 notg:∀g p,en.rf=some p->args.head? = some (.pointer (some ⟨g,0,none⟩))->g∉Lr++Lf
 os:w'.os=w.os
 tape:Tp w w'
 output:w'.output=w.output
 size:w.heap.size<=w'.heap.size
 old:∀k,k<w.heap.size->k∉L->w'.heap[k]? = w.heap[k]?
def iz[DC](P:Program)[Inv P](f:Nat)(en:jm):Prop :=
 ∀(w:World) (args:Array Value) (L:List Nat) (X:cu en.rf×an en.ps),jW w (λk=>k∉L) en.rf en.ps args.toList X.1 X.2 L->L.Nodup->(∀k∈L,k<w.heap.size)->bZ en.pre X=true ->
  Inv.I P w->(∀k∈L,¬ Inv.B P k)->cM P f args w λe w'=>∃v vs Lf Lr,e=.returned v/\wq w en args.toList L (en.val X) v w' vs Lf Lr
def wr[DC](P:Program)(w0:World)(lab0:Nat->ay)(f:Nat)(en:jm):Prop :=
 ∀(w:World) (args:Array Value) (L:List Nat) (X:cu en.rf×an en.ps),jW w (λk=>k∉L) en.rf en.ps args.toList X.1 X.2 L->L.Nodup->(∀k∈L,k<w.heap.size)->bZ en.pre X=true ->
  (∀k,k<w0.heap.size->lab0 k=.st->w.heap[k]? = w0.heap[k]?)->(∀k∈L,¬ (k<w0.heap.size/\lab0 k=.st))->cM P f args w λe w'=>∃v vs Lf Lr,e=.returned v/\wq w en args.toList L (en.val X) v w' vs Lf Lr
def iz.at[DC]{P:Program}[Inv P]{f:Nat}{en:jm}(h:iz P f en){w0:World}{lab0:Nat->ay}(hI:Inv.I P w0)(hB:∀k,Inv.B P k->lab0 k=.st):wr P w0 lab0 f en :=
 λw args L X h1 h2 h3 h4 h6 h7=>h w args L X h1 h2 h3 h4 (Inv.keep w0 w (λk hk=>h6 k (Inv.lt w0 k hI hk) (hB k hk)) hI) λk hk hb=>h7 k hk ⟨Inv.lt w0 k hI hb,hB k hb⟩
def dB:List PT->List SV->List af
 |p::ps,s::ss=>(cond p.io (match fQ p.agg s with|some cs=>cs|none=>[]) [])++dB ps ss
 |_,_=>[]
def pE(V:St):Rf->List SV->Option (List af×List SV)
 |none,ss=>some ([],ss)
 |some p,.c (.box b 0)::ss=>match V.box b with
  |some (te,cs)=>cond (Nat.beq te p.1&&Nat.blt te bV) (some (cs,ss)) none
  |none=>none
 |some _,_=>none
def Bd(look:Nat->Option ac):(rf:Rf)->List af->Option (cu rf)
 |none,_=>some ()
 |some p,cs=>dk look p.2 cs
def wt(en:jm)(V:St)(ss:List SV):Option (List Nat×(cu en.rf×an en.ps)) :=
 match pE V en.rf ss with
 |some (cs,ss')=>cond (dq (aF (cs++dB en.ps ss')))
  (match dJ (Bd V.row en.rf cs) (gq (aF (cs++dB en.ps ss')) V.row en.ps ss')with
   |some X=>some (aF (cs++dB en.ps ss'),X)
   |none=>none) none
 |none=>none
def dL(qs:List Nat):af->af
 |.own q=>cond (bq q qs) .undef (.own q)
 |.part q lo n=>cond (bq q qs) .undef (.part q lo n)
 |.elt q i f=>cond (bq q qs) .undef (.elt q i f)
 |c=>fh qs c
def nC(qs:List Nat):Option (Nat×List af)->Option (Nat×List af)
 |some (te,cs)=>some (te,cs.map (dL qs))
 |none=>none
def cU:Option Nat->Nat
 |some d=>d
 |none=>99999
def wu(d:Nat):(rf:Rf)->cu rf->List af×List (Nat×ac)×Nat
 |none,_=>([],[],0)
 |some p,y=>aJ d p.2 y 0
def IW:Rf->List SV->List af->(Nat->Option (Nat×List af))->Nat->Option (Nat×List af)
 |some p,.c (.box b 0)::_,cs,bx=>am bx b (some (p.1,cs))
 |_,_,_,bx=>bx
def wv(V:St)(dst:Option Nat)(s:SV):St:=match dst with
 |some d=>V.put d s
 |none=>V
def su(en:jm)(V:St)(dst:Option Nat)(ss:List SV)(qs:List Nat)(Y:cu en.rf×an en.rs):Option St :=
 match wu (cU dst) en.rf Y.1 with
 | (c1,r1,j1)=>match cr (cU dst) en.rs Y.2 j1 with
  | (cs,r2,_)=>match mh (r1++r2) (λr=>cond (bq r qs) none (V.row r))with
   |some look=>some (wv ⟨λt=>(V.slot t).map (dL qs),IW en.rf ss c1 (λb=>nC qs (V.box b)),look⟩ dst (nA cs))
   |none=>none
section
variable {P : Program} {V V' : St} {E E' : aM} {w w' : World} {w0 : World} {lab0 : Nat → ay} {oo : Nat → Value} {n : Nat} {a : Act} {qs : List Nat} [DC]
def du.mono{S S':Nat->Prop}(h:∀k,S k->S' k):∀{ps:List PT}{vs:List Value}{X:an ps}{L:List Nat},du w S ps vs X L->du w S' ps vs X L
 |[],[],_,_,h'=>h'
 |p::ps,v::vs,X,L,h'=>by
  obtain⟨cs,L1,L2,e,h1,h2,h3⟩:=h';refine⟨cs,L1,L2,e,h1, ?_,h3.mono h⟩;cases hio:p.io;·rw[hio]at h2;exact⟨h2.1,h2.2.mono h⟩
  ·rw[hio]at h2;exact h2
 |[],_::_,_,_,h'=>h'.elim
 |_::_,[],_,_,h'=>h'.elim
def nD(h:R w0 lab0 oo n V E a w){bad:List Nat}:∀{ps:List PT}{ss:List SV}{vs:List Value}{X:an ps},gq bad V.row ps ss=some X->ai (aK V E w) ss vs->(aF (dB ps ss)).Nodup ->
  ∃L,du w (iy E.lab bad) ps vs X L/\L.Nodup/\(∀k∈L,∃q∈aF (dB ps ss),dr E.lab q k)/\∀k∈L,k<w.heap.size
 |[],[],[],X,_,_,_=>⟨[],rfl,List.nodup_nil,(λk hk=>by cases hk),λk hk=>by cases hk⟩
 |p::ps,s::ss,v::vs,X,hp,hs,hn=>by
  simp only[gq]at hp;split at hp
  ·rename_i cs hcs;obtain⟨g1,g2⟩:=dK hp;obtain⟨us,k1,k2⟩:=mi hcs hs.1;obtain⟨t,agg,io⟩:=p;cases io;·have hm:dB (⟨t,agg,false⟩::ps) (s::ss)=dB ps ss:=rfl;rw[hm]at hn ⊢;obtain⟨L,i1,i2,i3,i4⟩:=nD h g2 hs.2 hn;exact⟨L,⟨us,[],L,rfl,k1,⟨rfl,me h g1 k2⟩,i1⟩,i2,i3,i4⟩
   ·have hcs':fQ agg s=some cs:=hcs;have hm:dB (⟨t,agg,true⟩::ps) (s::ss)=cs++dB ps ss:=by simp only[dB,hcs',cond_true]
    rw[hm,gj]at hn ⊢;obtain⟨n1,n2,n3⟩:=List.nodup_append.1 hn;obtain⟨L1,o1,o2,o3⟩:=gl h g1 k2 n1;obtain⟨L2,i1,i2,i3,i4⟩:=nD h g2 hs.2 n2;refine⟨L1++L2,⟨us,L1,L2,rfl,k1,o1,i1⟩,List.nodup_append.2 ⟨o2,i2,λx hx y hy e=>?_⟩,λk hk=>?_,λk hk=>?_⟩;·subst e;obtain⟨q,q1,q2⟩:=o3 x hx;obtain⟨q',q1',q2'⟩:=i3 x hy;exact n3 q q1 q' q1' (jR q2 q2')
    ·rcases List.mem_append.1 hk with hk|hk;·obtain⟨q,q1,q2⟩:=o3 k hk;exact⟨q,List.mem_append_left _ q1,q2⟩
     ·obtain⟨q,q1,q2⟩:=i3 k hk;exact⟨q,List.mem_append_right _ q1,q2⟩
    ·rcases List.mem_append.1 hk with hk|hk;·exact o1.lt k hk
     ·exact i4 k hk
  ·cases hp
 |[],[],_::_,_,_,hs,_=>hs.elim
 |[],_::_,_,_,hp,_,_=>by cases hp
 |_::_,[],_,_,hp,_,_=>by cases hp
 |_::_,_::_,[],_,_,hs,_=>hs.elim
def eG(lab:Nat->ay)(qs:List Nat)(B:Nat->Prop)(k:Nat):Prop:=fP lab qs k/\∀b,B b->lab k≠.box b
def nE{lab:Nat->ay}{B:Nat->Prop}{k:Nat}(h:iy lab qs k):eG lab qs B k:=⟨h.1,λb _=>h.2 b⟩
section
variable {B : Nat → Prop}
def ww{lab:Nat->ay}{p:Option Nat}{k:Nat}(hp:∀q,p=some q->q∉qs)(h:lab k=bh p):eG lab qs B k:=⟨sm hp h,λb _ hb=>by rw[h]at hb;cases p<;>cases hb⟩
def Be{lab:Nat->ay}{r k:Nat}(hr:r∉qs)(h:dr lab r k):eG lab qs B k:=nE (nw hr h)
def Bf{lab:Nat->ay}{k:Nat}(h:lab k=.dead):eG lab qs B k:=nE (IM h)
def ml{lab:Nat->ay}{k:Nat}(h:lab k=.st):eG lab qs B k:=nE (ny h)
def aj.moved(hk:∀k,k<w.heap.size->eG E.lab qs B k->w'.heap[k]? = w.heap[k]?/\E'.lab k=E.lab k)
  (hrow:∀r row,r∉qs->V.row r=some row->∃row',V'.row r=some row'/\E'.rv r=E.rv r/\row'.t.nc=row.t.nc/\row.xs.length<=row'.xs.length)
  (hbox:∀b te cs,V.box b=some (te,cs)->∃cs',V'.box b=some (te,cs')/\cs'.length=cs.length) (hbb:E'.bb=E.bb) :
  ∀{c:af}{v:Value},aj V E w c v->aj V' E' w' (dL qs c) v:=by
 have nm:∀{q:Nat},bq q qs=false->q∉qs:=λhm hx=>by rw[gi.2 hx]at hm;cases hm
 have rd:∀{p:Option Nat}{t:Ty}{cs:List Value}{x:t.den},(∀q,p=some q->q∉qs)->Rd w (λk=>E.lab k=bh p) t cs x->Rd w' (λk=>E'.lab k=bh p) t cs x:=by intro p t cs x hp h;refine(h.lt.frame λk hk' _=>(hk k hk'.2 (ww hp hk'.1)).1).mono λk hk'=>?_;rw[(hk k hk'.2 (ww hp hk'.1)).2];exact hk'.1
 have selt:∀{t:Ty}{x:t.den}{p:Option Nat}{f:Nat}{v:Value},(∀q,p=some q->q∉qs)->aj V E w (.selt t x p f) v->aj V' E' w' (.selt t x p f) v:=by
  intro t x p f v hp h;obtain⟨ad,cs,h1,h2,h3,h4,h5⟩:=h;have hb:∀j,(ad.add j).block=ad.block:=λj=>by unfold Addr.add;split<;>rfl
  have h0:0<cs.length:=by rw[h4.len];exact t.nc_pos
  have hlt:ad.block<w.heap.size:=by have:=World.block_lt_of_cell? w (ad.add 0) (h5 0 cs[0] (by simp));rwa [hb]at this
  have hkk:=hk ad.block hlt (ww hp h3);refine⟨ad,cs,h1,h2,by rw[hkk.2];exact h3,rd hp h4,λj u hu=>?_⟩;rw[World.cell?_of_block (w:=w) (by rw[hb];exact hkk.1)];exact h5 j u hu
 have one:∀{q:Nat},q∉qs->∀r,some q=some r->r∉qs:=λhq r hr=>by injection hr with hr;subst hr;exact hq
 intro c v h;cases c with
 |undef=>trivial
 |int _ _=>exact h
 |bool _=>exact h
 |str _=>exact h
 |err _=>exact h
 |bor v0 e t xs=>exact⟨h.1,rd (p:=none) (λq hq=>by cases hq) h.2⟩
 |nil=>exact h
 |sn e t xs p =>
  cases p with
  |none=>exact rd (p:=none) (λq hq=>by cases hq) h
  |some q =>
   simp only[dL,fh];cases hm:bq q qs;·exact rd (p:=some q) (one (nm hm)) h
   ·trivial
 |full e t xs p =>
  cases p with
  |none=>exact⟨rd (p:=none) (λq hq=>by cases hq) h.1,h.2⟩
  |some q =>
   simp only[dL,fh];cases hm:bq q qs;·exact⟨rd (p:=some q) (one (nm hm)) h.1,h.2⟩
   ·trivial
 |own r =>
  simp only[dL];cases hm:bq r qs;·obtain⟨rfl,h1,h2⟩:=h;obtain⟨row,hr⟩:=Option.isSome_iff_exists.1 h1;obtain⟨row',k1,k2,_⟩:=hrow r row (nm hm) hr;exact⟨k2.symm,by rw[k1];rfl,h2⟩
  ·trivial
 |part r lo n =>
  simp only[dL];cases hm:bq r qs;·obtain⟨row,A,c,h1,h2,h3,h4,h5,h6,h7,h8⟩:=h;obtain⟨row',g1,g2,g3,g4⟩:=hrow r row (nm hm) h1;refine⟨row',A,c,g1,h2,h3,by omega,h5,h6,h7,λhn=>?_⟩;rw[g2,g3];exact h8 hn
  ·trivial
 |box b f =>obtain⟨rfl,te,cs,h1,h2⟩:=h;obtain⟨cs',g1,g3⟩:=hbox b te cs h1;exact⟨by rw[hbb],te,cs',g1,by omega⟩
 |mp b =>obtain⟨rfl,te,cs,h1⟩:=h;obtain⟨cs',g1,_⟩:=hbox b te cs h1;exact⟨by rw[hbb],te,cs',g1⟩
 |mset t xs=>exact h
 |elt r i f =>
  simp only[dL];cases hm:bq r qs;·obtain⟨row,g,n,c,h1,h2,h3,h4,h5,h6⟩:=h;obtain⟨row',g1,g2,g3,g4⟩:=hrow r row (nm hm) h1;exact⟨row',g,n,c,g1,by rw[g2];exact h2,h3,by omega,by rw[g3];exact h5,by rw[g3];exact h6⟩
  ·trivial
 |selt t x p f =>
  cases p with
  |none=>exact selt (p:=none) (λq hq=>by cases hq) h
  |some q =>
   simp only[dL,fh];cases hm:bq q qs;·exact selt (p:=some q) (one (nm hm)) h
   ·trivial
 |fn f caps =>
  obtain⟨rfl,h⟩:=h;refine⟨?_,λp hp=>?_⟩;·rw[hbb]
  ·obtain⟨te,cs,h1,h2⟩:=h p hp;obtain⟨cs',g1,g3⟩:=hbox _ _ _ h1;exact⟨te,cs',g1,by omega⟩
def bP.moved{lab lab':Nat->ay}{r:Nat}{row:ac}{v:Value}(hk:∀k,k<w.heap.size->eG lab qs B k->w'.heap[k]? = w.heap[k]?/\lab' k=lab k)(hr:r∉qs)(h:bP w lab r row v):bP w' lab' r row v:=by
 obtain⟨css,h1,h2,h3,h4⟩:=h;have hlt:∀k,v.ownBlock=some k->k<w.heap.size:=λk hk=>(h1.lt k hk).2;have hb:∀k,v.ownBlock=some k->w'.heap[k]? = w.heap[k]?/\lab' k=lab k:=λk h=>hk k (hlt k h) (Be hr (.inl (h2 k h)));refine⟨css,lO (λk h=>(hb k h).1) h1,λk h=>by rw[(hb k h).2];exact h2 k h, ?_,h4⟩;cases hd:row.deep;·rw[hd]at h3;exact ai.imp (λc y h=>((h.lt.frame λk hk' _=>(hk k hk'.2 (ml hk'.1)).1)).mono λk hk'=>by rw[(hk k hk'.2 (ml hk'.1)).2];exact hk'.1) h3
 ·rw[hd]at h3;obtain⟨Ls,k1,k2,k3⟩:=h3;have hL:∀k∈Ls.flatten,k<w.heap.size:=λk hk=>by obtain⟨l,hl,hk⟩:=List.mem_flatten.1 hk;have:aP (λ(l:List Nat) (_:List Value) (_:row.t.den)=>∀k∈l,k<w.heap.size) Ls css row.xs:=k1.imp λ_ _ _ ho=>ho.lt;exact jM this l hl k hk
  have hs:∀k∈Ls.flatten,w'.heap[k]? = w.heap[k]?/\lab' k=lab k:=λk h=>hk k (hL k h) (Be hr (.inr (k3 k h)));exact⟨Ls,k1.imp_mem λl c y hl ho=>ho.frame λk h=>(hs k (List.mem_flatten.2 ⟨l,hl,h⟩)).1,k2,λk h=>by rw[(hs k h).2];exact k3 k h⟩
def R.moved(h:R w0 lab0 oo n V E a w)(hk:∀k,k<w.heap.size->eG E.lab qs B k->w'.heap[k]? = w.heap[k]?/\E'.lab k=E.lab k)
  (ho:w'.os=w.os/\Tp w w'/\w'.output=w.output) (hs:w.heap.size<=w'.heap.size) (hbb:E'.bb=E.bb) (hslot:∀t,V'.slot t=(V.slot t).map (dL qs))
  (hbox:∀b te cs,V.box b=some (te,cs)->∃cs',V'.box b=some (te,cs')/\cs'.length=cs.length)
  (hboxes:∀b te cs,V'.box b=some (te,cs)->(¬ B b/\∃cs0,V.box b=some (te,cs0)/\cs=cs0.map (dL qs))\/ji V' E' w' b te cs)
  (hrow:∀r row,r∉qs->V.row r=some row->∃row',V'.row r=some row'/\E'.rv r=E.rv r/\row'.t.nc=row.t.nc/\row.xs.length<=row'.xs.length)
  (hrel:∀r row,V'.row r=some row->(r∉qs/\V.row r=some row/\E'.rv r=E.rv r)\/bP w' E'.lab r row (E'.rv r)) :
  R w0 lab0 oo n V' E' a w':=by
 have hc:∀c v,aj V E w c v->aj V' E' w' (dL qs c) v:=λc v h=>aj.moved hk hrow hbox hbb h;refine⟨h.bound,h.size,h.defers,λt=>?_,λb te cs hb=>?_,λr row hr=>?_, ?_⟩;·rw[hslot];exact(h.slots t).mapl hc
 ·rcases hboxes b te cs hb with⟨hB,cs0,hb2,rfl⟩|hb2;·obtain⟨arr,k1,k2,k3,k4⟩:=h.boxes b _ _ hb2;have hlt:=k1.lt;have hsp:eG E.lab qs B (E.bb b):=⟨λq _ hq=>(by rcases hq with hq|hq<;>rw[k2]at hq<;>cases hq),λb' hB' hb'=>by rw[k2]at hb';injection hb' with hb';subst hb';exact hB hB'⟩;obtain⟨j1,j2⟩:=hk _ hlt hsp;exact⟨arr,by rw[hbb,j1];exact k1,by rw[hbb,j2];exact k2,k3.mapl hc,k4⟩
  ·exact hb2
 ·rcases hrel r row hr with⟨h1,h2,h3⟩|h2;·rw[h3];exact(h.rows r row h2).moved hk h1
  ·exact h2
 ·refine⟨ho.1.trans h.same.os,ho.2.1.trans h.same.tape,ho.2.2.trans h.same.output,Nat.le_trans h.same.size hs,λk hk' hl=>?_,λk hk' hl=>?_⟩;·obtain⟨g1,g2⟩:=h.same.old k hk' hl;obtain⟨j1,j2⟩:=hk k (Nat.lt_of_lt_of_le hk' h.same.size) (ml g1);exact⟨by rw[j2];exact g1,by rw[j1];exact g2⟩
  ·obtain⟨g1,g2⟩:=h.same.gone k hk' hl;obtain⟨j1,j2⟩:=hk k (Nat.lt_of_lt_of_le hk' h.same.size) (Bf g1);exact⟨by rw[j2];exact g1,by rw[j1];exact g2⟩
end
def Bg{B:Nat->Prop}(h:R w0 lab0 oo n V E a w){d:Nat}{L Lf Lr:List Nat}(hL:∀k,eG E.lab qs B k->k∉L)
  (nodup:(Lr++Lf).Nodup) (fresh:∀k∈Lr++Lf,k∈L\/w.heap.size<=k) (ho:w'.os=w.os/\Tp w w'/\w'.output=w.output) (hsz:w.heap.size<=w'.heap.size) (old:∀k,k<w.heap.size->k∉L->w'.heap[k]? = w.heap[k]?)
  {r1:List (Nat×ac)}{j1:Nat}{C1:St->aM->Prop}
  (R1:∃(f1:Nat->ay) (v1:Nat->Value),(∀p∈r1,∃i,i<j1/\p.1=aT d i)/\∀(σ2:St) (E2:aM),(∀k∈Lf,E2.lab k=f1 k)->(∀p∈r1,E2.rv p.1=v1 p.1)->(∀p∈r1,σ2.row p.1=some p.2)->C1 σ2 E2/\∀p∈r1,bP w' E2.lab p.1 p.2 (E2.rv p.1))
  {rs:List PT}{vs:List Value}{Y:an rs} (res:ma w' rs vs Y Lr) {cs:List (Bool×List af)}{r2:List (Nat×ac)}{j2:Nat} (hres:cr d rs Y j1=(cs,r2,j2)) {look:Nat->Option ac}
  (hadd:mh (r1++r2) (λr=>cond (bq r qs) none (V.row r))=some look) {bx:Nat->Option (Nat×List af)}
  (hbx1:∀b te cs,bx b=some (te,cs)->(¬ B b/\∃cs0,V.box b=some (te,cs0)/\cs=cs0.map (dL qs))\/((∃x,V.box b=some x)/\B b/\∀(σ2:St) (E2:aM),C1 σ2 E2->E2.bb=E.bb->E2.lab (E.bb b)=E.lab (E.bb b)->ji σ2 E2 w' b te cs))
  (hbx2:∀b te cs,V.box b=some (te,cs)->∃cs',bx b=some (te,cs')/\cs'.length=cs.length) (hg:∀b,B b->(∃x,V.box b=some x)->E.bb b∉Lr++Lf) :
  ∃E',R w0 lab0 oo n ⟨λt=>(V.slot t).map (dL qs),bx,look⟩ E' a w'/\sf ⟨λt=>(V.slot t).map (dL qs),bx,look⟩ E' w' cs vs:=by
 obtain⟨nd1,nd2,nd3⟩:=List.nodup_append.1 nodup;obtain⟨f1,v1,a1,b1⟩:=R1;obtain⟨f2,v2,a2,b2⟩:=sj d (j:=j1) res nd1;have m2:=(sh d (rs:=rs) (Y:=Y) (j:=j1)).2;rw[hres]at a2 b2 m2;obtain⟨ad1,ad2⟩:=se hadd
 classical
 let E':aM:=⟨λk=>if k∈Lr then f2 k else if k∈Lf then f1 k else E.lab k,λq=>if ∃p∈r1,p.1=q then v1 q else if ∃p∈r2,p.1=q then v2 q else E.rv q,E.bb⟩;have hlr:∀k∈Lr,E'.lab k=f2 k:=λk hk=>if_pos hk;have hlf:∀k∈Lf,E'.lab k=f1 k:=λk hk=>(if_neg λh'=>nd3 k h' k hk rfl).trans (if_pos hk);have hlo:∀k,k∉Lr++Lf->E'.lab k=E.lab k:=λk hk=>(if_neg λh'=>hk (List.mem_append_left _ h')).trans (if_neg λh'=>hk (List.mem_append_right _ h'));have hv1:∀p∈r1,E'.rv p.1=v1 p.1:=λp hp=>if_pos ⟨p,hp,rfl⟩;have hv2:∀p∈r2,E'.rv p.1=v2 p.1:=λp hp=>(if_neg λ⟨p',hp',e⟩=>by obtain⟨i,i1,i2⟩:=a1 p' hp';obtain⟨i',i3,i4,i5⟩:=m2 p hp;have:=mf (i2.symm.trans (e.trans i5));omega).trans (if_pos ⟨p,hp,rfl⟩);have hvo:∀q,(∀p∈r1++r2,p.1≠q)->E'.rv q=E.rv q:=λq hq=>(if_neg λ⟨p,h1,h2⟩=>hq p (List.mem_append_left _ h1) h2).trans (if_neg λ⟨p,h1,h2⟩=>hq p (List.mem_append_right _ h1) h2);have hlk:∀q row,look q=some row->(∀p∈r1++r2,p.1≠q)->q∉qs/\V.row q=some row:=by
  intro q row hq hne;rw[ad2 q hne]at hq;cases hm:bq q qs;·rw[hm]at hq;exact⟨(λhx=>by rw[gi.2 hx]at hm;cases hm),hq⟩
  ·rw[hm]at hq;cases hq
 have hold:∀q row,q∉qs->V.row q=some row->look q=some row/\∀p∈r1++r2,p.1≠q:=by
  intro q row hq hrow;have hm:bq q qs=false:=by
   cases hm:bq q qs;·rfl
   ·exact absurd (gi.1 hm) hq
  have hne:∀p∈r1++r2,p.1≠q:=λp hp e=>by have:=(ad1 p hp).1;rw[e,hm]at this;rw[show(cond false none (V.row q))=V.row q from rfl,hrow]at this;cases this
  refine⟨?_,hne⟩;rw[ad2 q hne,hm];exact hrow
 let σ2:St:=⟨λt=>(V.slot t).map (dL qs),bx,look⟩;obtain⟨c1,c2⟩:=b1 σ2 E' hlf hv1 λp hp=>(ad1 p (List.mem_append_left _ hp)).2;obtain⟨c3,c4⟩:=b2 σ2 E' hlr hv2 λp hp=>(ad1 p (List.mem_append_right _ hp)).2;refine⟨E', ?_,c3⟩;refine R.moved (B:=B) (E':=E') (qs:=qs) h (λk hk hst=>?_) ho hsz rfl (λt=>rfl) hbx2 (λb te cs hb=>?_) (λq row hq hrow=>?_) (λq row hrow=>?_)
 ·have hkL:=hL k hst;refine⟨old k hk hkL,hlo k λhm=>?_⟩;rcases fresh k hm with h1|h1;·exact hkL h1
  ·omega
 ·rcases hbx1 b te cs hb with h1|⟨h1,h2,h3⟩;·exact .inl h1
  ·exact .inr (h3 σ2 E' c1 rfl (hlo _ (hg b h2 h1)))
 ·obtain⟨h1,h2⟩:=hold q row hq hrow;exact⟨row,h1,hvo q h2,rfl,Nat.le_refl _⟩
 ·by_cases hex:∃p∈r1++r2,p.1=q
  ·obtain⟨p,hp,rfl⟩:=hex;have e2:=(ad1 p hp).2;rw[show look p.1=some row from hrow]at e2;injection e2 with e2;subst e2;rcases List.mem_append.1 hp with hp|hp;·exact .inr (c2 p hp)
   ·exact .inr (c4 p hp)
  ·have hne:∀p∈r1++r2,p.1≠q:=λp hp e=>hex ⟨p,hp,e⟩;obtain⟨h1,h2⟩:=hlk q row hrow hne;exact .inl ⟨h1,h2,hvo q hne⟩
def Bh{b:Option (Nat×List af)}{te:Nat}{cs:List af}(h:nC qs b=some (te,cs)):∃cs0,b=some (te,cs0)/\cs=cs0.map (dL qs):=by
 cases b with
 |none=>cases h
 |some p =>obtain⟨te',cs0⟩:=p;simp only[nC,Option.some.injEq,Prod.mk.injEq]at h;obtain⟨rfl,rfl⟩:=h;exact⟨cs0,rfl,rfl⟩
def wx{d:Nat}{rs:List PT}{Y:an rs}{j j':Nat}{cs:List (Bool×List af)}{rows:List (Nat×ac)}(hfl:∀p∈rs,p.agg=false->p.t.nc=1)(h:cr d rs Y j=(cs,rows,j')):∀l,cs≠[(false,l)]\/∃c,l=[c]:=λl=>A9 hfl h l
def wy{σ2:St}{cs:List (Bool×List af)}{vs:List Value}{v:Value}{dst:Option Nat}(h:R w0 lab0 oo n σ2 E' a w')(hr:sf σ2 E' w' cs vs)(hv:mb vs v)(hb:∀l,cs≠[(false,l)]\/∃c,l=[c])(hd:∀d,dst=some d->d<n) :
  R w0 lab0 oo n (wv σ2 dst (nA cs)) E' (a.put dst v) w':=by
 cases dst with
 |none=>exact h
 |some d=>exact R.put h (hd d rfl) (A7 hr hv hb)
def Bi{p:Nat×Ty}{ss ss':List SV}{cs:List af}(h:pE V (some p) ss=some (cs,ss')):∃b,ss=.c (.box b 0)::ss'/\V.box b=some (p.1,cs)/\p.1<bV:=by
 cases ss with
 |nil=>cases h
 |cons s ss =>
  cases s with
  |agg l=>cases h
  |tup l=>cases h
  |c x =>
   cases x with
   |box b f =>
    cases f with
    |succ f=>cases h
    |zero =>
     simp only[pE]at h;split at h
     ·rename_i te' cs' hb;cases hte:(Nat.beq te' p.1&&Nat.blt te' bV);·rw[hte]at h;cases h
      ·rw[hte]at h;simp only[cond_true,Option.some.injEq,Prod.mk.injEq]at h;obtain⟨rfl,rfl⟩:=h;simp only[Bool.and_eq_true]at hte;have e1:=Nat.eq_of_beq_eq_true hte.1;exact⟨b,rfl,by rw[hb,e1],by rw[<-e1];simpa using hte.2⟩
     ·cases h
   |_=>cases h
def IX{f:Nat}{en:jm}(hΓ:wr P w0 lab0 f en)(h:R w0 lab0 oo n V E a w){ss:List SV}{args:Array Value}(hs:ai (aK V E w) ss args.toList){X:cu en.rf×an en.ps}(hin:wt en V ss=some (qs,X))
  (hpre:bZ en.pre X=true) {dst:Option Nat} (hd:∀d,dst=some d->d<n) (hfl:∀p∈en.rs,p.agg=false->p.t.nc=1) (hout:su en V dst ss qs (en.val X)=some V') :
  cM P f args w λe w'=>∃v E',e=.returned v/\R w0 lab0 oo n V' E' (a.put dst v) w':=by
 obtain⟨rf,ps,rs,pre,val⟩:=en;unfold wt at hin;split at hin
 ·rename_i cs ss' hrf;simp only at hin;cases hnb:dq (aF (cs++dB ps ss'));·rw[hnb]at hin;cases hin
  rw[hnb]at hin;simp only[cond_true]at hin;split at hin
  ·rename_i X' hX;injection hin with hin;injection hin with hq hx;subst hx;obtain⟨g1,g2⟩:=dK hX;have hnd:=iw hnb;rw[gj]at hnd;obtain⟨n1,n2,n3⟩:=List.nodup_append.1 hnd;rw[hq]at g2;have hq2:∀q,q∈qs↔q∈aF cs\/q∈aF (dB ps ss'):=λq=>by rw[<-hq,gj];exact List.mem_append
   cases rf with
   |none =>
    simp only[pE,Option.some.injEq,Prod.mk.injEq]at hrf;obtain⟨rfl,rfl⟩:=hrf;obtain⟨L,i1,i2,i3,i4⟩:=nD h g2 hs n2;have hL:∀k,eG E.lab qs (λ_=>False) k->k∉L:=λk hk hkL=>by obtain⟨q,q1,q2⟩:=i3 k hkL;exact hk.1 q ((hq2 q).2 (.inr q1)) q2
    have hL2:∀k,iy E.lab qs k->k∉L:=λk hk=>hL k (nE hk);refine cM.mono (hΓ w args L X' (i1.mono hL2) i2 i4 hpre (λk hk hl=>(h.same.old k hk hl).2) (λk hkL hq=>hL k (ml (h.same.old k hq.1 hq.2).1) hkL)) ?_;rintro e w' ⟨v,vs,Lf,Lr,rfl,A⟩
    have hLf:Lf=[]:=A.ref;subst hLf;unfold su at hout;simp only[wu]at hout;split at hout
    ·rename_i look hadd;injection hout with hout;subst hout;obtain⟨E',hR,hRes⟩:=Bg (B:=λ_=>False) (C1:=λ_ _=>True) (r1:=[]) (d:=cU dst) h hL A.nodup A.fresh ⟨A.os,A.tape,A.output⟩ A.size A.old ⟨λ_=>.st,λ_=>undef,(λp hp=>by cases hp),λ_ _ _ _ _=>⟨trivial,λp hp=>by cases hp⟩⟩
      A.res (cs:=(cr (cU dst) rs (val X').2 0).1) (r2:=(cr (cU dst) rs (val X').2 0).2.1) (j2:=(cr (cU dst) rs (val X').2 0).2.2) rfl hadd (bx:=λb=>nC qs (V.box b)) (λb te cs hb=>.inl ⟨λhf=>hf,Bh hb⟩) (λb te cs hb=>⟨cs.map (dL qs),by simp only[hb,nC],by simp⟩) (λb hf=>hf.elim)
     exact⟨v,E',rfl,wy hR hRes A.ret (wx hfl (j':=(cr (cU dst) rs (val X').2 0).2.2) rfl) hd⟩
    ·cases hout
   |some p =>
    obtain⟨te,t⟩:=p;obtain⟨b,hss,hbox,htb⟩:=Bi hrf;subst hss;match hal:args.toList,hs with
    |[],hs=>exact hs.elim
    |v0::vs0,hs =>
    obtain⟨hv0,hs⟩:=hs;obtain⟨hv0,_⟩:=(show aj V E w (.box b 0) v0 from hv0);obtain⟨arr,k1,k2,k3,k4⟩:=h.boxes b te cs hbox;have k1:=k1.cells htb;obtain⟨L1,o1,o2,o3⟩:=gl h (show dk V.row t cs=some X'.1 from g1) k3 n1;obtain⟨L2,i1,i2,i3,i4⟩:=nD h g2 hs n2;have hlt:=(Array.getElem?_eq_some_iff.1 k1).1;have hg1:E.bb b∉L1++L2:=λhm=>by
     rcases List.mem_append.1 hm with hm|hm;·obtain⟨q,_,hq'⟩:=o3 _ hm;rcases hq' with hq'|hq'<;>rw[k2]at hq'<;>cases hq'
     ·obtain⟨q,_,hq'⟩:=i3 _ hm;rcases hq' with hq'|hq'<;>rw[k2]at hq'<;>cases hq'
    have hL:∀k,eG E.lab qs (λb'=>b'=b) k->k∉E.bb b::(L1++L2):=λk hk hkL=>by
     rcases List.mem_cons.1 hkL with rfl|hkL;·exact hk.2 b rfl k2
     rcases List.mem_append.1 hkL with hkL|hkL;·obtain⟨q,q1,q2⟩:=o3 k hkL;exact hk.1 q ((hq2 q).2 (.inl q1)) q2
     ·obtain⟨q,q1,q2⟩:=i3 k hkL;exact hk.1 q ((hq2 q).2 (.inr q1)) q2
    have hL2:∀k,iy E.lab qs k->k∉E.bb b::(L1++L2):=λk hk=>hL k (nE hk);have hnd12:(L1++L2).Nodup:=List.nodup_append.2 ⟨o2,i2,λx hx y hy e=>by subst e;obtain⟨q,q1,q2⟩:=o3 x hx;obtain⟨q',q1',q2'⟩:=i3 x hy;exact n3 q q1 q' q1' (jR q2 q2')⟩;refine cM.mono (hΓ w args (E.bb b::(L1++L2)) X' ?_ (List.nodup_cons.2 ⟨hg1,hnd12⟩) (λk hk=>?_) hpre (λk hk hl=>(h.same.old k hk hl).2) (λk hkL hq=>hL k (ml (h.same.old k hq.1 hq.2).1) hkL)) ?_;·rw[hal];exact⟨E.bb b,L1,L2,rfl,⟨hv0,arr,k1,k4,o1⟩,i1.mono hL2⟩
    ·rcases List.mem_cons.1 hk with rfl|hk;·exact hlt
     rcases List.mem_append.1 hk with hk|hk;·exact o1.lt k hk
     ·exact i4 k hk
    rintro e w' ⟨v,vs,Lf,Lr,rfl,A⟩
    have Aref:=A.ref;have Ang:=A.notg (E.bb b) (te,t) rfl (by rw[hal,hv0];rfl);rw[hal]at Aref;obtain⟨g,⟨hvg,arr',m1,m2,m3⟩,_⟩:=(Aref:∃g,wo w' te t v0 (val X').1 g Lf/\g∉Lf);have hgb:g=E.bb b:=by rw[hv0]at hvg;injection hvg with hvg;injection hvg with hvg;injection hvg with hvg;exact hvg.symm
    subst hgb;have hlen:(aJ (cU dst) t (val X').1 0).1.length=cs.length:=by rw[pC];have:=k3.len;have:=o1.len;have hl:cs.length=arr.toList.length:=k3.len;omega
    unfold su at hout;simp only[wu]at hout;split at hout
    ·rename_i look hadd;injection hout with hout;subst hout;obtain⟨E',hR,hRes⟩:=Bg (B:=λb'=>b'=b) (C1:=λσ2 E2=>ai (aj σ2 E2 w') (aJ (cU dst) t (val X').1 0).1 arr'.toList) (r1:=(aJ (cU dst) t (val X').1 0).2.1) (j1:=(aJ (cU dst) t (val X').1 0).2.2) (d:=cU dst)
      h hL A.nodup A.fresh ⟨A.os,A.tape,A.output⟩ A.size A.old (by obtain⟨f1,v1,q1,q2⟩:=mg (cU dst) (j:=0) m3 (List.nodup_append.1 A.nodup).2.1;refine⟨f1,v1,λp hp=>?_,q2⟩;obtain⟨i,_,j1,j2⟩:=(gn (cU dst)).2 p hp;exact⟨i,j1,j2⟩)
      A.res (cs:=(cr (cU dst) rs (val X').2 (aJ (cU dst) t (val X').1 0).2.2).1) (r2:=(cr (cU dst) rs (val X').2 (aJ (cU dst) t (val X').1 0).2.2).2.1) (j2:=(cr (cU dst) rs (val X').2 (aJ (cU dst) t (val X').1 0).2.2).2.2) rfl hadd (bx:=am (λb=>nC qs (V.box b)) b (some (te,(aJ (cU dst) t (val X').1 0).1)))
      (λb' te' cs' hb'=>by
       by_cases e:b'=b;·subst e;rw[aU]at hb';injection hb' with hb';injection hb' with e1 e2;subst e1 e2;exact .inr ⟨⟨_,hbox⟩,rfl,λσ2 E2 hC hbb hlab=>⟨arr',.inl ⟨htb,by rw[hbb];exact m1⟩,by rw[hbb,hlab];exact k2,hC,m2⟩⟩
       ·rw[ba _ _ e]at hb';exact .inl ⟨e,Bh hb'⟩)
      (λb' te' cs' hb'=>by
       by_cases e:b'=b;·subst e;rw[hbox]at hb';injection hb' with hb';injection hb' with e1 e2;subst e1 e2;exact⟨_,aU _ _ _,hlen⟩
       ·exact⟨cs'.map (dL qs),by rw[ba _ _ e,hb'];rfl,by simp⟩)
      (λb' hb' _=>by subst hb';exact Ang)
     exact⟨v,E',rfl,wy hR hRes A.ret (wx hfl (j':=(cr (cU dst) rs (val X').2 (aJ (cU dst) t (val X').1 0).2.2).2.2) rfl) hd⟩
    ·cases hout
  ·cases hin
 ·cases hin
end
structure cV where
 te:Nat
 fx:List (Nat×Ty)
 t:Ty
def cW:List (Nat×Ty)->Type
 |[]=>Unit
 |p::l=>List p.2.den×cW l
def iA(w:World)(S:Nat->Prop):(l:List (Nat×Ty))->List Value->cW l->Prop
 |[],[],_=>True
 |p::l,v::vs,x=>Rd w S (.sl p.1 p.2) [v] x.1/\iA w S l vs x.2
 |[],_::_,_=>False
 |_::_,[],_=>False
def gr:Bool->List PT->Type
 |true,ps=>cL ps
 |false,_=>Unit
structure d7 where
 k:cV
 ps:List PT
 back:Bool
 rs:List PT
 pre:Option ((cW k.fx×k.t.den)×an ps->Bool)
 val:(cW k.fx×k.t.den)×an ps->k.t.den×(gr back ps×an rs)
def IY(w:World)(S:Nat->Prop)(k:cV)(v:Value)(lit:List Value)(x:cW k.fx×k.t.den)(g:Nat):Prop :=
 v=.pointer (some ⟨g,0,none⟩)/\∃(arr:Array Value) (cm:List Value),w.heap[g]? = some (.cells arr k.te (0,0))/\(∀u∈arr.toList,u.oneCell'=true)/\arr.toList=lit++cm/\iA w S k.fx lit x.1/\aE w k.t [] cm x.2
def Bj(w:World)(k:cV)(lit:List Value)(y:k.t.den)(g:Nat):Prop :=
 ∃(arr:Array Value) (cm:List Value),w.heap[g]? = some (.cells arr k.te (0,0))/\(∀u∈arr.toList,u.oneCell'=true)/\arr.toList=lit++cm/\aE w k.t [] cm y
def wz(w:World)(S:Nat->Prop)(k:cV)(ps:List PT)(args:List Value)(X:(cW k.fx×k.t.den)×an ps)(lit:List Value)(g:Nat)(L:List Nat):Prop :=
 ∃v0 vs,args=v0::vs/\IY w S k v0 lit X.1 g/\du w S ps vs X.2 L
def sw(w:World)(L:List Nat):(back:Bool)->(ps:List PT)->List Value->gr back ps->Prop
 |true,ps,vs,y=>kH w L ps vs y
 |false,_,_,_=>L=[]
structure wA[DC](w:World)(en:d7)(args:List Value)(lit:List Value)(g:Nat)(L:List Nat)(Y:en.k.t.den×(gr en.back en.ps×an en.rs))(v:Value)(w':World)(vs:List Value)(Lb Lr:List Nat):Prop where
 ret:mb vs v
 res:ma w' en.rs vs Y.2.2 Lr
 ref:Bj w' en.k lit Y.1 g
 io:sw w' Lb en.back en.ps args.tail Y.2.1
 nodup:(Lr++Lb).Nodup
 fresh:∀k∈Lr++Lb,k∈L\/w.heap.size<=k
 os:w'.os=w.os
 tape:Tp w w'
 output:w'.output=w.output
 size:w.heap.size<=w'.heap.size
 old:∀k,k<w.heap.size->k∉g::L->w'.heap[k]? = w.heap[k]?
def dv[DC](P:Program)[Inv P](f:Nat)(en:d7):Prop :=
 ∀(w:World) (args:Array Value) (L:List Nat) (g:Nat) (lit:List Value) (X:(cW en.k.fx×en.k.t.den)×an en.ps),wz w (λk=>k∉g::L) en.k en.ps args.toList X lit g L->(g::L).Nodup->(∀k∈g::L,k<w.heap.size)->bZ en.pre X=true ->
  Inv.I P w->(∀k∈g::L,¬ Inv.B P k)->cM P f args w λe w'=>∃v vs Lb Lr,e=.returned v/\wA w en args.toList lit g L (en.val X) v w' vs Lb Lr
def wB[DC](P:Program)(w0:World)(lab0:Nat->ay)(f:Nat)(en:d7):Prop :=
 ∀(w:World) (args:Array Value) (L:List Nat) (g:Nat) (lit:List Value) (X:(cW en.k.fx×en.k.t.den)×an en.ps),wz w (λk=>k∉g::L) en.k en.ps args.toList X lit g L->(g::L).Nodup->(∀k∈g::L,k<w.heap.size)->bZ en.pre X=true ->
  (∀k,k<w0.heap.size->lab0 k=.st->w.heap[k]? = w0.heap[k]?)->(∀k∈g::L,¬ (k<w0.heap.size/\lab0 k=.st))->cM P f args w λe w'=>∃v vs Lb Lr,e=.returned v/\wA w en args.toList lit g L (en.val X) v w' vs Lb Lr
def dv.at[DC]{P:Program}[Inv P]{f:Nat}{en:d7}(h:dv P f en){w0:World}{lab0:Nat->ay}(hI:Inv.I P w0)(hB:∀k,Inv.B P k->lab0 k=.st):wB P w0 lab0 f en :=
 λw args L g lit X h1 h2 h3 h4 h6 h7=>h w args L g lit X h1 h2 h3 h4 (Inv.keep w0 w (λk hk=>h6 k (Inv.lt w0 k hI hk) (hB k hk)) hI) λk hk hb=>h7 k hk ⟨Inv.lt w0 k hI hb,hB k hb⟩
structure iC where
 k:cV
 ps:List PT
 pre:Option (an ps->Bool)
 val:an ps->k.t.den
structure wC[DC](w:World)(en:iC)(args:List Value)(Y:en.k.t.den)(v:Value)(w':World)(g:Nat):Prop where
 ret:v=.pointer (some ⟨g,0,none⟩)
 new:w.heap.size<=g
 ref:Bj w' en.k (args.take en.k.fx.length) Y g
 os:w'.os=w.os
 tape:Tp w w'
 output:w'.output=w.output
 size:w.heap.size<=w'.heap.size
 old:∀k,k<w.heap.size->w'.heap[k]? = w.heap[k]?
def kI[DC](P:Program)[Inv P](f:Nat)(en:iC):Prop :=
 ∀(w:World) (args:Array Value) (X:an en.ps),du w (λ_=>True) en.ps args.toList X []->bZ en.pre X=true->Inv.I P w->cM P f args w λe w'=>∃v g,e=.returned v/\wC w en args.toList (en.val X) v w' g
def wD[DC](P:Program)(w0:World)(lab0:Nat->ay)(f:Nat)(en:iC):Prop :=
 ∀(w:World) (args:Array Value) (X:an en.ps),du w (λ_=>True) en.ps args.toList X []->bZ en.pre X=true->(∀k,k<w0.heap.size->lab0 k=.st->w.heap[k]? = w0.heap[k]?)->cM P f args w λe w'=>∃v g,e=.returned v/\wC w en args.toList (en.val X) v w' g
def kI.at[DC]{P:Program}[Inv P]{f:Nat}{en:iC}(h:kI P f en){w0:World}{lab0:Nat->ay}(hI:Inv.I P w0)(hB:∀k,Inv.B P k->lab0 k=.st):wD P w0 lab0 f en :=
 λw args X h1 h2 h3=>h w args X h1 h2 (Inv.keep w0 w (λk hk=>h3 k (Inv.lt w0 k hI hk) (hB k hk)) hI)
def pF(bad:List Nat)(look:Nat->Option ac):(l:List (Nat×Ty))->List af->Option (cW l)
 |[],[]=>some ()
 |p::l,c::cs=>dJ (sa bad look p.1 p.2 [c]) (pF bad look l cs)
 |[],_::_=>none
 |_::_,[]=>none
def wE(en:d7)(V:St)(ss:List SV):Option (List Nat×((cW en.k.fx×en.k.t.den)×an en.ps)) :=
 match pE V (some (en.k.te,en.k.t)) ss with
 |some (cs,ss')=>cond (dA en.ps&&(dq (aF (dB en.ps ss'))&&(aF (cs.drop en.k.fx.length)).isEmpty))
  (match dJ (dJ (pF (aF (dB en.ps ss')) V.row en.k.fx (cs.take en.k.fx.length)) (dk V.row en.k.t (cs.drop en.k.fx.length))) (gq (aF (dB en.ps ss')) V.row en.ps ss')with
   |some X=>some (aF (dB en.ps ss'),X)
   |none=>none) none
 |none=>none
def dropK:Bool->List Nat->af->af
 |true,qs=>fh qs
 |false,qs=>dL qs
def kJ(f:af->af)(qs:List Nat)(V:St):St:=match qs with
 |[]=>V
 |_::_=>V.mapc f
def sx(k:cV)(ss:List SV)(y:k.t.den)(bx:Nat->Option (Nat×List af)):Nat->Option (Nat×List af):=match ss with
 |.c (.box b 0)::_=>match bx b with
  |some (te,cs)=>am bx b (some (te,cs.take k.fx.length++dF k.t y none))
  |none=>bx
 |_=>bx
def Bk:(back:Bool)->(ps:List PT)->List SV->gr back ps->List Nat->(Nat->Option ac)->Option (Nat->Option ac)
 |true,ps,ss,y,_,look=>nB ps ss y look
 |false,_,_,_,[],look=>some look
 |false,_,_,_,q::qs,look=>some λr=>cond (bq r (q::qs)) none (look r)
def wF(en:d7)(V:St)(dst:Option Nat)(ss:List SV)(qs:List Nat)(Y:en.k.t.den×(gr en.back en.ps×an en.rs)):Option St :=
 match Bk en.back en.ps ss.tail Y.2.1 qs V.row with
 |some look=>match cr (cU dst) en.rs Y.2.2 0 with
  | (cs,rows,_)=>match mh rows look with
   |some look2=>some (wv ⟨(kJ (dropK en.back qs) qs V).slot,sx en.k ss Y.1 (kJ (dropK en.back qs) qs V).box,look2⟩ dst (nA cs))
   |none=>none
 |none=>none
def wG(en:iC)(V:St)(ss:List SV):Option (an en.ps):=cond (b7 en.ps&&Nat.blt en.k.te bV) (gq [] V.row en.ps ss) none
def firstCells:Nat->List SV->Option (List af)
 |0,_=>some []
 |m+1,.c c::ss=>match firstCells m ss with
  |some cs=>some (c::cs)
  |none=>none
 |_+1,_=>none
def wH(en:iC)(V:St)(dst:Option Nat)(ss:List SV)(Y:en.k.t.den):Option St :=
 match dst,firstCells en.k.fx.length ss with
 |some d,some cs=>match V.box d with
  |none=>some ⟨am V.slot d (.c (.box d 0)),am V.box d (some (en.k.te,cs++dF en.k.t Y none)),V.row⟩
  |some _=>none
 |_,_=>none
section
variable {P : Program} {V V' : St} {E E' : aM} {w w' : World} {w0 : World} {lab0 : Nat → ay} {oo : Nat → Value} {n : Nat} {a : Act} {qs : List Nat} [DC]
def IZ:∀c:af,dL [] c=c
 |.mp _=>rfl
 |.mset _ _=>rfl
 |.own _=>rfl
 |.part _ _ _=>rfl
 |.elt _ _ _=>rfl
 |.sn _ _ _ (some _)=>rfl
 |.full _ _ _ (some _)=>rfl
 |.selt _ _ (some _) _=>rfl
 |.sn _ _ _ none=>rfl
 |.full _ _ _ none=>rfl
 |.selt _ _ none _=>rfl
 |.undef=>rfl
 |.int _ _=>rfl
 |.bool _=>rfl
 |.str _=>rfl
 |.err _=>rfl
 |.nil=>rfl
 |.box _ _=>rfl
 |.fn _ _=>rfl
 |.bor _ _ _ _=>rfl
def Bl(back:Bool)(c:af):dropK back [] c=c:=by
 cases back;·exact IZ c
 ·exact wl c
def I0(back:Bool)(V:St)(t:Nat):(kJ (dropK back qs) qs V).slot t=(V.slot t).map (dropK back qs):=by
 cases qs with
 |nil=>exact(SV.map_id (Bl back) _).symm
 |cons q qs=>rfl
def wI(back:Bool)(V:St)(b:Nat):(kJ (dropK back qs) qs V).box b=match V.box b with|some (te,cs)=>some (te,cs.map (dropK back qs))|none=>none:=by
 cases qs with
 |nil =>
  show V.box b=_;cases V.box b with
  |none=>rfl
  |some p=>simp only[so (Bl back)]
 |cons q qs=>rfl
section
variable {B : Nat → Prop}
def aj.backed(hk:∀k,k<w.heap.size->eG E.lab qs B k->w'.heap[k]? = w.heap[k]?/\E'.lab k=E.lab k)
  (hrow:∀r row,V.row r=some row->∃row',V'.row r=some row'/\E'.rv r=E.rv r/\row'.t.nc=row.t.nc/\row.xs.length<=row'.xs.length)
  (hbox:∀b te cs,V.box b=some (te,cs)->∃cs',V'.box b=some (te,cs')/\cs'.length=cs.length) (hbb:E'.bb=E.bb)
  {c:af}{v:Value} (h:aj V E w c v):aj V' E' w' (fh qs c) v:=by
 have hm:=aj.moved (V':=V') (E':=E') (w':=w') hk (λr row _ hr=>hrow r row hr) hbox hbb h;cases c with
 |own r =>obtain⟨rfl,h1,h2⟩:=h;obtain⟨row,hr⟩:=Option.isSome_iff_exists.1 h1;obtain⟨row',k1,k2,_⟩:=hrow r row hr;exact⟨k2.symm,by rw[k1];rfl,h2⟩
 |part r lo n =>obtain⟨row,A,c,h1,h2,h3,h4,h5,h6,h7,h8⟩:=h;obtain⟨row',g1,g2,g3,g4⟩:=hrow r row h1;refine⟨row',A,c,g1,h2,h3,by omega,h5,h6,h7,λhn=>?_⟩;rw[g2,g3];exact h8 hn
 |elt r i f =>obtain⟨row,g,n,c,h1,h2,h3,h4,h5,h6⟩:=h;obtain⟨row',g1,g2,g3,g4⟩:=hrow r row h1;exact⟨row',g,n,c,g1,by rw[g2];exact h2,h3,by omega,by rw[g3];exact h5,by rw[g3];exact h6⟩
 |_=>exact hm
def aj.dropK{back:Bool}(hk:∀k,k<w.heap.size->eG E.lab qs B k->w'.heap[k]? = w.heap[k]?/\E'.lab k=E.lab k)
  (hrow:∀r row,(back=true\/r∉qs)->V.row r=some row->∃row',V'.row r=some row'/\E'.rv r=E.rv r/\row'.t.nc=row.t.nc/\row.xs.length<=row'.xs.length)
  (hbox:∀b te cs,V.box b=some (te,cs)->∃cs',V'.box b=some (te,cs')/\cs'.length=cs.length) (hbb:E'.bb=E.bb)
  {c:af}{v:Value} (h:aj V E w c v):aj V' E' w' (Fw.dropK back qs c) v:=by
 cases back;·exact aj.moved hk (λr row hq=>hrow r row (.inr hq)) hbox hbb h
 ·exact aj.backed hk (λr row=>hrow r row (.inl rfl)) hbox hbb h
def R.step{f:af->af}(h:R w0 lab0 oo n V E a w)(hc:∀c v,aj V E w c v->aj V' E' w' (f c) v)(hk:∀k,k<w.heap.size->eG E.lab qs B k->w'.heap[k]? = w.heap[k]?/\E'.lab k=E.lab k)
  (ho:w'.os=w.os/\Tp w w'/\w'.output=w.output) (hs:w.heap.size<=w'.heap.size) (hbb:E'.bb=E.bb) (hslot:∀t,V'.slot t=(V.slot t).map f)
  (hboxes:∀b te cs,V'.box b=some (te,cs)->(¬ B b/\∃cs0,V.box b=some (te,cs0)/\cs=cs0.map f)\/ji V' E' w' b te cs)
  (hrel:∀r row,V'.row r=some row->(r∉qs/\V.row r=some row/\E'.rv r=E.rv r)\/bP w' E'.lab r row (E'.rv r)) :
  R w0 lab0 oo n V' E' a w':=by
 refine⟨h.bound,h.size,h.defers,λt=>?_,λb te cs hb=>?_,λr row hr=>?_, ?_⟩;·rw[hslot];exact(h.slots t).mapl hc
 ·rcases hboxes b te cs hb with⟨hB,cs0,hb2,rfl⟩|hb2;·obtain⟨arr,k1,k2,k3,k4⟩:=h.boxes b _ _ hb2;have hlt:=k1.lt;have hsp:eG E.lab qs B (E.bb b):=⟨λq _ hq=>(by rcases hq with hq|hq<;>rw[k2]at hq<;>cases hq),λb' hB' hb'=>by rw[k2]at hb';injection hb' with hb';subst hb';exact hB hB'⟩;obtain⟨j1,j2⟩:=hk _ hlt hsp;exact⟨arr,by rw[hbb,j1];exact k1,by rw[hbb,j2];exact k2,k3.mapl hc,k4⟩
  ·exact hb2
 ·rcases hrel r row hr with⟨h1,h2,h3⟩|h2;·rw[h3];exact(h.rows r row h2).moved hk h1
  ·exact h2
 ·refine⟨ho.1.trans h.same.os,ho.2.1.trans h.same.tape,ho.2.2.trans h.same.output,Nat.le_trans h.same.size hs,λk hk' hl=>?_,λk hk' hl=>?_⟩;·obtain⟨g1,g2⟩:=h.same.old k hk' hl;obtain⟨j1,j2⟩:=hk k (Nat.lt_of_lt_of_le hk' h.same.size) (ml g1);exact⟨by rw[j2];exact g1,by rw[j1];exact g2⟩
  ·obtain⟨g1,g2⟩:=h.same.gone k hk' hl;obtain⟨j1,j2⟩:=hk k (Nat.lt_of_lt_of_le hk' h.same.size) (Bf g1);exact⟨by rw[j2];exact g1,by rw[j1];exact g2⟩
end
def Bm(h:R w0 lab0 oo n V E a w){bad:List Nat}:∀{l:List (Nat×Ty)}{cs:List af}{us:List Value}{x:cW l},pF bad V.row l cs=some x->ai (aj V E w) cs us->iA w (iy E.lab bad) l us x/\cs.length=l.length
 |[],[],[],_,_,_=>⟨trivial,rfl⟩
 |p::l,c::cs,u::us,x,hp,hc=>by simp only[pF]at hp;obtain⟨g1,g2⟩:=dK hp;obtain⟨i1,i2⟩:=Bm h g2 hc.2;exact⟨⟨AY h g1 (us:=[u]) ⟨hc.1,trivial⟩,i1⟩,by simp[i2]⟩
 |[],[],_::_,_,_,hc=>hc.elim
 |[],_::_,_,_,hp,_=>by cases hp
 |_::_,[],_,_,hp,_=>by cases hp
 |_::_,_::_,[],_,_,hc=>hc.elim
def iA.mono{S S':Nat->Prop}(h:∀k,S k->S' k):∀{l:List (Nat×Ty)}{vs:List Value}{x:cW l},iA w S l vs x->iA w S' l vs x
 |[],[],_,_=>trivial
 |p::l,v::vs,x,h'=>⟨h'.1.mono h,h'.2.mono h⟩
 |[],_::_,_,h'=>h'.elim
 |_::_,[],_,h'=>h'.elim
def iA.len{S:Nat->Prop}:∀{l:List (Nat×Ty)}{vs:List Value}{x:cW l},iA w S l vs x->vs.length=l.length
 |[],[],_,_=>rfl
 |p::l,v::vs,x,h'=>by simp[h'.2.len]
 |[],_::_,_,h'=>h'.elim
 |_::_,[],_,h'=>h'.elim
def sy:∀{ps:List PT}{ss:List SV},b7 ps=true->dB ps ss=[]
 |[],_,_=>by cases ‹List SV›<;>rfl
 |_::_,[],_=>rfl
 |p::ps,s::ss,h=>by simp only[b7,List.all_cons,Bool.and_eq_true,Bool.not_eq_true']at h;simp only[dB,h.1,cond_false,List.nil_append];exact sy h.2
def wJ:∀{ps:List PT}{ss:List SV},dA ps=true->dB ps ss=eT ps ss
 |[],_,_=>by cases ‹List SV›<;>rfl
 |_::_,[],_=>rfl
 |p::ps,s::ss,h=>by
  simp only[dA]at h;cases hio:p.io;·rw[hio]at h;simp only[dB,eT,hio,cond_false,List.nil_append];exact wJ h
  ·rw[hio]at h;simp only[dB,eT,hio,cond_true,sy h,List.append_nil];all_goals rfl
def pG{t:Ty}{cm:List Value}{y:t.den}(h:aE w' t [] cm y):ai (aj V' E' w') (dF t y none) cm :=
 lU (p:=none) (h.rd λk hk=>by cases hk)
def I1{f:Nat}{en:d7}(hΓ:wB P w0 lab0 f en)(h:R w0 lab0 oo n V E a w){ss:List SV}{args:Array Value}(hs:ai (aK V E w) ss args.toList){X:(cW en.k.fx×en.k.t.den)×an en.ps}(hin:wE en V ss=some (qs,X))
  (hpre:bZ en.pre X=true) {dst:Option Nat} (hd:∀d,dst=some d->d<n) (hfl:∀p∈en.rs,p.agg=false->p.t.nc=1) (hout:wF en V dst ss qs (en.val X)=some V') :
  cM P f args w λe w'=>∃v E',e=.returned v/\R w0 lab0 oo n V' E' (a.put dst v) w':=by
 obtain⟨⟨te,fx,t⟩,ps,back,rs,pre,val⟩:=en;unfold wE at hin;split at hin
 ·rename_i cs ss' hrf;simp only at hin;cases hnb:(dA ps&&(dq (aF (dB ps ss'))&&(aF (cs.drop fx.length)).isEmpty));·rw[hnb]at hin;cases hin
  rw[hnb]at hin;simp only[Bool.and_eq_true,List.isEmpty_iff]at hnb;obtain⟨hone,hnb,hnone⟩:=hnb;simp only[cond_true]at hin;split at hin
  ·rename_i X' hX;injection hin with hin;injection hin with hq hx;subst hx;obtain⟨g12,g3⟩:=dK hX;obtain⟨g1,g2⟩:=dK g12;have hnd:=iw hnb;obtain⟨b,hss,hbox,htb⟩:=Bi hrf;subst hss;match hal:args.toList,hs with
   |[],hs=>exact hs.elim
   |v0::vs0,hs =>
   obtain⟨hv0,hs⟩:=hs;obtain⟨hv0,_⟩:=(show aj V E w (.box b 0) v0 from hv0);obtain⟨arr,k1,k2,k3,k4⟩:=h.boxes b te cs hbox;have k1:=k1.cells htb;have k3a:=k3.take fx.length;have k3b:=k3.drop fx.length;obtain⟨r1,r2⟩:=Bm h (show pF _ V.row fx (cs.take fx.length)=some X'.1.1 from g1) k3a;obtain⟨L1,o1,o2,o3⟩:=gl h (show dk V.row t (cs.drop fx.length)=some X'.1.2 from g2) k3b (by rw[hnone];exact List.nodup_nil);have hL1:L1=[]:=by
    cases L1 with
    |nil=>rfl
    |cons x xs =>obtain⟨q,q1,_⟩:=o3 x List.mem_cons_self;rw[hnone]at q1;cases q1
   subst hL1;obtain⟨L,i1,i2,i3,i4⟩:=nD h (show gq _ V.row ps ss'=some X'.2 from g3) hs hnd;rw[hq]at i1 i3 r1;have hlt:=(Array.getElem?_eq_some_iff.1 k1).1;have hgL:E.bb b∉L:=λhm=>by obtain⟨q,_,hq'⟩:=i3 _ hm;rcases hq' with hq'|hq'<;>rw[k2]at hq'<;>cases hq'
   have hL:∀k,eG E.lab qs (λb'=>b'=b) k->k∉E.bb b::L:=λk hk hkL=>by
    rcases List.mem_cons.1 hkL with rfl|hkL;·exact hk.2 b rfl k2
    ·obtain⟨q,q1,q2⟩:=i3 k hkL;exact hk.1 q q1 q2
   have hL2:∀k,iy E.lab qs k->k∉E.bb b::L:=λk hk=>hL k (nE hk);have hal0:arr.toList=arr.toList.take fx.length++arr.toList.drop fx.length:=(List.take_append_drop _ _).symm;refine cM.mono (hΓ w args L (E.bb b) (arr.toList.take fx.length) X' ?_ (List.nodup_cons.2 ⟨hgL,i2⟩) (λk hk=>?_) hpre (λk hk hl=>(h.same.old k hk hl).2) (λk hkL hq=>hL k (ml (h.same.old k hq.1 hq.2).1) hkL)) ?_;·exact⟨v0,vs0,hal,⟨hv0,arr,_,k1,k4,hal0,r1.mono hL2,o1⟩,i1.mono hL2⟩
   ·rcases List.mem_cons.1 hk with rfl|hk;·exact hlt
    ·exact i4 k hk
   rintro e w' ⟨v,vs,Lb,Lr,rfl,A⟩
   obtain⟨arr',cm',m1,m2,m3,m4⟩:=A.ref;have m1:w'.heap[E.bb b]? = some (.cells arr' te (0,0)):=m1;have m4:aE w' t [] cm' (val X').1:=m4;obtain⟨nd1,nd2,nd3⟩:=List.nodup_append.1 A.nodup;unfold wF at hout;split at hout
   ·rename_i look hlook;have hlook:Bk back ps ss' (val X').2.1 qs V.row=some look:=hlook;have hio:sw w' Lb back ps vs0 (val X').2.1:=by have:=A.io;rw[hal]at this;exact this
    obtain⟨f1,W1,W2⟩:∃f1:Nat->ay,(∀r row,(back=true\/r∉qs)->V.row r=some row->∃row',look r=some row'/\row'.t.nc=row.t.nc/\row.xs.length<=row'.xs.length) /\
      ∀r row',look r=some row'->(r∉qs/\V.row r=some row')\/((∃row,V.row r=some row)/\∀lab2:Nat->ay,(∀k∈Lb,lab2 k=f1 k)->bP w' lab2 r row' (E.rv r)):=by
     cases hbk:back
     ·subst hbk;have hkill:look=λr=>cond (bq r qs) none (V.row r):=by
       cases qs with
       |nil=>injection hlook with hlook;subst hlook;rfl
       |cons q qs=>injection hlook with hlook;exact hlook.symm
      subst hkill;refine⟨λ_=>.st,λr row hr hrow=>?_,λr row' hr=>?_⟩
      ·have hm:bq r qs=false:=by
        cases hm:bq r qs;·rfl
        ·exact absurd (gi.1 hm) (hr.resolve_left (by simp))
       exact⟨row,by simp only[hm,cond_false];exact hrow,rfl,Nat.le_refl _⟩
      ·have hr:cond (bq r qs) none (V.row r)=some row':=hr;cases hm:bq r qs;·rw[hm]at hr;exact .inl ⟨(λhx=>by rw[gi.2 hx]at hm;cases hm),hr⟩
       ·rw[hm]at hr;cases hr
     ·subst hbk;have hq':aF (eT ps ss')=qs:=by rw[<-wJ hone];exact hq
      obtain⟨_,_,_,_,hW⟩:=A6 h hone (by rw[<-wJ hone];exact hnb) (by rw[hq',<-hq];exact g3) hs;obtain⟨f1,W⟩:=hW hlook hio nd2;rw[hq']at W;refine⟨f1,λr row _ hrow=>?_,λr row' hr=>?_⟩
      ·by_cases hm:r∈qs;·obtain⟨ro,row',w1,w2,w3,w4,_⟩:=W.row r hm;rw[hrow]at w1;injection w1 with w1;subst w1;exact⟨row',w2,by rw[w3],by omega⟩
       ·exact⟨row,by rw[W.other r hm];exact hrow,rfl,Nat.le_refl _⟩
      ·by_cases hm:r∈qs;·obtain⟨ro,row2,w1,w2,w3,w4,w5⟩:=W.row r hm;rw[hr]at w2;injection w2 with w2;subst w2;exact .inr ⟨⟨ro,w1⟩,w5⟩
       ·rw[W.other r hm]at hr;exact .inl ⟨hm,hr⟩
    split at hout;rename_i rcs rows j hres;split at hout
    ·rename_i look2 hadd;injection hout with hout;subst hout;obtain⟨f2,rvf,c1,c2⟩:=sj (cU dst) (j:=0) A.res nd1;have hres:cr (cU dst) rs (val X').2.2 0=(rcs,rows,j):=hres;rw[hres]at c1 c2;obtain⟨ad1,ad2⟩:=se hadd
     classical
     let E':aM:=⟨λk=>if k∈Lr then f2 k else if k∈Lb then f1 k else E.lab k,λq=>if ∃p∈rows,p.1=q then rvf q else E.rv q,E.bb⟩;have hlr:∀k∈Lr,E'.lab k=f2 k:=λk hk=>if_pos hk;have hlb:∀k∈Lb,E'.lab k=f1 k:=λk hk=>(if_neg λh'=>nd3 k h' k hk rfl).trans (if_pos hk);have hlo:∀k,k∉Lr++Lb->E'.lab k=E.lab k:=λk hk=>(if_neg λh'=>hk (List.mem_append_left _ h')).trans (if_neg λh'=>hk (List.mem_append_right _ h'));have hrvo:∀q,(∀p∈rows,p.1≠q)->E'.rv q=E.rv q:=λq hq=>if_neg λ⟨p,h1,h2⟩=>hq p h1 h2;have hlne:∀q row,look q=some row->∀p∈rows,p.1≠q:=λq row hq p hp e=>by have:=(ad1 p hp).1;rw[e,hq]at this;cases this
     let σ2:St:=⟨(kJ (dropK back qs) qs V).slot,sx ⟨te,fx,t⟩ (.c (.box b 0)::ss') (val X').1 (kJ (dropK back qs) qs V).box,look2⟩;have hbx:σ2.box=am (kJ (dropK back qs) qs V).box b (some (te,(cs.map (dropK back qs)).take fx.length++dF t (val X').1 none)):=by show sx (⟨te,fx,t⟩:cV) (.c (.box b 0)::ss') (val X').1 (kJ (dropK back qs) qs V).box=_;simp only[sx,wI,hbox]
     have hlen:((cs.map (dropK back qs)).take fx.length++dF t (val X').1 none).length=cs.length:=by have e1:=(pG (V':=V) (E':=E) m4).len;have e2:=m4.len;have e3:=o1.len;have e4:=k3b.len;have e5:=r2;simp only[List.length_append,List.length_take,List.length_map,List.length_drop]at e1 e2 e3 e4 e5 ⊢;omega
     have hbx2:∀b' te' cs',V.box b'=some (te',cs')->∃cs2,σ2.box b'=some (te',cs2)/\cs2.length=cs'.length:=by
      intro b' te' cs' hb';rw[hbx];by_cases e:b'=b;·subst e;rw[hbox]at hb';injection hb' with hb';injection hb' with e1 e2;subst e1 e2;exact⟨_,aU _ _ _,hlen⟩
      ·exact⟨cs'.map (dropK back qs),by rw[ba _ _ e,wI,hb'],by simp⟩
     have hk:∀k,k<w.heap.size->eG E.lab qs (λb'=>b'=b) k->w'.heap[k]? = w.heap[k]?/\E'.lab k=E.lab k:=λk hk hst=>by
      have hkL:=hL k hst;refine⟨A.old k hk hkL,hlo k λhm=>?_⟩;rcases A.fresh k hm with h1|h1;·exact hkL (List.mem_cons_of_mem _ h1)
      ·omega
     have hrow:∀r row,(back=true\/r∉qs)->V.row r=some row->∃row',σ2.row r=some row'/\E'.rv r=E.rv r/\row'.t.nc=row.t.nc/\row.xs.length<=row'.xs.length:=λr row hr hrow=>by obtain⟨row',q1,q2,q3⟩:=W1 r row hr hrow;exact⟨row',(ad2 r (hlne r row' q1)).trans q1,hrvo r (hlne r row' q1),q2,q3⟩
     have hc:∀c v,aj V E w c v->aj σ2 E' w' (dropK back qs c) v:=λc v h=>aj.dropK hk hrow hbx2 rfl h;have hgo:E'.lab (E.bb b)=.box b:=by
      rw[hlo (E.bb b) λhm=>?_];·exact k2
      ·rcases A.fresh _ hm with h1|h1;·exact hgL h1
       ·omega
     have hR:R w0 lab0 oo n σ2 E' a w':=by
      refine R.step (B:=λb'=>b'=b) (E':=E') (qs:=qs) (f:=dropK back qs) h hc hk ⟨A.os,A.tape,A.output⟩ A.size rfl (λt=>I0 back V t) (λb' te' cs' hb'=>?_) (λr row hr=>?_)
      ·rw[hbx]at hb';by_cases e:b'=b;·subst e;rw[aU]at hb';injection hb' with hb';injection hb' with e1 e2;subst e1 e2;refine .inr ⟨arr',.inl ⟨htb,m1⟩,hgo, ?_,m2⟩;rw[m3,<-List.map_take];exact ai.app (k3a.mapl hc) (pG m4)
       ·rw[ba _ _ e,wI]at hb';split at hb';·rename_i te2 cs2 hb2;injection hb' with hb';injection hb' with e1 e2;subst e1 e2;exact .inl ⟨e,cs2,hb2,rfl⟩
        ·cases hb'
      ·by_cases hex:∃p∈rows,p.1=r;·obtain⟨p,hp,rfl⟩:=hex;have e2:=(ad1 p hp).2;rw[show look2 p.1=some row from hr]at e2;injection e2 with e2;subst e2;exact .inr ((c2 σ2 E' hlr (λp' hp'=>if_pos ⟨p',hp',rfl⟩) (λp' hp'=>(ad1 p' hp').2)).2 p hp)
       ·have hne:∀p∈rows,p.1≠r:=λp hp e=>hex ⟨p,hp,e⟩;have hr:look2 r=some row:=hr;rw[ad2 r hne]at hr;rcases W2 r row hr with⟨h1,h2⟩|⟨_,h2⟩;·exact .inl ⟨h1,h2,hrvo r hne⟩
        ·rw[hrvo r hne];exact .inr (h2 E'.lab hlb)
     exact⟨v,E',rfl,wy hR (c2 σ2 E' hlr (λp' hp'=>if_pos ⟨p',hp',rfl⟩) (λp' hp'=>(ad1 p' hp').2)).1 A.ret (wx hfl hres) hd⟩
    ·cases hout
   ·cases hout
  ·cases hin
 ·cases hin
def Bn:∀{m:Nat}{ss:List SV}{vs:List Value}{cs:List af},firstCells m ss=some cs->ai (aK V E w) ss vs->ai (aj V E w) cs (vs.take m)
 |0,ss,vs,cs,hc,hs=>by injection hc with hc;subst hc;rw[List.take_zero];trivial
 |m+1,[],vs,cs,hc,hs=>by cases hc
 |m+1,.agg _::ss,vs,cs,hc,hs=>by cases hc
 |m+1,.tup _::ss,vs,cs,hc,hs=>by cases hc
 |m+1,.c c::ss,[],cs,hc,hs=>hs.elim
 |m+1,.c c::ss,v::vs,cs,hc,hs=>by
  simp only[firstCells]at hc;split at hc;·rename_i cs' hc';injection hc with hc;subst hc;exact⟨hs.1,Bn hc' hs.2⟩
  ·cases hc
def I9{f:Nat}{en:iC}(hΓ:wD P w0 lab0 f en)(h:R w0 lab0 oo n V E a w){ss:List SV}{args:Array Value}(hs:ai (aK V E w) ss args.toList){X:an en.ps}(hin:wG en V ss=some X)
  (hpre:bZ en.pre X=true) {dst:Option Nat} (hd:∀d,dst=some d->d<n) (hout:wH en V dst ss (en.val X)=some V') :
  cM P f args w λe w'=>∃v E',e=.returned v/\R w0 lab0 oo n V' E' (a.put dst v) w':=by
 obtain⟨⟨te,fx,t⟩,ps,pre,val⟩:=en;unfold wG at hin;simp only at hin;cases hnb:(b7 ps&&Nat.blt te bV);·rw[hnb]at hin;cases hin
 rw[hnb]at hin;simp only[cond_true]at hin;simp only[Bool.and_eq_true]at hnb;have hno:=hnb.1;have htb:te<bV:=by simpa using hnb.2
 obtain⟨L,i1,i2,i3,i4⟩:=nD h hin hs (by rw[sy hno];exact List.nodup_nil);have hL:L=[]:=by
  cases L with
  |nil=>rfl
  |cons x xs =>obtain⟨q,q1,_⟩:=i3 x List.mem_cons_self;rw[sy hno]at q1;cases q1
 subst hL;refine cM.mono (hΓ w args X (i1.mono λ_ _=>trivial) hpre (λk hk hl=>(h.same.old k hk hl).2)) ?_;rintro e w' ⟨v,g,rfl,A⟩
 unfold wH at hout;split at hout
 ·rename_i d cs hcs;have hcs:firstCells fx.length ss=some cs:=hcs;split at hout
  ·rename_i hfree;injection hout with hout;subst hout;obtain⟨arr,cm,m1,m2,m3,m4⟩:=A.ref;have m1:w'.heap[g]? = some (.cells arr te (0,0)):=m1;have m3:arr.toList=args.toList.take fx.length++cm:=m3;have m4:aE w' t [] cm (val X):=m4;have hg:=A.new;let E':aM:={ lab:=am E.lab g (.box d),rv:=E.rv,bb:=am E.bb d g };let σ1:St:={ slot:=V.slot,box:=am V.box d (some (te,cs++dF t (val X) none)),row:=V.row };have hb:∀k,k<w.heap.size->w'.heap[k]? = w.heap[k]?/\E'.lab k=E.lab k:=λk hk=>⟨A.old k hk,ba _ _ (by omega)⟩;have m:cq V E w σ1 E' w':=cq.grow hb (λr row hr=>⟨row,hr,rfl,rfl,Nat.le_refl _⟩)
    (λb te' cs' hq=>by
     have hne:b≠d:=λe=>by rw[e,hfree]at hq;cases hq
     exact⟨te',cs',(ba _ _ hne).trans hq,ba _ _ hne,rfl⟩)
   have hR:R w0 lab0 oo n σ1 E' a w':=by
    refine h.grow (E':=E') hb ⟨A.os,A.tape,A.output⟩ A.size rfl (λr row hr=>.inl ⟨hr,rfl⟩) (λ_ _ h=>h) (λb te' cs' hq=>?_) (λb x hq=>?_)
    ·by_cases e:b=d
     ·subst e;rw[show σ1.box b=some (te,cs++dF t (val X) none)from aU _ _ _]at hq;injection hq with hq;injection hq with e1 e2;subst e1 e2;refine .inr ⟨hfree,arr, ?_, ?_, ?_,m2⟩;·show jh te arr w'.heap[am E.bb b g b]?;rw[aU];exact .inl ⟨htb,m1⟩
      ·show am E.lab g (.box b) (am E.bb b g b)=_;rw[aU,aU]
      ·rw[m3];exact ai.app ((Bn hcs hs).imp λ_ _ h=>h.move m) (pG m4)
     ·exact .inl ⟨(ba _ _ e).symm.trans hq,ba _ _ e⟩
    ·have hne:b≠d:=λe=>by rw[e,hfree]at hq;cases hq
     exact(ba _ _ hne).trans hq
   refine⟨v,E',rfl,hR.put (hd d rfl) (s:=.c (.box d 0)) ⟨?_,te,cs++dF t (val X) none,aU _ _ _, ?_⟩⟩;·show _=Value.pointer (some ⟨am E.bb d g d,0,none⟩);rw[aU];exact A.ret
   ·have e1:=(pG (V':=V) (E':=E) m4).len;have e2:=m4.len;have:=t.nc_pos;rw[List.length_append];omega
  ·cases hout
 ·cases hout
end
structure mo where
 ps:List PT
 e:Nat
 t:Ty
 pre:Option (an ps->Bool)
 val:an ps->List t.den
def pH:(ps:List PT)->List SV->Option (an ps)
 |[],[]=>some ()
 |⟨t,false,false⟩::ps,.c c::ss=>dJ (ge t [c]) (pH ps ss)
 |⟨t,true,false⟩::ps,.agg cs::ss=>dJ (ge t cs) (pH ps ss)
 |_,_=>none
def wK(en:mo)(V:St)(dst:Option Nat)(Y:List en.t.den):Option St:=match dst with
 |some d=>match V.row (aT d 0)with
  |none=>some ⟨am V.slot d (.c (.own (aT d 0))),V.box,am V.row (aT d 0) (some ⟨en.e,en.t,Y,false,false⟩)⟩
  |some _=>none
 |none=>none
end Go.Fw
