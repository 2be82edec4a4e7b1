/- The framework: what a symbolic run of the model's code tells, proved sound. Nothing is assumed. -/
import Derived.Test.YtakkbbpdfmkbnaaFwa
import Derived.ArgAppend
import Derived.OrdersHeld
set_option linter.defProp false
set_option linter.unusedVariables false
set_option linter.unusedSectionVars false
set_option linter.unusedSimpArgs false
namespace Go.Fw
open Go.RowKit
def li:Option St->bi
 |some V=>.ok V
 |none=>.fail
def o6:Operand->Operand->Bool
 |.tmp x,.tmp y=>Nat.beq x y
 |.const (.int k a),.const (.int k' b)=>jM k k'&&decide (a=b)
 |_,_=>false
def mI:Nat->List (Nat×Operand)->Bool
 |_,[]=>true
 |i,(j,_)::r=>Nat.beq i j&&mI (i+1) r
def jY:List ae->Bool
 |[]=>true
 |.undef::_=>false
 |_::cs=>jY cs
def sW(T:aY)(V:St)(t:Nat)(p:SV)(x:SV):bi :=
 match T t,p,x.cells with
 |some i,.c (.box b f),some vs=>cond (Nat.beq vs.length i.zero.length&&jY vs) (li (xk V b f vs)) .fail
 |some i,.c (.elt r j f),some vs=>cond (Nat.beq vs.length i.zero.length) (match V.row r with
  |some row=>cond (Nat.beq f 0&&(Nat.beq vs.length row.t.nc&&row.deep))
    (match cW V.row row.t vs with
    |some y=>cond (cY (aA vs)&&!(bk r (aA vs))) (match absorbs (some r) (aA vs) V with
     |some σ1=>.ok { σ1 with row:=am σ1.row r (some { row with xs:=row.xs.set j.toNat y }) }
     |none=>.fail) .fail
    |none=>.fail)
    (match vs with
    |[c]=>match kX row.t (row.xs.getD j.toNat row.t.dflt) f c with
     |some y=>.ok { V with row:=am V.row r (some { row with xs:=row.xs.set j.toNat y }) }
     |none=>.fail
    |_=>.fail)
  |none=>.fail) .fail
 |_,_,_=>.fail
def sX(T:aY)(V:St)(d t len:Nat)(parts:List (Nat×Operand)):bi :=
 match T t with
 |some ti=>match ti.el with
  |some e=>match T e,kY V parts with
   |some ei,some ps=>cond (Nat.beq ps.length len&&(mI 0 parts&&(Nat.beq ei.zero.length ei.ty.nc&&Nat.ble (len*ei.ty.nc) 16777216)))
     (match ie (λi=>some (i*ei.ty.nc,ei.ty.nc)) (List.replicate len ei.zero).flatten ps with
     |some cs =>
      let ccs:=dK ei.ty.nc len cs;match kZ V.row ei.ty ccs with
      |some ys=>cond (cY (aA ccs.flatten)&&!(bk (aN d 0) (aA ccs.flatten))) (match absorbs (some (aN d 0)) (aA ccs.flatten) V with
       |some σ1=>match σ1.row (aN d 0)with
        |none=>.ok { slot:=am σ1.slot d (.c (.own (aN d 0))),box:=σ1.box,row:=am σ1.row (aN d 0) (some ⟨e,ei.ty,ys,true,false⟩) }
        |some _=>.fail
       |none=>.fail) .fail
      |none=>match k9 ei.ty ccs with
       |some ys=>newRow V d ⟨e,ei.ty,ys,false,false⟩
       |none=>.fail
     |none=>.fail) .fail
   |_,_=>.fail
  |none=>.fail
 |none=>.fail
def sY(T:aY)(V:St)(d t:Nat)(l c:Operand):bi :=
 match T t,mG V l with
 |some ti,some m=>match ti.el with
  |some e=>match T e with
   |some ei=>match cW (λ_=>none) ei.ty ei.zero with
    |some z=>cond (o6 l c&&(Nat.beq ei.zero.length ei.ty.nc&&(Nat.ble ei.bytes 128&&Nat.beq (aA ei.zero).length 0)))
      (.chk (bu 0 m&&decide (m<1099511627776)) (newRow V d ⟨e,ei.ty,List.replicate m.toNat z,true,false⟩)) .fail
    |none=>.fail
   |none=>.fail
  |none=>.fail
 |_,_=>.fail
def mJ(V:St)(d r:Nat)(row:ac)(x:ae):bi :=
 let go (σ1:St) (ys:List row.t.den):bi:=.chk (Nat.blt (row.xs.length+ys.length) 1099511627776) (.ok { slot:=am (σ1.mapc (dq r)).slot d (.c (.own r)),box:=(σ1.mapc (dq r)).box,row:=am σ1.row r (some { row with xs:=row.xs++ys }) });match x with
 |.nil=>go V []
 |.own q=>match V.row q with
  |some row2=>match cV row2.t row.t row2.xs with
   |some ys=>cond row.t.flat (go V ys) (cond (!(Nat.beq q r)&&(row.deep&&row2.deep)) (match absorb q (some r) V with
    |some σ1=>go σ1 ys
    |none=>.fail) (cond (!row.deep&&!(Nat.beq q r)) (match absorb q none V with
     |some σ1=>go σ1 ys
     |none=>.fail) .fail))
   |none=>.fail
  |none=>.fail
 |.sn _ t' xs p=>match cV t' row.t xs with
  |some ys=>cond row.t.flat (go V ys) (cond (!row.deep&&p.isNone) (go V ys) .fail)
  |none=>.fail
 |.part q lo m=>match V.row q with
  |some row2=>match cV row2.t row.t ((row2.xs.drop lo.toNat).take m.toNat)with
   |some ys=>cond row.t.flat (go V ys) .fail
   |none=>.fail
  |none=>.fail
 |_=>.fail
def lj(V:St)(t:Ty):ae->Bool
 |.own q=>match V.row q with
  |some row=>row.deep
  |none=>true
 |.sn _ _ _ _=>t.flat
 |_=>true
def xH(V:St)(k:IntKind):ae->Option (List Int)
 |.own q=>match V.row q with
  |some row=>cV row.t (.int k) row.xs
  |none=>none
 |.sn _ t xs _=>cV t (.int k) xs
 |_=>none
def sZ(V:St)(d e:Nat)(k:IntKind)(xs:List Int)(x:ae):bi:=match xH V k x with
 |some ys=>.chk (Nat.blt 0 ys.length&&Nat.blt (xs.length+ys.length) 1099511627776) (newRow V d ⟨e,.int k,xs++ys,true,false⟩)
 |none=>.fail
def o7(row:ac)(dp:Bool):Option ac:=cond (row.deep&&(!row.t.flat&&!dp)) (match row.xs with
 |[]=>some ⟨row.e,row.t,[],false,row.nilE⟩
 |_::_=>none) none
def s0(T:aY)(V:St)(d t:Nat)(s x:SV):bi :=
 match T t,s,x with
 |some ti,.c s,.c x=>match ti.el with
  |some e=>match T e with
   |some ei=>cond (Nat.ble ei.bytes 128) (match s with
    |.own r=>match V.row r with
     |some row=>cond (Nat.beq row.e e&&Nat.beq ei.zero.length row.t.nc) (match o7 row (lj V row.t x)with
      |some row'=>mJ { V with row:=am V.row r (some row') } d r row' x
      |none=>mJ V d r row x) .fail
     |none=>.fail
    |.nil=>cond (Nat.beq ei.zero.length ei.ty.nc) (match V.row (aN d 0)with
     |none=>mJ { V with row:=am V.row (aN d 0) (some ⟨e,ei.ty,[],lj V ei.ty x,true⟩) } d (aN d 0) ⟨e,ei.ty,[],lj V ei.ty x,true⟩ x
     |some _=>.fail) .fail
    |.full _ (.int k) xs _=>cond (Nat.beq ei.zero.length 1) (sZ V d e k xs x) .fail
    |_=>.fail) .fail
   |none=>.fail
  |none=>.fail
 |_,_,_=>.fail
def dZ(V:St)(d:Option Nat)(s:SV):St:=match d with
 |some d=>V.put d s
 |none=>V
def newMap(V:St)(d t:Nat)(kt:Ty):bi :=
 match V.box d with
 |none=>.ok { slot:=am V.slot d (.c (.mp d)),box:=am V.box d (some (bM+t,[.mset kt []])),row:=V.row }
 |some _=>.fail
def mK(V:St)(ti:TI)(f:(t:Ty)->List t.den->t.den->List t.den)(c:ae):ae->Option St
 |.mp b=>match V.box b with
  |some (te,[.mset t xs])=>cond (eS ti t&&Nat.ble bM te) (match fu t [c]with
   |some y=>some { V with box:=am V.box b (some (te,[.mset t (f t xs y)])) }
   |none=>none) none
  |_=>none
 |_=>none
def o8(T:aY)(V:St)(dst:Option Nat)(op:Op):bi :=
 match op,dst with
 |.alloc t,some d=>match T t with
  |some i=>cond (Nat.blt 0 i.zero.length) (newBox V d t i.zero) .fail
  |none=>.fail
 |.box t x,some d=>match T t,(ev V x).cells with
  |some i,some cs=>cond (Nat.beq cs.length i.zero.length&&(Nat.blt 0 cs.length&&jY cs)) (newBox V d t cs) .fail
  |_,_=>.fail
 |.store t p x,none=>sW T V t (ev V p) (ev V x)
 |.makeSlice t l c,some d=>sY T V d t l c
 |.makeMap t none,some d=>match T t with
  |some ti=>match ti.ty with
   |.pair kt _=>cond (eS ti kt) (newMap V d t kt) .fail
   |_=>.fail
  |none=>.fail
 |.mapUpdate t m k v,none=>match T t,ev V m,ev V k,ev V v with
  |some ti,.c u,.c c,.c (.bool true)=>li (mK V ti (λkt xs y=>ij kt xs y) c u)
  |_,_,_,_=>.fail
 |.insert t m k v,none=>match T t,ev V m,ev V k,ev V v with
  |some ti,.c u,.c c,.c (.bool true)=>li (mK V ti (λkt xs y=>ij kt xs y) c u)
  |_,_,_,_=>.fail
 |.call { callee:=.builtin .delete,args:=args,argTypes:=ts },dst=>match args.toList,ts.toList with
  |[m,k],[t,_]=>match T t,ev V m,ev V k with
   |some ti,.c u,.c c=>match mK V ti (λkt xs y=>oV kt xs y) c u with
    |some V'=>.ok (dZ V' dst (.tup []))
    |none=>.fail
   |_,_,_=>.fail
  |_,_=>.fail
 |.buildSlice t len parts,some d=>sX T V d t len parts.toList
 |.call { callee:=.builtin .append,args:=args,argTypes:=ts },some d=>match args.toList,ts.toList with
  |[s,x],[t,t']=>cond (Nat.beq t t') (s0 T V d t (ev V s) (ev V x)) .fail
  |_,_=>.fail
 |_,_=>.fail
section
variable {P : Program} {V V' : St} {E : aH} {w : World} {w0 : World} {lab0 : Nat → aw} {oo : Nat → Value} {n : Nat} {a : Act} {T : aY} [DC]
def jZ:Op->Bool
 |.makeSlice _ _ _=>true
 |.alloc _=>true
 |.box _ _=>true
 |.buildSlice _ _ _=>true
 |_=>false
def bE.alloc(w:World)(o:Obj):bE w (w.alloc o):=⟨rfl,⟨rfl,λ_=>Nat.le_refl _⟩,rfl,by simp,jQ o⟩
def Fs(P:Program)(w0:World)(lab0:Nat->aw)(oo:Nat->Value)(n:Nat)(o:Oper)(a:Act)(w:World)(V':St):Prop :=
 (∃v w' E',(execOp a.eval o).run P w=.ok (.value v) w'/\(jZ o.op=true->bE w w')/\R w0 lab0 oo n V' E' (a.put o.dst v) w')\/(∃w' E',(execOp a.eval o).run P w=.ok .skip w'/\R w0 lab0 oo n V' E' (a.put o.dst undef) w')
def xI{d te:Nat}{cs:List ae}(h:(Fw.newBox V d te cs).run=some V'):V.box d=none/\V'={ slot:=am V.slot d (.c (.box d 0)),box:=am V.box d (some (te,cs)),row:=V.row }/\te<bM:=by
 unfold Fw.newBox at h;split at h
 ·rename_i hb;cases ht:Nat.blt te bM;·rw[ht]at h;cases h
  ·rw[ht]at h;injection h with h;exact⟨hb,h.symm,by simpa using ht⟩
 ·cases h
def R.iput(h:R w0 lab0 oo n V E a w){d:Option Nat}{s:SV}{v:Value}(hd:∀d',d=some d'->d'<n)(hs:aF V E w s v):R w0 lab0 oo n (dZ V d s) E (a.put d v) w:=by
 cases d with
 |none=>exact h
 |some d=>exact h.put (hd d rfl) hs
def Ft{d t:Nat}{kt:Ty}(h:(Fw.newMap V d t kt).run=some V'):V.box d=none/\V'={ slot:=am V.slot d (.c (.mp d)),box:=am V.box d (some (bM+t,[.mset kt []])),row:=V.row }:=by
 unfold Fw.newMap at h;split at h;·rename_i hb;injection h with h;exact⟨hb,h.symm⟩
 ·cases h
def s5{ti:TI}{f:(t:Ty)->List t.den->t.den->List t.den}{c u:ae}(h:mK V ti f c u=some V'):∃b te kt xs y,u=.mp b/\V.box b=some (te,[.mset kt xs])/\eS ti kt=true/\bM<=te/\fu kt [c]=some y /\
  V'={ V with box:=am V.box b (some (te,[.mset kt (f kt xs y)])) }:=by
 unfold mK at h;split at h
 ·split at h
  ·rename_i te kt xs hb;cases hq:(eS ti kt&&Nat.ble bM te);·rw[hq]at h;cases h
   ·rw[hq]at h;simp only[Bool.and_eq_true]at hq;simp only[cond_true]at h;split at h;·rename_i y hy;injection h with h;exact⟨_,te,kt,xs,y,rfl,hb,hq.1,Nat.le_of_ble_eq_true hq.2,hy,h.symm⟩
    ·cases h
  ·cases h
 ·cases h
def s6{d:Nat}{row:ac}(h:(Fw.newRow V d row).run=some V'):V.row (aN d 0)=none/\V'={ slot:=am V.slot d (.c (.own (aN d 0))),box:=V.box,row:=am V.row (aN d 0) (some row) }:=by
 unfold Fw.newRow at h;split at h;·rename_i hb;injection h with h;exact⟨hb,h.symm⟩
 ·cases h
def Fu(h:R w0 lab0 oo n V E a w){l c:Operand}{m:Int}(hl:mG V l=some m)(hs:o6 l c=true):∃k,a.eval l=.int k m/\a.eval c=.int k m:=by
 obtain⟨k,hk⟩:=xC h hl;refine⟨k,hk, ?_⟩;unfold o6 at hs;split at hs;·have:=Nat.eq_of_beq_eq_true hs;subst this;exact hk
 ·simp only[Bool.and_eq_true,decide_eq_true_eq]at hs;obtain⟨h1,rfl⟩:=hs;have:=oO h1;subst this;exact hk
 ·cases hs
def Fv(hT:aT P T)(h:R w0 lab0 oo n V E a w){d t:Nat}{l c:Operand}(hd:d<n)(hr:(sY T V d t l c).run=some V') :
  ∃v w' E',(Instr.makeSlice t (a.eval l) (a.eval c)).run P w=.ok v w'/\bE w w'/\R w0 lab0 oo n V' E' (a.put (some d) v) w':=by
 unfold sY at hr;split at hr
 ·rename_i ti m ht hm;split at hr
  ·rename_i e he;split at hr
   ·rename_i ei hei;split at hr
    ·rename_i z hz;cases hq:(o6 l c&&(Nat.beq ei.zero.length ei.ty.nc&&(Nat.ble ei.bytes 128&&Nat.beq (aA ei.zero).length 0)));·rw[hq]at hr;cases hr
     ·rw[hq]at hr;simp only[Bool.and_eq_true]at hq;simp only[cond_true,bi.run]at hr;cases hg:(bu 0 m&&decide (m<1099511627776));·rw[hg]at hr;cases hr
      ·rw[hg]at hr;simp only[Bool.and_eq_true,o5,decide_eq_true_eq]at hg;obtain⟨h1,rfl⟩:=s6 hr;obtain⟨k,k1,k2⟩:=Fu h hm hq.1;rw[k1,k2];exact h.make hT ht he hei (Nat.eq_of_beq_eq_true hq.2.1) (Nat.le_of_ble_eq_true hq.2.2.1) hz (List.eq_nil_of_length_eq_zero (Nat.eq_of_beq_eq_true hq.2.2.2)) hg.1 hg.2 k hd h1
    ·cases hr
   ·cases hr
  ·cases hr
 ·cases hr
def xJ{s:SV}{cs:List ae}{v:Value}(h:s.cells=some cs)(hs:aF V E w s v)(hb:∀c∈cs,c≠.undef):∀u∈v.cells.toList,u.oneCell'=true:=by
 have hr:=mD h hs;have key:∀{cs:List ae}{us:List Value},ai (aj V E w) cs us->(∀c∈cs,c≠.undef)->∀u∈us,u.oneCell'=true:=by
  intro cs;induction cs with
  |nil=>intro us h _ u hu;cases us with
   |nil=>simp at hu
   |cons _ _=>exact h.elim
  |cons c cs ih =>
   intro us h hb u hu;cases us with
   |nil=>exact h.elim
   |cons x us =>
    rcases List.mem_cons.1 hu with rfl|hu
    ·have hc:=h.1;have hne:=hb c (by simp);cases c with
     |undef=>exact absurd rfl hne
     |err b=>exact ic.one hc
     |bor v0 e t xs=>obtain⟨_,A,n,c,hv,_⟩:=hc;injection hv with hv;subst hv;rfl
     |sn e t xs p=>obtain⟨A,n,c,hv,_⟩:=hc;injection hv with hv;subst hv;rfl
     |full e t xs p=>obtain⟨_,A,rfl⟩:=hc;rfl
     |own r=>obtain⟨_,_,A,n,c,rfl⟩:=hc;rfl
     |part r lo n=>obtain⟨row,A,c,_,_,_,_,rfl,_⟩:=hc;rfl
     |box b f=>obtain⟨rfl,_⟩:=hc;rfl
     |elt r i f=>obtain⟨row,g,n,c,_,_,_,_,_,rfl⟩:=hc;rfl
     |selt t x p f=>obtain⟨ad,cs,rfl,_⟩:=hc;rfl
     |fn f caps=>obtain⟨rfl,_⟩:=hc;rfl
     |mp b=>obtain⟨rfl,_⟩:=hc;rfl
     |_=>obtain rfl:u=_:=hc;rfl
    ·exact ih h.2 (λc hc=>hb c (by simp[hc])) u hu
 exact key hr hb
def s7:∀{cs:List ae},jY cs=true->∀c∈cs,c≠.undef
  |[],_,c,hc=>by simp at hc
  |x::cs,h,c,hc=>by
    cases x<;>first
      |cases h
      | (rcases List.mem_cons.1 hc with rfl|hc
         · exact λe=>by cases e
         · exact s7 (cs:=cs) (by simpa[jY]using h) c hc)
def s8(hT:aT P T){t:Nat}{ti:TI}(ht:T t=some ti){v:Value}(hl:v.cells.size=ti.zero.length){g o:Nat}{w':World}(hs:(storeCells ⟨g,o,none⟩ v.cells.toList 0).run P w=.ok () w') :
  (Instr.storeAt t (.pointer (some ⟨g,o,none⟩)) v).run P w=.ok () w':=by
 simp[Instr.storeAt,Instr.sureAddr,storeVar,la hT ht,hl,hs]
def Fx(hT:aT P T)(h:R w0 lab0 oo n V E a w){t:Nat}{p x:SV}{vp vx:Value}(hp:aF V E w p vp)(hx:aF V E w x vx)(hr:(sW T V t p x).run=some V') :
  ∃w' E',(Instr.storeAt t vp vx).run P w=.ok () w'/\R w0 lab0 oo n V' E' a w':=by
 unfold sW at hr;split at hr
 ·rename_i i b f vs ht hvs;cases hq:(Nat.beq vs.length i.zero.length&&jY vs);·rw[hq]at hr;cases hr
  ·rw[hq]at hr;simp only[Bool.and_eq_true]at hq;have hlen:=Nat.eq_of_beq_eq_true hq.1;have hvr:=mD hvs hx;have hone:=xJ hvs hx (s7 hq.2);unfold xk at hr;simp only[cond_true]at hr;split at hr
   ·rename_i te cs hb;cases hf:(Nat.blt te bM&&Nat.ble (f+vs.length) cs.length);·rw[hf]at hr;cases hr
    ·rw[hf]at hr;simp only[cond_true,li,bi.run,Option.some.injEq]at hr;subst hr;simp only[Bool.and_eq_true]at hf;obtain⟨rfl,_⟩:=(show aj V E w (.box b f) vp from hp);obtain⟨g1,g2⟩:=h.storeBox (P:=P) hb (by simpa using hf.1) (Nat.le_of_ble_eq_true hf.2) hvr hone;exact⟨_,E,s8 hT ht (by rw[<-Array.length_toList,<-hvr.len,hlen]) g1,g2⟩
   ·cases hr
 ·rename_i i r j f vs ht hvs;cases hq:Nat.beq vs.length i.zero.length;·rw[hq]at hr;cases hr
  ·rw[hq]at hr;have hlen:=Nat.eq_of_beq_eq_true hq;have hvr:=mD hvs hx;simp only[cond_true]at hr;split at hr
   ·rename_i row hrow;obtain⟨row',g,m,c,e1,e2,e3,e4,e5,rfl⟩:=(show aj V E w (.elt r j f) vp from hp);rw[hrow]at e1;injection e1 with e1;subst e1;have hsz:vx.cells.size=i.zero.length:=by rw[<-Array.length_toList,<-hvr.len,hlen]
    cases hk:(Nat.beq f 0&&(Nat.beq vs.length row.t.nc&&row.deep))
    ·rw[hk]at hr;simp only[cond_false]at hr;split at hr
     ·rename_i c';split at hr;·rename_i y hy;simp only[bi.run,Option.some.injEq]at hr;subst hr;obtain⟨u,hu,hcu⟩:=bT hvr;obtain⟨k1,k2,k3,k4⟩:=sG hy hcu;obtain⟨w',j1,j2⟩:=h.storeElt (P:=P) hrow e2 (i:=j.toNat) (f:=f) (us:=[u]) (y:=y) (by omega) (by simp;omega) (λv hv=>by simp at hv;subst hv;exact k2) k3 k4;rw[<-hu]at j1;exact⟨w',E,s8 hT ht hsz j1,j2⟩
      ·cases hr
     ·cases hr
    ·rw[hk]at hr;simp only[cond_true]at hr;simp only[Bool.and_eq_true]at hk;have hf:=Nat.eq_of_beq_eq_true hk.1;subst hf;split at hr
     ·rename_i y hy;cases hn:(cY (aA vs)&&!(bk r (aA vs)));·rw[hn]at hr;cases hr
      ·rw[hn]at hr;simp only[cond_true]at hr;simp only[Bool.and_eq_true,Bool.not_eq_true']at hn;split at hr;·rename_i σ1 hab;simp only[bi.run,Option.some.injEq]at hr;subst hr;obtain⟨w',E',j1,j2⟩:=h.storeEltW (P:=P) hrow hk.2.2 e2 (i:=j.toNat) (by omega) hvr (gq hn.1) (λhm=>by rw[fw.2 hm]at hn;cases hn.2) hy hab;exact⟨w',E',s8 hT ht hsz (by rw[Nat.add_zero];exact j1),j2⟩
       ·cases hr
     ·cases hr
   ·cases hr
 ·cases hr
def xK{α β:Type}{Q:α->β->Prop}:∀{as:List (List α)}{bs:List (List β)},ai (ai Q) as bs->ai Q as.flatten bs.flatten
 |[],[],_=>trivial
 |_::_,_::_,h=>h.1.app (xK h.2)
def xL{place:Nat->Option (Nat×Nat)}:∀{ps:List (Nat×List ae)}{cs cs':List ae},ie place cs ps=some cs'->cs'.length=cs.length
 |[],cs,cs',h=>by simp only[ie,Option.some.injEq]at h;subst h;rfl
 | (i,vs)::ps,cs,cs',h=>by
  simp only[ie]at h;split at h
  ·rename_i off sz _;cases hq:(Nat.beq vs.length sz&&Nat.ble (off+vs.length) cs.length);·rw[hq]at h;cases h
   ·rw[hq]at h;simp only[Bool.and_eq_true]at hq;have h2:=Nat.le_of_ble_eq_true hq.2;rw[xL h];simp only[cX,List.length_append,List.length_take,List.length_drop];omega
  ·cases h
def xM{α:Type}{m:Nat}:∀{k:Nat}{l:List α},(dK m k l).length=k
 |0,_=>rfl
 |k+1,l=>by simp[dK,xM]
def Fz(hT:aT P T)(h:R w0 lab0 oo n V E a w){d t len:Nat}{parts:Array (Nat×Operand)}(hd:d<n)(hr:(sX T V d t len parts.toList).run=some V') :
  ∃v w' E',(Instr.buildSlice t len (parts.map λ(i,x)=>(i,a.eval x))).run P w=.ok v w'/\bE w w'/\R w0 lab0 oo n V' E' (a.put (some d) v) w':=by
 unfold sX at hr;split at hr
 ·rename_i ti ht;split at hr
  ·rename_i e he;split at hr
   ·rename_i ei ps hei hps;cases hq:(Nat.beq ps.length len&&(mI 0 parts.toList&&(Nat.beq ei.zero.length ei.ty.nc&&Nat.ble (len*ei.ty.nc) 16777216)));·rw[hq]at hr;cases hr
    ·rw[hq]at hr;simp only[cond_true]at hr;simp only[Bool.and_eq_true]at hq;have hnc:=Nat.eq_of_beq_eq_true hq.2.2.1;have hle:=Nat.le_of_ble_eq_true hq.2.2.2;obtain⟨inf,dd,z,i1,i2,i3,i4,i5,i6,i7,i8⟩:=eB hT hei;have hz:=(jT (V:=V) (E:=E) (w:=w) i6).1;have hzl:z.cells.size=ei.ty.nc:=by rw[<-Array.length_toList,<-hz.len,hnc]
     have hu:=gm hT ht he;split at hr
     ·rename_i cs hcs;have hzz:ai (aj V E w) (List.replicate len ei.zero).flatten (madeCells z.cells (len*z.cells.size)).toList:=by rw[xq _ _ (by rw[hzl];exact ei.ty.nc_pos)];exact xK (ai.rep hz len)
      obtain⟨arr,k1,k2⟩:=sC hcs (sD h hps) hzz;have hcl:cs.length=len*ei.ty.nc:=by rw[xL hcs,lc (m:=ei.ty.nc) (λc hc=>by rw[(List.mem_replicate.1 hc).2];exact hnc),List.length_replicate]
      have harr:arr.size=len*ei.ty.nc:=by rw[<-Array.length_toList,<-k2.len,hcl]
      have e3:(parts.map λ(i,x)=>(i,a.eval x)).toList=parts.toList.map λq=>(q.1,a.eval q.2):=by simp
      have hrun:(Instr.buildSlice t len (parts.map λ(i,x)=>(i,a.eval x))).run P w=.ok (.slice (some ⟨w.heap.size,0,none⟩) len len) (w.alloc (.cells arr e)):=by
       have hz0:(zeroValue e).run P w=.ok z w:=by simp[zeroValue,typeInfo,i1,i5]
       have hs0:=la hT hei w;rw[hnc]at hs0;have hn:¬ (2 ^ 24<len*ei.ty.nc):=by omega
       by_cases h0:len*ei.ty.nc=0;·have harr0:arr=#[]:=Array.eq_empty_of_size_eq_zero (by omega);have hm0:(madeCells z.cells (len*z.cells.size))=#[]:=Array.eq_empty_of_size_eq_zero (by rw[size_madeCells,hzl];exact h0);rw[hm0]at k1;simp only[Instr.buildSlice,Sem.run_bind,run_underlying hu,Result.andThen_ok,hs0,Sem.run_ite];simp[h0,e3,k1,Go.newRow,Array.range_zero']
       ·simp only[Instr.buildSlice,Sem.run_bind,run_underlying hu,Result.andThen_ok,hs0,Sem.run_ite];have hm1:(Array.range (len*ei.ty.nc)).map (λx=>z.cells[x%z.cells.size]!)=madeCells z.cells (len*z.cells.size):=by unfold madeCells;rw[hzl]
        simp[h0,hn,hz0,e3,hm1,k1,Go.newRow]
      have hck:ai (ai (aj V E w)) (dK ei.ty.nc len cs) (dK ei.ty.nc len arr.toList):=xn k2;have hlc:(dK ei.ty.nc len cs).length=len:=xM;have hlen:len<1099511627776:=by have:=ei.ty.nc_pos;have:len*1<=len*ei.ty.nc:=Nat.mul_le_mul_left _ this;omega
      split at hr
      ·rename_i ys hys;cases hn:(cY (aA (dK ei.ty.nc len cs).flatten)&&!(bk (aN d 0) (aA (dK ei.ty.nc len cs).flatten)));·rw[hn]at hr;cases hr
       ·rw[hn]at hr;simp only[cond_true]at hr;simp only[Bool.and_eq_true,Bool.not_eq_true']at hn;split at hr
        ·rename_i σ1 hab;split at hr;·rename_i hfree;simp only[bi.run,Option.some.injEq]at hr;subst hr;obtain⟨E',g⟩:=h.litD (d:=d) (r:=aN d 0) (e:=e) (arr:=arr) hd hys (by rw[hlc];exact hck) (by rw[hlc];exact harr) (by rw[hlc];exact hlen) (gq hn.1) (λhm=>by rw[fw.2 hm]at hn;cases hn.2) hab hfree;rw[hlc]at g;exact⟨_,_,E',hrun,bE.alloc _ _,g⟩
         ·cases hr
        ·cases hr
      ·split at hr;·rename_i ys hys;obtain⟨h1,rfl⟩:=s6 hr;obtain⟨E',g⟩:=h.litS (d:=d) (r:=aN d 0) (e:=e) (arr:=arr) hd hys (by rw[hlc];exact hck) (by rw[hlc];exact harr) (by rw[hlc];exact hlen) h1;rw[hlc]at g;exact⟨_,_,E',hrun,bE.alloc _ _,g⟩
       ·cases hr
     ·cases hr
   ·cases hr
  ·cases hr
 ·cases hr
def R.appPut{v':Value}{w':World}{E':aH}{σ1:St}{d r:Nat}{row':ac}(hd:d<n)(hv:∃A m c,v'=Value.slice A m c)(he:v'=E'.rv r)
  (g:R w0 lab0 oo n { (σ1.mapc (dq r))with row:=am σ1.row r (some row') } E' a w') :
  R w0 lab0 oo n { slot:=am (σ1.mapc (dq r)).slot d (.c (.own r)),box:=(σ1.mapc (dq r)).box,row:=am σ1.row r (some row') } E' (a.put (some d) v') w' :=
 g.put hd (s:=.c (.own r)) ⟨he,by show(am σ1.row r (some row') r).isSome=true;rw[aQ];rfl,hv⟩
def iQ{c:Bool}{o:bi}(h:(bi.chk c o).run=some V'):c=true/\o.run=some V':=by
 cases c;·cases h
 ·exact⟨rfl,h⟩
def xN(h:R w0 lab0 oo n V E a w){r:Nat}{lo m:Int}{row:ac}{u:Value}(hr:V.row r=some row)(hc:aj V E w (.part r lo m) u){S:Nat->Prop}(hS:∀k,cZ E.lab r k\/E.lab k=.st->S k) :
  Rd w S (.sl row.e row.t) [u] ((row.xs.drop lo.toNat).take m.toNat):=by
 obtain⟨row',A,c,e1,e2,e3,e4,rfl,e6,e7,e8⟩:=hc;rw[hr]at e1;injection e1 with e1;subst e1;have hrd:Rd w S (.sl row.e row.t) [E.rv r] row.xs:=(h.rows r row hr).rd (λk hk=>hS k (.inl (.inl hk))) (λk hk=>by
  cases hd:row.deep;·rw[hd]at hk;exact hS k (.inr hk)
  ·rw[hd]at hk;exact hS k (.inl (.inr hk)))
 have hlen:((row.xs.drop lo.toNat).take m.toNat).length=m.toNat:=by rw[List.length_take,List.length_drop];omega
 refine⟨A,m.toNat,c,rfl,hlen,e6,e7, ?_⟩;by_cases hm:m.toNat=0;·exact .inl hm
 ·obtain⟨g,q,d,k1,rfl⟩:=e8 (by omega);obtain⟨A',n',c',j1,j2,j3,j4,j5⟩:=hrd;rw[k1]at j1;injection j1 with j1;injection j1 with i1 i2 i3;rcases j5 with h0|⟨ad,css,k2,k3,k4,k5⟩;·omega
  ·rw[<-i1]at k2;injection k2 with k2;subst k2;refine .inr ⟨_,(css.drop lo.toNat).take m.toNat,rfl,k3,(k4.drop _).take _,λi u hu=>?_⟩;have hcl:∀c∈css,c.length=row.t.nc:=ai.fst (λ_ _ h=>h.len) k4;have hfl:∀(css:List (List Value)) (j:Nat),(∀c∈css,c.length=row.t.nc)->(css.drop j).flatten=css.flatten.drop (j*row.t.nc):=by
    intro css j;induction css generalizing j with
    |nil=>intro _;simp
    |cons c css ih =>
     intro hc;cases j with
     |zero=>simp
     |succ j =>rw[List.drop_succ_cons,ih j λc hc'=>hc c (List.mem_cons_of_mem _ hc'),List.flatten_cons,Nat.succ_mul,Nat.add_comm,List.drop_append,hc c List.mem_cons_self];simp[hc c List.mem_cons_self]
   have hpre:((css.drop lo.toNat).take m.toNat).flatten[i]? = some u->css.flatten[lo.toNat*row.t.nc+i]? = some u:=by
    intro hu;have h1:(css.drop lo.toNat).flatten=((css.drop lo.toNat).take m.toNat).flatten++((css.drop lo.toNat).drop m.toNat).flatten:=by rw[<-List.flatten_append,List.take_append_drop]
    have h2:(css.drop lo.toNat).flatten[i]? = some u:=by rw[h1,List.getElem?_append_left (List.getElem?_eq_some_iff.1 hu).1];exact hu
    rw[hfl css lo.toNat hcl,List.getElem?_drop]at h2;exact h2
   have:=k5 _ _ (hpre hu);rw[gn]at this ⊢;simpa using this
def s9(hT:aT P T)(h:R w0 lab0 oo n V E a w){d t r:Nat}{ti ei:TI}{row:ac}{x:ae}{vx:Value}(hd:d<n)(hrow:V.row r=some row)(ht:T t=some ti)(he:ti.el=some row.e)(hei:T row.e=some ei)(hnc:ei.zero.length=row.t.nc)(hbytes:ei.bytes<=128)
  (hx:aj V E w x vx) (hr:(mJ V d r row x).run=some V') (ty:TypeId) :
  ∃v w' E',(Builtin.append_ #[t,t] ty #[E.rv r,vx]).run P w=.ok v w'/\R w0 lab0 oo n V' E' (a.put (some d) v) w':=by
 unfold mJ at hr;split at hr
 ·obtain⟨hc,hr⟩:=iQ hr;simp only[bi.run,Option.some.injEq]at hr;subst hr;obtain rfl:vx=_:=hx;have hlen:row.xs.length+([]:List row.t.den).length<1099511627776:=by simpa using hc
  obtain⟨v',w',E',k1,k2,k3,k4⟩:=h.append hT hrow ht he hei hnc hbytes (A:=none) (k:=0) (c:=0) (css2:=[]) (ys:=[]) rfl (.inl rfl) (by
   unfold oT;cases row.deep;·exact trivial
   ·exact⟨[],trivial,List.nodup_nil,λk hk=>by simp at hk⟩) (λ_ Ls css k1 k2 k3 _=>⟨[],trivial,by simpa using k2,λk hk=>by simp at hk⟩) hlen ty
  exact⟨v',w',E',k1,R.appPut hd k2 k3 k4⟩
 ·rename_i q;obtain⟨rfl,_⟩:=hx;split at hr
  ·rename_i row2 hrow2;split at hr
   ·rename_i ys hys;obtain⟨htt,hys'⟩:=fz hys;cases hf:row.t.flat
    ·rw[hf]at hr;simp only[cond_false]at hr;cases hq:(!(Nat.beq q r)&&(row.deep&&row2.deep))
     ·rw[hq]at hr;simp only[cond_false]at hr;cases hq2:(!row.deep&&!(Nat.beq q r));·rw[hq2]at hr;cases hr
      ·rw[hq2]at hr;simp only[cond_true]at hr;simp only[Bool.and_eq_true,Bool.not_eq_true']at hq2;split at hr
       ·rename_i σ1 hab;obtain⟨hc,hr⟩:=iQ hr;simp only[bi.run,Option.some.injEq]at hr;subst hr;have hne:q≠r:=λe=>by rw[e,gP]at hq2;cases hq2.2
        obtain⟨G,row2',hq',_,hσ1⟩:=h.absorb hab;have hr1:σ1.row r=some row:=by rw[hσ1];exact(aX _ _ (Ne.symm hne)).trans hrow
        obtain⟨e2,t2,xs2,dp2,nl2⟩:=row2;have htt':t2=row.t:=htt;subst htt';have hys2:xs2=ys:=hys';subst hys2;have hrd:=(h.rows q _ hrow2).rd (S:=λk=>cz E.lab q none k=.st) (λk hk=>ig (.inl hk)) (λk hk=>by
         cases dp2;·have hk':E.lab k=.st:=hk;exact(fv (by rw[hk'];simp) (by rw[hk'];simp)).trans hk'
         ·exact ig (.inr hk))
        obtain⟨A,k,c,css,hv,hs⟩:=eC.of_rd (lab:=cz E.lab q none) hrd;have hs':eC w (cz E.lab q none) row.e row.t xs2 (λk=>cz E.lab q none k=.st) A k css:=⟨hs.len,hs.cells,hs.rd⟩;obtain⟨v',w',E',k1,k2,k3,k4⟩:=G.appendShallow (E:={ E with lab:=cz E.lab q none }) hT hr1 hq2.1 ht he hei hnc hbytes (c:=c) hs' (by simpa using hc) ty;rw[hv];exact⟨v',w',E',k1,R.appPut hd k2 k3 k4⟩
       ·cases hr
     ·rw[hq]at hr;simp only[cond_true]at hr;simp only[Bool.and_eq_true,Bool.not_eq_true']at hq;split at hr
      ·rename_i σ1 hab;obtain⟨hc,hr⟩:=iQ hr;simp only[bi.run,Option.some.injEq]at hr;subst hr;have hne:q≠r:=λe=>by rw[e,gP]at hq;cases hq.1
       obtain⟨v',w',E',k1,k2,k3,k4⟩:=h.appendDeep hT hne hrow hrow2 hq.2.1 hq.2.2 ht he hei hnc hbytes htt hys' hab (by simpa using hc) ty;exact⟨v',w',E',k1,R.appPut hd k2 k3 k4⟩
      ·cases hr
    ·rw[hf]at hr;simp only[cond_true]at hr;obtain⟨hc,hr⟩:=iQ hr;simp only[bi.run,Option.some.injEq]at hr;subst hr;obtain⟨e2,t2,xs2,dp2,nl2⟩:=row2;have htt':t2=row.t:=htt;subst htt';have hys2:xs2=ys:=hys';subst hys2;have hrd:=(h.rows q _ hrow2).rd (S:=λ_=>True) (λk hk=>trivial) (λk hk=>trivial);obtain⟨A,k,c,css,hv,hs⟩:=eC.of_rd (lab:=E.lab) hrd;have hs':eC w E.lab row.e row.t xs2 (λ_=>True) A k css:=⟨hs.len,hs.cells,hs.rd⟩;obtain⟨v',w',E',k1,k2,k3,k4⟩:=h.appendFlat hT hrow ht he hei hnc hbytes hf (c:=c) hs' (by simpa using hc) ty;rw[hv];exact⟨v',w',E',k1,R.appPut hd k2 k3 k4⟩
   ·cases hr
  ·cases hr
 ·rename_i e' t' xs p;split at hr
  ·rename_i ys hys;obtain⟨htt,hys'⟩:=fz hys;subst htt;have hys2:xs=ys:=hys';subst hys2;cases hf:row.t.flat
   ·rw[hf]at hr;simp only[cond_false]at hr;cases hq:(!row.deep&&p.isNone);·rw[hq]at hr;cases hr
    ·rw[hq]at hr;simp only[cond_true]at hr;simp only[Bool.and_eq_true,Bool.not_eq_true',Option.isNone_iff_eq_none]at hq;obtain⟨hq1,rfl⟩:=hq;obtain⟨hc,hr⟩:=iQ hr;simp only[bi.run,Option.some.injEq]at hr;subst hr;obtain⟨A,k,c,css,rfl,hs⟩:=eC.of_rd (lab:=E.lab) (show Rd w (λk=>E.lab k=.st) (.sl e' row.t) [vx] xs from hx);obtain⟨v',w',E',k1,k2,k3,k4⟩:=h.appendShallow hT hrow hq1 ht he hei hnc hbytes (c:=c) ⟨hs.len,hs.cells,hs.rd⟩ (by simpa using hc) ty;exact⟨v',w',E',k1,R.appPut hd k2 k3 k4⟩
   ·rw[hf]at hr;simp only[cond_true]at hr;obtain⟨hc,hr⟩:=iQ hr;simp only[bi.run,Option.some.injEq]at hr;subst hr;obtain⟨A,k,c,css,rfl,hs⟩:=eC.of_rd (lab:=E.lab) (show Rd w (λk=>E.lab k=bh p) (.sl e' row.t) [vx] xs from hx);obtain⟨v',w',E',k1,k2,k3,k4⟩:=h.appendFlat hT hrow ht he hei hnc hbytes hf (c:=c) ⟨hs.len,hs.cells,hs.rd⟩ (by simpa using hc) ty;exact⟨v',w',E',k1,R.appPut hd k2 k3 k4⟩
  ·cases hr
 ·rename_i q lo m;split at hr
  ·rename_i row2 hrow2;split at hr
   ·rename_i ys hys;obtain⟨htt,hys'⟩:=fz hys;cases hf:row.t.flat;·rw[hf]at hr;cases hr
    ·rw[hf]at hr;simp only[cond_true]at hr;obtain⟨hc,hr⟩:=iQ hr;simp only[bi.run,Option.some.injEq]at hr;subst hr;have hrd:=xN h hrow2 hx (S:=λ_=>True) (λk hk=>trivial);obtain⟨e2,t2,xs2,dp2,nl2⟩:=row2;have htt':t2=row.t:=htt;subst htt';have hys2:(xs2.drop lo.toNat).take m.toNat=ys:=hys';subst hys2;obtain⟨A,k,c,css,hv,hs⟩:=eC.of_rd (lab:=E.lab) hrd;have hs':eC w E.lab row.e row.t ((xs2.drop lo.toNat).take m.toNat) (λ_=>True) A k css:=⟨hs.len,hs.cells,hs.rd⟩;obtain⟨v',w',E',k1,k2,k3,k4⟩:=h.appendFlat hT hrow ht he hei hnc hbytes hf (c:=c) hs' (by simpa using hc) ty;rw[hv];exact⟨v',w',E',k1,R.appPut hd k2 k3 k4⟩
   ·cases hr
  ·cases hr
 ·cases hr
def FA{kk:IntKind}(zs:List Int):(zs.map λz=>[Value.int kk z]).flatten=zs.map (Value.int kk):=by
 induction zs with
 |nil=>rfl
 |cons a l ih=>simp[ih]
def R.grownInts(h:R w0 lab0 oo n V E a w){d r e:Nat}{kk:IntKind}{zs:List Int}{v':Value}{w':World}(hd:d<n)(hfree:V.row r=none)(ho:w'.ownsRow w.heap.size e 1 v' zs.length (zs.map (Value.int kk)))(hg:w.grownBy w' none)(hdr:w.drawn<=w'.drawn) :
  ∃E',R w0 lab0 oo n { slot:=am V.slot d (.c (.own r)),box:=V.box,row:=am V.row r (some ⟨e,.int kk,zs,true,false⟩) } E' (a.put (some d) v') w':=by
 let E':aH:={ lab:=λq=>if v'.ownBlock=some q then .row r else E.lab q,rv:=am E.rv r v',bb:=E.bb };let row:ac:=⟨e,.int kk,zs,true,false⟩;let σ1:St:={ slot:=V.slot,box:=V.box,row:=am V.row r (some row) };have hnew:∀k,v'.ownBlock=some k->w.heap.size<=k:=λk hk=>by
  rcases ho.2 with⟨rfl,_⟩|⟨g,cap,cur,rfl,hb,_⟩;·cases hk
  ·injection hk with hk;subst hk;exact hb
 have hb:∀k,k<w.heap.size->w'.heap[k]? = w.heap[k]?/\E'.lab k=E.lab k:=λk hk=>⟨hg.block k hk (by simp),if_neg λe=>by have:=hnew k e;omega⟩;have ho0:w'.ownsRow 0 e 1 v' zs.length (zs.map (Value.int kk)):=⟨ho.1,ho.2.imp id λ⟨g,cap,cur,h1,h2,h3⟩=>⟨g,cap,cur,h1,Nat.zero_le _,h3⟩⟩;have hall:∀l:List Int,aL (λ(l:List Nat) (c:List Value) (y:Int)=>az w' (.int kk) l c y) (l.map λ_=>[]) (l.map λy=>[Value.int kk y]) l:=by
  intro l;induction l with
  |nil=>trivial
  |cons a l ih=>exact⟨⟨rfl,rfl⟩,ih⟩
 have hz:∀l:List Int,(l.map λ_=>([]:List Nat)).flatten=[]:=λl=>by induction l with
  |nil=>rfl
  |cons a l ih=>simp[ih]
 have g:R w0 lab0 oo n σ1 E' a w':=by
  refine h.grow (E':=E') hb ⟨hg.os,⟨hg.tape,λ_=>hdr⟩,hg.output⟩ hg.size rfl (λq row' hq=>?_) (λq row' hq=>?_) (λb te' cs' hq=>.inl ⟨hq,rfl⟩) (λ_ _ h=>h)
  ·by_cases e:q=r;·subst e;rw[show σ1.row q=some row from aQ _ _ _]at hq;injection hq with hq;subst hq;refine .inr ⟨hfree, ?_⟩;show bJ _ _ _ _ (am E.rv q v' q);rw[aQ];refine⟨zs.map (λz=>[Value.int kk z]), ?_,λk hk=>if_pos hk,⟨zs.map λ_=>[],hall zs,by rw[hz];exact List.nodup_nil,λk hk=>by rw[hz]at hk;cases hk⟩,λh=>by cases h⟩;rw[FA];exact ho0
   ·exact .inl ⟨(aX _ _ e).symm.trans hq,aX _ _ e⟩
  ·have hne:q≠r:=λe=>by rw[e,hfree]at hq;cases hq
   exact(aX _ _ hne).trans hq
 refine⟨E',g.put hd (s:=.c (.own r)) ⟨?_, ?_, ?_⟩⟩;·show _=am E.rv r v' r;rw[aQ]
 ·show(am V.row r (some row) r).isSome=true;rw[aQ];rfl
 ·obtain⟨A,c,e,_⟩:=fU ho;exact⟨A,_,c,e⟩
def ta{kk:IntKind}{S:Nat->Prop}:∀{css:List (List Value)}{xs:List Int},ai (λc (y:Int)=>Rd w S (.int kk) c y) css xs->css.flatten=xs.map (Value.int kk)
 |[],[],_=>rfl
 |c::css,x::xs,h=>by obtain⟨h1,h2⟩:=h;have h1:c=[.int kk x]:=h1;rw[List.flatten_cons,h1,ta h2];rfl
 |[],_::_,h=>h.elim
 |_::_,[],h=>h.elim
def FB(hT:aT P T)(h:R w0 lab0 oo n V E a w){d t e e':Nat}{ti ei:TI}{k:IntKind}{xs:List Int}{p:Option Nat}{x:ae}{vs vx:Value}(hd:d<n)(ht:T t=some ti)(he:ti.el=some e)(hei:T e=some ei)(hnc:ei.zero.length=1)(hbytes:ei.bytes<=128)
  (hs:aj V E w (.full e' (.int k) xs p) vs) (hx:aj V E w x vx) (hr:(sZ V d e k xs x).run=some V') (ty:TypeId):∃v w' E',(Builtin.append_ #[t,t] ty #[vs,vx]).run P w=.ok v w'/\R w0 lab0 oo n V' E' (a.put (some d) v) w':=by
 unfold sZ at hr;split at hr
 ·rename_i ys hys;obtain⟨hc,hr⟩:=iQ hr;obtain⟨hfree,rfl⟩:=s6 hr;simp only[Bool.and_eq_true,Nat.blt_eq]at hc;obtain⟨A2,k2,c2,css2,rfl,hs2⟩:∃A2 k2 c2 css2,vx=.slice A2 k2 c2/\eC w E.lab e (.int k) (ys:List Int) (λ_=>True) A2 k2 css2:=by
   unfold xH at hys;split at hys
   ·rename_i q;split at hys;·rename_i row2 hrow2;obtain⟨htt,hys'⟩:=fz hys;obtain⟨e2,t2,xs2,dp2,nl2⟩:=row2;have htt':t2=.int k:=htt;subst htt';have hys2:xs2=ys:=hys';subst hys2;obtain⟨rfl,_⟩:=hx;have hrd:=(h.rows q _ hrow2).rd (S:=λ_=>True) (λk hk=>trivial) (λk hk=>trivial);obtain⟨A,m,c,css,hv,hs⟩:=eC.of_rd (lab:=E.lab) hrd;exact⟨A,m,c,css,hv,⟨hs.len,hs.cells,hs.rd⟩⟩
    ·cases hys
   ·rename_i e2 t2 xs2 p2;obtain⟨htt,hys'⟩:=fz hys;subst htt;have hys2:xs2=ys:=hys';subst hys2;obtain⟨A,m,c,css,hv,hs⟩:=eC.of_rd (lab:=E.lab) (Rd.mono (S':=λ_=>True) (λ_ _=>trivial) (show Rd w (λk=>E.lab k=bh p2) (.sl e2 (.int k)) [vx] xs2 from hx));exact⟨A,m,c,css,hv,⟨hs.len,hs.cells,hs.rd⟩⟩
   ·cases hys
  obtain⟨hrd,A0,hv0⟩:=hs;obtain⟨A1,k1,c1,css1,hv1,hs1⟩:=eC.of_rd (lab:=E.lab) hrd;rw[hv0]at hv1;injection hv1 with q1 q2 q3;subst q1 q2 q3;have f1:=ta hs1.rd;have f2:=ta hs2.rd;have l2:ys.length=k2:=hs2.len;subst l2;obtain⟨inf,dd,z,i1,i2,i3,i4,i5,i6,i7,i8⟩:=eB hT hei;have hu:=gm hT ht he;have hz:=jT (V:=V) (E:=E) (w:=w) i6;have hzc:z.cells.size=1:=by rw[<-Array.length_toList,<-hz.1.len,hnc]
  obtain⟨a2,rfl,hc2⟩:∃a2,A2=some a2/\∀(j:Nat) (u:Value),(ys.map (Value.int k))[j]? = some u->w.cell? (a2.add j)=some u:=by
   rcases hs2.cells with h0|⟨ad,h1,h2⟩;·omega
   ·exact⟨ad,h1,by rw[<-f2];exact h2⟩
  have hbnd:(xs.length+ys.length)*ei.bytes<=140737488355328:=by have:(xs.length+ys.length)*ei.bytes<=1099511627776*128:=Nat.mul_le_mul (by omega) hbytes;omega
  have h63:xs.length+ys.length<=maxLen:=by simp only[maxLen];omega
  have one:∀u∈ys.map (Value.int k),u.oneCell'=true:=λu hu=>by obtain⟨z,_,rfl⟩:=List.mem_map.1 hu;rfl
  have fin:∀{v':Value}{w':World},(Builtin.append_ #[t,t] ty #[vs,.slice (some a2) ys.length c2]).run P w=.ok v' w'->w'.ownsRow w.heap.size e 1 v' (xs.length+ys.length) (xs.map (Value.int k)++ys.map (Value.int k))->w.grownBy w' none ->
    ∃v w' E',(Builtin.append_ #[t,t] ty #[vs,.slice (some a2) ys.length c2]).run P w=.ok v w'/\R w0 lab0 oo n { slot:=am V.slot d (.c (.own (aN d 0))),box:=V.box,row:=am V.row (aN d 0) (some ⟨e,.int k,xs++ys,true,false⟩) } E' (a.put (some d) v) w':=by
   intro v' w' r1 r2 r3;obtain⟨E',hR⟩:=h.grownInts (kk:=k) (zs:=xs++ys) hd hfree (by rw[List.length_append,List.map_append];exact r2) r3 (ef _ r1);exact⟨v',w',E',r1,hR⟩
  by_cases hx0:xs.length=0
  ·have hxn:xs=[]:=List.eq_nil_of_length_eq_zero hx0;subst hxn;cases A0 with
   |none =>have hvn:vs=.slice none 0 0:=hv0;obtain⟨v',w',r1,r2,r3,_⟩:=run_append_own_at (P:=P) w w.heap.size t ty e inf z 1 ei.bytes hu i1 i5 (i3.trans hnc) i4 hzc Nat.one_pos (.slice none 0 0) 0 [] (World.ownsRow_nil w _ e 1) a2 ys.length c2 (ys.map (Value.int k)) (by simp) hc2 one (by simpa using h63) (by simpa using hbnd) (Nat.le_refl _);rw[<-hvn]at r1;exact fin r1 (by simpa using r2) (by simpa[Value.ownBlock]using r3)
   |some b =>obtain⟨v',w',r1,r2,r3⟩:=run_append_arg_grows (P:=P) (w:=w) t ty e inf z 1 ei.bytes hu i1 i5 (i3.trans hnc) i4 hzc Nat.one_pos b 0 0 [] (by simp) (λj u hj=>by simp at hj) a2 ys.length c2 (ys.map (Value.int k)) (by simp) hc2 (by omega) (by simpa using h63) (by simpa using hbnd);have hvs:vs=.slice (some b) 0 0:=hv0;rw[<-hvs]at r1;exact fin r1 (by simpa using r2) r3
  ·obtain⟨b,rfl,hc1⟩:∃b,A0=some b/\∀(j:Nat) (u:Value),(xs.map (Value.int k))[j]? = some u->w.cell? (b.add j)=some u:=by
    rcases hs1.cells with h0|⟨ad,h1,h2⟩;·exact absurd h0 hx0
    ·exact⟨ad,h1,by rw[<-f1];exact h2⟩
   obtain⟨v',w',r1,r2,r3⟩:=run_append_arg_grows (P:=P) (w:=w) t ty e inf z 1 ei.bytes hu i1 i5 (i3.trans hnc) i4 hzc Nat.one_pos b xs.length xs.length (xs.map (Value.int k)) (by simp) hc1 a2 ys.length c2 (ys.map (Value.int k)) (by simp) hc2 (by omega) h63 hbnd;rw[<-hv0]at r1;exact fin r1 r2 r3
 ·cases hr
def b8.rowTo{r:Nat}{row row':ac}(hrow:V.row r=some row)(ht:row'.t.nc=row.t.nc)(hl:row.xs.length<=row'.xs.length):b8 V E w { V with row:=am V.row r (some row') } E w :=
 ⟨λq row2 hq=>by
  by_cases e:q=r;·subst e;rw[hrow]at hq;injection hq with hq;subst hq;exact⟨row',aQ _ _ _,rfl,ht,hl⟩
  ·exact⟨row2,(aX _ _ e).trans hq,rfl,rfl,Nat.le_refl _⟩,λb te cs hb=>⟨te,cs,hb,rfl,rfl⟩,λ_ _ _ h1 h2=>⟨h1,h2⟩,λ_ _ _ _ h=>h⟩
def R.shal(h:R w0 lab0 oo n V E a w){r:Nat}{row row':ac}{dp:Bool}(hrow:V.row r=some row)(hsh:o7 row dp=some row') :
  row'.e=row.e/\row'.t.nc=row.t.nc/\row.xs.length<=row'.xs.length/\R w0 lab0 oo n { V with row:=am V.row r (some row') } E a w:=by
 obtain⟨e,t,xs,deep,nilE⟩:=row;unfold o7 at hsh;cases hc:(deep&&(!t.flat&&!dp));·simp only[hc]at hsh;cases hsh
 ·simp only[hc]at hsh;cases xs with
  |cons y ys=>cases hsh
  |nil =>
   injection hsh with hsh;subst hsh;have m:b8 V E w { V with row:=am V.row r (some ⟨e,t,[],false,nilE⟩) } E w:=b8.rowTo hrow rfl (Nat.le_refl _);refine⟨rfl,rfl,Nat.le_refl _,⟨h.bound,h.size,h.defers,λs=>(h.slots s).move m,λb te cs hb=>?_,λq row2 hq=>?_,h.same⟩⟩;·obtain⟨arr,h1,h2,h3,h4⟩:=h.boxes b te cs hb;exact⟨arr,h1,h2,h3.imp λ_ _ h=>h.move m,h4⟩
   ·by_cases eq:q=r
    ·subst eq;have hq':am V.row q (some (⟨e,t,[],false,nilE⟩:ac)) q=some row2:=hq;rw[aQ]at hq';injection hq' with hq';subst hq';obtain⟨css,k1,k2,k3,k4⟩:=h.rows q _ hrow;refine⟨css,k1,k2, ?_,k4⟩;simp only[Bool.and_eq_true]at hc;obtain⟨hdeep,_⟩:=hc;subst hdeep;obtain⟨Ls,j1,_⟩:=k3;cases css with
     |nil=>exact trivial
     |cons c cs=>exact absurd j1.len2 (by simp)
    ·have hq':am V.row r (some (⟨e,t,[],false,nilE⟩:ac)) q=some row2:=hq;rw[aX _ _ eq]at hq';exact h.rows q row2 hq'
def FC(hT:aT P T)(h:R w0 lab0 oo n V E a w){d t:Nat}{s x:SV}{vs vx:Value}(hd:d<n)(hs:aF V E w s vs)(hx:aF V E w x vx)(hr:(s0 T V d t s x).run=some V')(ty:TypeId) :
  ∃v w' E',(Builtin.append_ #[t,t] ty #[vs,vx]).run P w=.ok v w'/\R w0 lab0 oo n V' E' (a.put (some d) v) w':=by
 unfold s0 at hr;split at hr
 ·rename_i ti s x ht;split at hr
  ·rename_i e he;split at hr
   ·rename_i ei hei;cases hb:Nat.ble ei.bytes 128;·rw[hb]at hr;cases hr
    ·rw[hb]at hr;have hbytes:=Nat.le_of_ble_eq_true hb;simp only[cond_true]at hr;split at hr
     ·rename_i r;split at hr
      ·rename_i row hrow;cases hq:(Nat.beq row.e e&&Nat.beq ei.zero.length row.t.nc);·rw[hq]at hr;cases hr
       ·rw[hq]at hr;simp only[Bool.and_eq_true]at hq;obtain rfl:=Nat.eq_of_beq_eq_true hq.1;obtain⟨rfl,_⟩:=hs.c_inv;split at hr;·rename_i row' hsh;obtain⟨h1,h2,h3,hR⟩:=h.shal hrow hsh;have hx':aj { V with row:=am V.row r (some row') } E w x vx:=hx.c_inv.move (b8.rowTo hrow h2 h3);have:=s9 (ei:=ei) hT hR hd (aQ _ _ _) ht (by rw[h1];exact he) (by rw[h1];exact hei) (by rw[h2];exact Nat.eq_of_beq_eq_true hq.2) hbytes hx' hr ty;exact this
        ·exact s9 hT h hd hrow ht he hei (Nat.eq_of_beq_eq_true hq.2) hbytes hx.c_inv hr ty
      ·cases hr
     ·cases hq:Nat.beq ei.zero.length ei.ty.nc;·rw[hq]at hr;cases hr
      ·rw[hq]at hr;simp only[cond_true]at hr;split at hr
       ·rename_i hfree;have G:=h.nilRow (r:=aN d 0) (e:=e) (t:=ei.ty) (deep:=lj V ei.ty x) hfree;obtain rfl:vs=_:=hs.c_inv;have hx':aj { V with row:=am V.row (aN d 0) (some ⟨e,ei.ty,[],lj V ei.ty x,true⟩) } { E with rv:=am E.rv (aN d 0) (.slice none 0 0) } w x vx:=by
         refine aj.move (V:=V) (E:=E) (w:=w) (b8.grow (V:=V) (E:=E) (w:=w) (V':={ V with row:=am V.row (aN d 0) (some ⟨e,ei.ty,[],lj V ei.ty x,true⟩) }) (E':={ E with rv:=am E.rv (aN d 0) (.slice none 0 0) }) (w':=w) (λk hk=>⟨rfl,rfl⟩) (λr row hr=>?_) (λb te cs hb=>⟨te,cs,hb,rfl,rfl⟩)) hx.c_inv;have hne:r≠aN d 0:=λe=>by rw[e,hfree]at hr;cases hr
         exact⟨row,(aX _ _ hne).trans hr,aX _ _ hne,rfl,Nat.le_refl _⟩
        have:=s9 (ei:=ei) hT G hd (aQ _ _ _) ht he hei (Nat.eq_of_beq_eq_true hq) hbytes hx' hr ty;rwa [show({ E with rv:=am E.rv (aN d 0) (.slice none 0 0) }:aH).rv (aN d 0)=.slice none 0 0 from aQ _ _ _]at this
       ·cases hr
     ·cases hq:Nat.beq ei.zero.length 1;·rw[hq]at hr;cases hr
      ·rw[hq]at hr;exact FB hT h hd ht he hei (Nat.eq_of_beq_eq_true hq) hbytes hs.c_inv hx.c_inv hr ty
     ·cases hr
   ·cases hr
  ·cases hr
 ·cases hr
def FD(hT:aT P T)(h:R w0 lab0 oo n V E a w){o:Oper}(hd:∀d,o.dst=some d->d<n)(hr:(o8 T V o.dst o.op).run=some V'):Fs P w0 lab0 oo n o a w V':=by
 obtain⟨dst,op,oty,pos,after,guard⟩:=o;simp only at hd hr;unfold o8 at hr;split at hr
 ·rename_i t d;split at hr
  ·rename_i i ht;cases hq:Nat.blt 0 i.zero.length;·rw[hq]at hr;cases hr
   ·rw[hq]at hr;obtain⟨h1,rfl,hte⟩:=xI hr;obtain⟨inf,dd,z,i1,i2,i3,i4,i5,i6,i7,i8⟩:=eB hT ht;obtain⟨hz,hz1⟩:=jT (V:=V) (E:=E) (w:=w) i6;obtain⟨E',g⟩:=h.newBox (d:=d) (te:=t) (arr:=z.cells) hte (hd d rfl) h1 hz hz1 (by simpa using hq);refine .inl ⟨_,_,E', ?_,(λhq=>bE.alloc _ _),g⟩;have hz0:(zeroValue t).run P w=.ok z w:=by simp[zeroValue,typeInfo,i1,i5]
    simp[execOp,Instr.alloc,hz0,newVar,Go.newRow]
  ·cases hr
 ·rename_i t x d;split at hr
  ·rename_i i cs ht hcs;cases hq:(Nat.beq cs.length i.zero.length&&(Nat.blt 0 cs.length&&jY cs));·rw[hq]at hr;cases hr
   ·rw[hq]at hr;simp only[Bool.and_eq_true]at hq;obtain⟨h1,rfl,hte⟩:=xI hr;have hx:=aZ h x;obtain⟨E',g⟩:=h.newBox (d:=d) (te:=t) (arr:=(a.eval x).cells) hte (hd d rfl) h1 (mD hcs hx) (xJ hcs hx (s7 hq.2.2)) (by simpa using hq.2.1);refine .inl ⟨_,_,E', ?_,(λhq=>bE.alloc _ _),g⟩;simp[execOp,Instr.box,newVar,Go.newRow]
  ·cases hr
 ·rename_i t p x;obtain⟨w',E',g1,g2⟩:=Fx hT h (aZ h p) (aZ h x) hr;refine .inr ⟨w',E', ?_,g2⟩;simp[execOp,g1]
 ·rename_i t l c d;obtain⟨v,w',E',g1,gx,g2⟩:=Fv hT h (hd d rfl) hr;refine .inl ⟨v,w',E', ?_,λ_=>gx,g2⟩;simp[execOp,g1]
 ·rename_i t d;split at hr
  ·rename_i ti ht;split at hr
   ·rename_i kt _ hty;cases hq:eS ti kt;·rw[hq]at hr;cases hr
    ·rw[hq]at hr;obtain⟨h1,rfl⟩:=Ft hr;obtain⟨E',g⟩:=h.newMap (d:=d) (te:=bM+t) (t:=kt) (Nat.le_add_right _ _) (hd d rfl) h1;exact .inl ⟨_,_,E',by simp[execOp,Instr.makeMap],(λhq=>by cases hq),g⟩
   ·cases hr
  ·cases hr
 ·rename_i t m k v;split at hr
  ·rename_i ti u c ht hm hk hv;unfold li at hr;split at hr;·rename_i σ1 hs;injection hr with hr;subst hr;obtain⟨b,te,kt,xs,y,rfl,hb,hi,hte,hy,rfl⟩:=s5 hs;have rm:=aZ h m;have rk:=aZ h k;have rv:=aZ h v;rw[hm]at rm;rw[hk]at rk;rw[hv]at rv;obtain⟨w',g1,g2⟩:=xx hT h ht hi hb hte hy rk;refine .inr ⟨w',E, ?_,g2⟩;have e1:a.eval m=.map (some (E.bb b)):=rm.1;have e2:a.eval v=.bool true:=rv;simp[execOp,e1,e2,g1]
   ·cases hr
  ·cases hr
 ·rename_i t m k v;split at hr
  ·rename_i ti u c ht hm hk hv;unfold li at hr;split at hr;·rename_i σ1 hs;injection hr with hr;subst hr;obtain⟨b,te,kt,xs,y,rfl,hb,hi,hte,hy,rfl⟩:=s5 hs;have rm:=aZ h m;have rk:=aZ h k;have rv:=aZ h v;rw[hm]at rm;rw[hk]at rk;rw[hv]at rv;obtain⟨w',g1,g2⟩:=xx hT h ht hi hb hte hy rk;refine .inr ⟨w',E, ?_,g2⟩;have e1:a.eval m=.map (some (E.bb b)):=rm.1;have e2:a.eval v=.bool true:=rv;simp[execOp,e1,e2,g1]
   ·cases hr
  ·cases hr
 ·rename_i dst args ts;split at hr
  ·rename_i m k t t' ha ht0;have ea:args=#[m,k]:=by apply Array.ext';simpa using ha
   have et:ts=#[t,t']:=by apply Array.ext';simpa using ht0
   subst ea et;split at hr
   ·rename_i ti u c ht hm hk;split at hr;·rename_i σ1 hs;injection hr with hr;obtain⟨b,te,kt,xs,y,rfl,hb,hi,hte,hy,rfl⟩:=s5 hs;have rm:=aZ h m;have rk:=aZ h k;rw[hm]at rm;rw[hk]at rk;obtain⟨w',g1,g2⟩:=Fb hT h (t':=t') ht hi hb hte hy rk oty;have e1:a.eval m=.map (some (E.bb b)):=rm.1;refine .inl ⟨.tuple #[],w',E,by simp[execOp,resolve,invoke,builtin,e1,g1],(λhq=>by cases hq), ?_⟩;subst hr;exact g2.iput hd (s:=.tup []) ⟨#[],rfl,trivial⟩
    ·cases hr
   ·cases hr
  ·cases hr
 ·rename_i t len parts d;obtain⟨v,w',E',g1,gx,g2⟩:=Fz hT h (hd d rfl) hr;refine .inl ⟨v,w',E', ?_,(λ_=>gx),g2⟩;simp[execOp,g1]
 ·rename_i args ts d;split at hr
  ·rename_i s x t t' ha ht;cases hq:Nat.beq t t';·rw[hq]at hr;cases hr
   ·rw[hq]at hr;obtain rfl:=Nat.eq_of_beq_eq_true hq;have ea:args=#[s,x]:=by apply Array.ext';simpa using ha
    have et:ts=#[t,t]:=by apply Array.ext';simpa using ht
    subst ea et;obtain⟨v,w',E',g1,g2⟩:=FC hT h (hd d rfl) (aZ h s) (aZ h x) hr oty;refine .inl ⟨v,w',E', ?_,(λhq=>by cases hq),g2⟩;simp[execOp,resolve,invoke,builtin,g1]
  ·cases hr
 ·cases hr
end
end Go.Fw
namespace Go.Fw
open Go.RowKit
section
variable {P : Program} {V V' : St} {E : aH} {w w' : World} {w0 : World} {lab0 : Nat → aw} {oo : Nat → Value} {n : Nat} {a : Act} {T : aY} [DC]
def R.ext(h:R w0 lab0 oo n V E a w)(e:bE w w'):R w0 lab0 oo n V E a w' :=
 h.grow (λk hk=>⟨e.old k hk,rfl⟩) ⟨e.os,e.tape,e.output⟩ e.size rfl (λr row hr=>.inl ⟨hr,rfl⟩) (λr row hr=>hr) (λb te cs hb=>.inl ⟨hb,rfl⟩) (λb x hb=>hb)
def o9:SV->Bool
 |.c (.int _ _)=>true
 |.c (.bool _)=>true
 |.c (.str _)=>true
 |.c .nil=>true
 |.c (.own _)=>true
 |.c (.box _ _)=>true
 |.c (.fn _ _)=>true
 |.c (.elt _ _ _)=>true
 |_=>false
def FE{s:SV}{v v':Value}(hp:o9 s=true)(h:aF V E w s v)(h':aF V E w' s v'):v=v':=by
 cases s with
 |c x =>
  cases x<;>simp only[o9]at hp<;>try contradiction
  case int=>exact(show v=_ from h).trans (show v'=_ from h').symm
  case bool=>exact(show v=_ from h).trans (show v'=_ from h').symm
  case str=>exact(show v=_ from h).trans (show v'=_ from h').symm
  case nil=>exact(show v=_ from h).trans (show v'=_ from h').symm
  case own r=>exact h.1.trans h'.1.symm
  case box b f=>exact h.1.trans h'.1.symm
  case fn f caps=>exact h.1.trans h'.1.symm
  case elt r i f =>obtain⟨row,g,m,c,e1,e2,_,_,_,e3⟩:=h;obtain⟨row',g',m',c',k1,k2,_,_,_,k3⟩:=h';rw[e1]at k1;injection k1 with k1;subst k1;rw[e2]at k2;injection k2 with k2;injection k2 with k2;injection k2 with k2;subst k2;rw[e3,k3]
 |agg l=>cases hp
 |tup l=>cases hp
def tb(op:Op)(s:SV):Bool :=
 match op with
 |.move _=>true
 |.assign _=>true
 |.load _ _=>true
 |.indexAddr _ _ _=>true
 |.fieldAddr _ _ _=>true
 |.extract _ _=>true
 |.nilCheck _=>true
 |_=>o9 s
def FF(hT:aT P T)(h:R w0 lab0 oo n V E a w){o:Oper}{c:Bool}{sv:SV}(hv:bW T V o.op=some (c,sv))(hc:c=true)(hk:tb o.op sv=true) :
  ∃v,(∀w',bE w w'->(execOp a.eval o).run P w'=.ok (.value v) w')/\aF V E w sv v:=by
 by_cases hp:o9 sv=true;·obtain⟨v,h1,h2⟩:=jX hT h hv hc;refine⟨v,λw' e=>?_,h2⟩;obtain⟨v',k1,k2⟩:=jX hT (h.ext e) hv hc;rw[FE hp h2 k2];exact k1
 obtain⟨dst,op,oty,pos,after,guard⟩:=o;have fin:∀{s:Sem Value}{sv:SV},(∃v,(∀w',bE w w'->s.run P w'=.ok v w')/\aF V E w sv v)->∃v,(∀w',bE w w'->(do pure (Next.value (<-s)):Sem Next).run P w'=.ok (.value v) w')/\aF V E w sv v:=by
  rintro s sv ⟨v,h1,h2⟩
  exact⟨v,λw' e=>by simp[h1 w' e],h2⟩
 cases op<;>first | (exact absurd hk hp)|skip
 case move x =>simp only[bW,Option.some.injEq,Prod.mk.injEq]at hv;obtain⟨_,rfl⟩:=hv;exact⟨_,λ_ _=>rfl,aZ h x⟩
 case assign x =>simp only[bW,Option.some.injEq,Prod.mk.injEq]at hv;obtain⟨_,rfl⟩:=hv;exact⟨_,λ_ _=>rfl,aZ h x⟩
 case extract x i =>obtain⟨v,h1,h2⟩:=jX hT h hv hc;refine⟨v,λw' e=>?_,h2⟩;simp only[execOp,Instr.extract]at h1 ⊢;split at h1<;>first | (simp at h1 ⊢;split at h1<;>first | (simp at h1 ⊢;exact h1) | (simp at h1;done)) | (simp at h1;done)
 case nilCheck x =>
  simp only[bW]at hv;split at hv
  ·rename_i u hx;have rx:=aZ h x;rw[hx]at rx;have rx:aj V E w u (a.eval x):=rx;cases hu:oZ u;·rw[hu]at hv;cases hv
   ·rw[hu]at hv;simp only[cond_true,Option.some.injEq,Prod.mk.injEq]at hv;obtain⟨_,rfl⟩:=hv;obtain⟨ad,hv⟩:=xG hu rx;exact⟨a.eval x,λw' _=>by simp[execOp,hv],rx⟩
  ·cases hv
 case load t x =>
  simp only[bW]at hv;split at hv
  ·rename_i i u ht hx;split at hv;·rename_i z hz;simp only[Option.some.injEq,Prod.mk.injEq]at hv;obtain⟨_,rfl⟩:=hv;have:=aZ h x;rw[hx]at this;exact fin (sA hT h ht hz this)
   ·cases hv
  ·cases hv
 case fieldAddr s x f =>
  simp only[bW]at hv;split at hv
  ·rename_i i u hs hx;have rx:=aZ h x;rw[hx]at rx;split at hv
   ·rename_i off m ag hf;split at hv;·rename_i z hz;simp only[Option.some.injEq,Prod.mk.injEq]at hv;obtain⟨_,rfl⟩:=hv;exact fin (let⟨v,h1,h2⟩:=sx hT hs hf hz rx.c_inv;⟨v,λw' _=>h1 w',h2⟩)
    ·cases hv
   ·cases hv
  ·cases hv
 case indexAddr t x i =>
  simp only[bW]at hv;split at hv
  ·rename_i ti u v ht hx hi;have rx:=aZ h x;have ri:=aZ h i;rw[hx]at rx;rw[hi]at ri;split at hv
   ·rename_i e he;split at hv
    ·rename_i ei hei;split at hv;·rename_i c' z hz;simp only[Option.some.injEq,Prod.mk.injEq]at hv;obtain⟨rfl,rfl⟩:=hv;exact fin (let⟨v,h1,h2⟩:=sw hT h ht he hei hz hc rx.c_inv ri.c_inv;⟨v,λw' _=>h1 w',h2⟩)
     ·cases hv
    ·cases hv
   ·cases hv
  ·cases hv
def FG(hT:aT P T)(h:R w0 lab0 oo n V E a w){o:Oper}{c:Bool}{sv:SV}(hv:bW T V o.op=some (c,sv))(hc:c=true)(hk:(match o.op with
 |.move _=>true
 |.assign _=>true
 |.extract _ _=>true
 |.fieldAddr _ _ _=>true
 |.indexAddr _ _ _=>true
 |_=>false)=true) :
  ∃v,(∀w',(execOp a.eval o).run P w'=.ok (.value v) w')/\aF V E w sv v:=by
 obtain⟨dst,op,oty,pos,after,guard⟩:=o;have fin:∀{s:Sem Value}{sv:SV},(∃v,(∀w',s.run P w'=.ok v w')/\aF V E w sv v)->∃v,(∀w',(do pure (Next.value (<-s)):Sem Next).run P w'=.ok (.value v) w')/\aF V E w sv v:=by
  rintro s sv ⟨v,h1,h2⟩
  exact⟨v,λw'=>by simp[h1 w'],h2⟩
 cases op<;>first | (cases hk;done)|skip
 case move x =>simp only[bW,Option.some.injEq,Prod.mk.injEq]at hv;obtain⟨_,rfl⟩:=hv;exact⟨_,λ_=>rfl,aZ h x⟩
 case assign x =>simp only[bW,Option.some.injEq,Prod.mk.injEq]at hv;obtain⟨_,rfl⟩:=hv;exact⟨_,λ_=>rfl,aZ h x⟩
 case fieldAddr s x f =>
  simp only[bW]at hv;split at hv
  ·rename_i i u hs hx;have rx:=aZ h x;rw[hx]at rx;split at hv
   ·rename_i off m ag hf;split at hv;·rename_i z hz;simp only[Option.some.injEq,Prod.mk.injEq]at hv;obtain⟨_,rfl⟩:=hv;exact fin (let⟨v,h1,h2⟩:=sx hT hs hf hz rx.c_inv;⟨v,λw'=>h1 w',h2⟩)
    ·cases hv
   ·cases hv
  ·cases hv
 case indexAddr t x i =>
  simp only[bW]at hv;split at hv
  ·rename_i ti u v ht hx hi;have rx:=aZ h x;have ri:=aZ h i;rw[hx]at rx;rw[hi]at ri;split at hv
   ·rename_i e he;split at hv
    ·rename_i ei hei;split at hv;·rename_i c' z hz;simp only[Option.some.injEq,Prod.mk.injEq]at hv;obtain⟨rfl,rfl⟩:=hv;exact fin (let⟨v,h1,h2⟩:=sw hT h ht he hei hz hc rx.c_inv ri.c_inv;⟨v,λw'=>h1 w',h2⟩)
     ·cases hv
    ·cases hv
   ·cases hv
  ·cases hv
 case extract x i =>obtain⟨v,h1,h2⟩:=jX hT h hv hc;refine⟨v,λw'=>?_,h2⟩;simp only[execOp,Instr.extract]at h1 ⊢;split at h1<;>first | (simp at h1 ⊢;split at h1<;>first | (simp at h1 ⊢;exact h1) | (simp at h1;done)) | (simp at h1;done)
end
section
variable {P : Program} {ops : Array Oper} {Q : Exit → Act → World → Prop} [DC]
def j0:Op->Bool
 |.move _=>true
 |.assign _=>true
 |.extract _ _=>true
 |.fieldAddr _ _ _=>true
 |.indexAddr _ _ _=>true
 |_=>false
def eZ(ops:Array Oper):Nat->Nat->Nat->Bool
 |0,_,_=>false
 |f+1,i,j=>match ops[i]? with
  |some oi=>oi.after.any λe=>Region.binds .any e&&(Nat.beq e.on j||eZ ops f e.on j)
  |none=>false
def gQ(ops:Array Oper)(H:Nat->Bool)(i:Nat):Bool :=
 (List.range ops.size).all λj=>Nat.beq j i||(match ops[j]? with
  |some oj=>j0 oj.op||((eZ ops 4 i j||eZ ops 4 j i)||H j)
  |none=>true)
def gr(ops:Array Oper)(listed:Array Bool):Prop:=∀i oi,ops[i]? = some oi->listed.getD i false=true->∀e∈oi.after,Region.binds .any e=true->listed.getD e.on false=true
def gr.none:gr ops (Array.replicate ops.size false):=by
 intro i oi hi h;exfalso;rcases Nat.lt_or_ge i ops.size with h'|h';·simp[h']at h
 ·simp[Array.getD,Nat.not_lt.2 h']at h
def tc{listed:Array Bool}{k:Nat}(h1:listed.getD k true=false)(h2:listed.getD k false=true):False:=by
 rcases Nat.lt_or_ge k listed.size with h'|h';·simp[h']at h1 h2;rw[h1]at h2;cases h2
 ·simp[Array.getElem?_eq_none h']at h2
def gr.put{listed:Array Bool}(h:gr ops listed){i:Nat}(hi:i∈Region.ready .any ops listed):gr ops (listed.setIfInBounds i true):=by
 obtain⟨hiun,oi,hoi,hia⟩:=mem_ready.1 hi;have grow:∀k,listed.getD k false=true->(listed.setIfInBounds i true).getD k false=true:=by
  intro k hk;by_cases e:i=k;·subst e;exact(tc hiun hk).elim
  ·rw[getD_set_ne false e];exact hk
 intro k ok hk hl e he hb;by_cases hik:i=k;·subst hik;rw[hoi]at hk;injection hk with hk;subst hk;exact grow _ (hia e he hb)
 ·rw[getD_set_ne false hik]at hl;exact grow _ (h k ok hk hl e he hb)
def td{listed:Array Bool}(h:gr ops listed):∀(f:Nat) {i j:Nat}{oi:Oper},ops[i]? = some oi->(∀e∈oi.after,Region.binds .any e=true->listed.getD e.on false=true)->eZ ops f i j=true->listed.getD j false=true
 |0,_,_,_,_,_,hb=>by cases hb
 |f+1,i,j,oi,hi,ha,hb=>by
  simp only[eZ,hi]at hb;obtain⟨e,he,hb⟩:=Array.any_eq_true'.1 hb;simp only[Bool.and_eq_true,Bool.or_eq_true]at hb;have h1:=ha e he hb.1;rcases hb.2 with h2|h2;·rw[Nat.eq_of_beq_eq_true h2]at h1;exact h1
  ·cases hoe:ops[e.on]? with
   |none =>
    cases f with
    |zero=>cases h2
    |succ f=>simp only[eZ,hoe]at h2;cases h2
   |some oe=>exact td h f hoe (λe' he' hb'=>h _ oe hoe h1 e' he' hb') h2
def FH{Hd:Nat->Bool}{listed:Array Bool}{i j:Nat}(hH:Hd i=false)(hcl:gr ops listed)(hnp:∀o,ops[i]? = some o->j0 o.op=false)(hl:gQ ops Hd j=true)(hne:j≠i)(hi:i∈Region.ready .any ops listed)(hj:j∈Region.ready .any ops listed):False:=by
 obtain⟨hiun,oi,hoi,hia⟩:=mem_ready.1 hi;obtain⟨hjun,oj,hoj,hja⟩:=mem_ready.1 hj;have hlt:i<ops.size:=(Array.getElem?_eq_some_iff.1 hoi).1;have:=List.all_eq_true.1 hl i (List.mem_range.2 hlt);rw[hoi]at this;simp only[Bool.or_eq_true]at this;rw[hH]at this;rcases this with h|h | (h|h)|h;rotate_left 4
 ·cases h
 ·exact hne (Nat.eq_of_beq_eq_true h).symm
 ·rw[hnp oi hoi]at h;cases h
 ·exact tc hiun (td hcl 4 hoj hja h)
 ·exact tc hjun (td hcl 4 hoi hia h)
def fa(P:Program)(ops:Array Oper)(Hd:Nat->Bool)(Q:Exit->Act->World->Prop):Nat->Array Bool->Act->World->Prop
 |0,listed,a,w=>Region.ready .any ops listed=[]/\Q .normal a w
 |fuel+1,listed,a,w =>
  (Region.ready .any ops listed=[]->Q .normal a w) /\
  ∀i∈Region.ready .any ops listed,wpOp P ops Q i (λa' w'=>(gQ ops Hd i=false->bE w w')/\fa P ops Hd Q fuel (listed.setIfInBounds i true) a' w') a w
def xO{Hd:Nat->Bool}:∀(fuel:Nat) (listed:Array Bool) (a:Act) (w:World),fa P ops Hd Q fuel listed a w->wpAny P .any ops Q fuel listed a w
 |0,_,_,_,h=>h
 |fuel+1,_,_,_,h=>⟨h.1,λi hi=>wpOp_mono (λa' w' h'=>xO fuel _ a' w' h'.2) (h.2 i hi)⟩
def xP{S S':World->Prop}{o:Oper}{v:Value}{a:Act}(hS:∀w,S' w->S w)(h:YieldsIf P ops S o v a):YieldsIf P ops S' o v a :=
 h.imp (λ⟨hw,hv⟩=>⟨hw,λw hs=>hv w (hS w hs)⟩) id
def FI{Hd:Nat->Bool}{i:Nat}{oi:Oper}{v:Value}(hH:Hd i=false)(hi:ops[i]? = some oi)(hnp:j0 oi.op=false)(hsel:∀(j:Nat) (o:Oper) cs b,ops[j]? = some o->o.op≠.select cs b)
  (hQ:∀c a w,Q (.panic c) (a.put oi.dst v) w->Q (.panic c) a w) :
  ∀(fuel:Nat) (listed:Array Bool) (a:Act) (w:World),gr ops listed ->
   (∀j oj,ops[j]? = some oj->j≠i->listed.getD j true=false->(∀e∈oj.after,Region.binds .any e=true->e.on≠i)->oi.apart ops oj=true) ->
   i∈Region.ready .any ops listed->YieldsIf P ops (bE w) oi v a ->
   fa P ops Hd Q fuel (listed.setIfInBounds i true) (a.put oi.dst v) w->fa P ops Hd Q (fuel+1) listed a w:=by
 intro fuel;induction fuel with
 |zero =>
  intro listed a w _ _ hr hy H;refine⟨λh=>(by rw[h]at hr;cases hr),λj hj=>?_⟩;by_cases hji:j=i;·subst hji;exact hy.wpOp hi (bE.refl w) ⟨λ_=>bE.refl w,H⟩
  ·have:=ready_mono hj hji;rw[H.1]at this;cases this
 |succ fuel ih =>
  intro listed a w hcl hfree hr hy H;refine⟨λh=>(by rw[h]at hr;cases hr),λj hj=>?_⟩;by_cases hji:j=i;·subst hji;exact hy.wpOp hi (bE.refl w) ⟨λ_=>bE.refl w,H⟩
  ·have h1:=H.2 j (ready_mono hj hji);obtain⟨hjun,oj,hoj,hall⟩:=mem_ready.1 hj;have hnot:∀e∈oj.after,Region.binds .any e=true->e.on≠i:=λe he hb heq=>by
    have h1:=hall e he hb;have h0:=(mem_ready.1 hr).1;rw[heq]at h1;rcases Nat.lt_or_ge i listed.size with h'|h';·simp[h']at h0 h1;rw[h0]at h1;cases h1
    ·simp[Array.getElem?_eq_none h']at h1
   have hlast:gQ ops Hd j=false:=by
    cases hb:gQ ops Hd j;·rfl
    ·exact(FH hH hcl (λo ho=>by rw[hi]at ho;injection ho with ho;subst ho;exact hnp) hb hji hr hj).elim
   have h2:=wpOp_putIf hoj (hfree j oj hoj hji hjun hnot) (λcs b=>hsel i oi cs b hi) (λcs b=>hsel j oj cs b hoj) hQ hy h1;have hfree':∀k ok,ops[k]? = some ok->k≠i->(listed.setIfInBounds j true).getD k true=false ->
     (∀e∈ok.after,Region.binds .any e=true->e.on≠i)->oi.apart ops ok=true:=λk ok hk hki hun hno=>by
    refine hfree k ok hk hki ?_ hno;by_cases hjk:j=k;·subst hjk;exact hjun
    ·rw[getD_set_ne true hjk]at hun;exact hun
   refine wpOp_mono (λa' w' h3=>⟨h3.2.1,ih (listed.setIfInBounds j true) a' w' (hcl.put hj) hfree' (ready_mono hr (Ne.symm hji)) (xP (λw'' e=>(h3.2.1 hlast).trans e) h3.1) ?_⟩) h2;rw[Array.setIfInBounds_comm _ _ hji];exact h3.2.2
def FJ{Hd:Nat->Bool}{i:Nat}{oi:Oper}{v:Value}(hi:ops[i]? = some oi)(hsel:∀(j:Nat) (o:Oper) cs b,ops[j]? = some o->o.op≠.select cs b)
  (hQ:∀c a w,Q (.panic c) (a.put oi.dst v) w->Q (.panic c) a w) :
  ∀(fuel:Nat) (listed:Array Bool) (a:Act) (w:World),
   (∀j oj,ops[j]? = some oj->j≠i->listed.getD j true=false->(∀e∈oj.after,Region.binds .any e=true->e.on≠i)->oi.apart ops oj=true) ->
   i∈Region.ready .any ops listed->YieldsIf P ops (λ_=>True) oi v a ->
   fa P ops Hd Q fuel (listed.setIfInBounds i true) (a.put oi.dst v) w->fa P ops Hd Q (fuel+1) listed a w:=by
 intro fuel;induction fuel with
 |zero =>
  intro listed a w _ hr hy H;refine⟨λh=>(by rw[h]at hr;cases hr),λj hj=>?_⟩;by_cases hji:j=i;·subst hji;exact hy.wpOp hi trivial ⟨λ_=>bE.refl w,H⟩
  ·have:=ready_mono hj hji;rw[H.1]at this;cases this
 |succ fuel ih =>
  intro listed a w hfree hr hy H;refine⟨λh=>(by rw[h]at hr;cases hr),λj hj=>?_⟩;by_cases hji:j=i;·subst hji;exact hy.wpOp hi trivial ⟨λ_=>bE.refl w,H⟩
  ·have h1:=H.2 j (ready_mono hj hji);obtain⟨hjun,oj,hoj,hall⟩:=mem_ready.1 hj;have hnot:∀e∈oj.after,Region.binds .any e=true->e.on≠i:=λe he hb heq=>by
    have h1:=hall e he hb;have h0:=(mem_ready.1 hr).1;rw[heq]at h1;rcases Nat.lt_or_ge i listed.size with h'|h';·simp[h']at h0 h1;rw[h0]at h1;cases h1
    ·simp[Array.getElem?_eq_none h']at h1
   have h2:=wpOp_putIf hoj (hfree j oj hoj hji hjun hnot) (λcs b=>hsel i oi cs b hi) (λcs b=>hsel j oj cs b hoj) hQ hy h1;have hfree':∀k ok,ops[k]? = some ok->k≠i->(listed.setIfInBounds j true).getD k true=false ->
     (∀e∈ok.after,Region.binds .any e=true->e.on≠i)->oi.apart ops ok=true:=λk ok hk hki hun hno=>by
    refine hfree k ok hk hki ?_ hno;by_cases hjk:j=k;·subst hjk;exact hjun
    ·rw[getD_set_ne true hjk]at hun;exact hun
   refine wpOp_mono (λa' w' h3=>⟨h3.2.1,ih (listed.setIfInBounds j true) a' w' hfree' (ready_mono hr (Ne.symm hji)) (xP (λ_ _=>trivial) h3.1) ?_⟩) h2;rw[Array.setIfInBounds_comm _ _ hji];exact h3.2.2
def xQ{Hd:Nat->Bool}{i:Nat}{oi:Oper}{v:Value}{fuel:Nat}{listed:Array Bool}{a:Act}{w:World}(hH:Hd i=false)(hi:ops[i]? = some oi)(hnp:j0 oi.op=false)
  (hs:Region.noSelect ops=true) (hcl:gr ops listed) (hf:Region.free .any ops listed i=true) (hr:i∈Region.ready .any ops listed)
  (hQ:∀c a w,Q (.panic c) (a.put oi.dst v) w->Q (.panic c) a w) (hy:YieldsIf P ops (bE w) oi v a)
  (h:fa P ops Hd Q fuel (listed.setIfInBounds i true) (a.put oi.dst v) w):fa P ops Hd Q (fuel+1) listed a w :=
 FI hH hi hnp (Region.noSelect_spec hs) hQ fuel listed a w hcl (Region.free_spec hi hf) hr hy h
def xR{Hd:Nat->Bool}{i:Nat}{oi:Oper}{v:Value}{fuel:Nat}{listed:Array Bool}{a:Act}{w:World}(hi:ops[i]? = some oi)
  (hs:Region.noSelect ops=true) (hf:Region.free .any ops listed i=true) (hr:i∈Region.ready .any ops listed)
  (hQ:∀c a w,Q (.panic c) (a.put oi.dst v) w->Q (.panic c) a w) (hy:YieldsIf P ops (λ_=>True) oi v a)
  (h:fa P ops Hd Q fuel (listed.setIfInBounds i true) (a.put oi.dst v) w):fa P ops Hd Q (fuel+1) listed a w :=
 FJ hi (Region.noSelect_spec hs) hQ fuel listed a w (Region.free_spec hi hf) hr hy h
def FK{Hd:Nat->Bool}{listed:Array Bool}{a:Act}{w:World}(hr:Region.ready .any ops listed=[])(h:Q .normal a w) :
  ∀fuel,fa P ops Hd Q fuel listed a w
 |0=>⟨hr,h⟩
 |_+1=>⟨λ_=>h,by rw[hr];simp⟩
end
end Go.Fw
namespace Go.Fw
open Go.RowKit
structure PT where
 t:Ty
 agg:Bool
 io:Bool
def an:List PT->Type
 |[]=>Unit
 |p::ps=>p.t.den×an ps
def cA:List PT->Type
 |[]=>Unit
 |p::ps=>cond p.io p.t.den (cA ps)
structure bv where
 ps:List PT
 rs:List PT
structure aW where
 sig:bv
 pre:Option (an sig.ps->Bool)
 val:an sig.ps->cA sig.ps×an sig.rs
def bS{α:Type}(p:Option (α->Bool))(X:α):Bool:=match p with
 |none=>true
 |some f=>f X
def aW.G(en:aW)(X:an en.sig.ps):Option (cA en.sig.ps×an en.sig.rs):=cond (bS en.pre X) (some (en.val X)) none
def eT(agg:Bool)(v:Value)(cs:List Value):Prop:=cond agg (∃arr:Array Value,v=.agg arr/\arr.toList=cs) (cs=[v])
def dG(w:World)(L:List Nat):(ps:List PT)->List Value->an ps->Prop
 |[],[],_=>True
 |p::ps,v::vs,X=>(∃cs,eT p.agg v cs/\cond p.io (az w p.t L cs X.1) (Rd w (λk=>k∉L) p.t cs X.1))/\dG w L ps vs X.2
 |[],_::_,_=>False
 |_::_,[],_=>False
def FL{A B:Type}:(b:Bool)->(A->Prop)->(B->Prop)->cond b A B->Prop
 |true,f,_,y=>f y
 |false,_,g,y=>g y
def iR(w:World)(L:List Nat):(ps:List PT)->List Value->cA ps->Prop
 |[],_,_=>L=[]
 |p::ps,v::vs,y=>FL p.io (λx=>∃cs,eT p.agg v cs/\az w p.t L cs x) (λy=>iR w L ps vs y) y
 |_::_,[],_=>False
def tf(io:Bool):(t:Ty)->List Value->t.den->Prop
 |.sl _ _,cs,x=>io=true->x.length=0->cs=[.slice none 0 0]
 |_,_,_=>True
def j8(w:World):(rs:List PT)->List Value->an rs->List Nat->Prop
 |[],[],_,L=>L=[]
 |r::rs,v::vs,Y,L=>∃cs L1 L2,L=L1++L2/\eT r.agg v cs/\az w r.t L1 cs Y.1/\tf r.io r.t cs Y.1/\j8 w rs vs Y.2 L2
 |[],_::_,_,_=>False
 |_::_,[],_,_=>False
def j9:List Value->Value->Prop
 |[u],v=>v=u
 |vs,v=>v=.tuple vs.toArray
def bQ(ps:List PT):Bool:=ps.all λp=>!p.io
def de:List PT->Bool
 |[]=>true
 |p::ps=>cond p.io (bQ ps) (de ps)
structure tg[DC](w:World)(sig:bv)(args:List Value)(L:List Nat)(y:cA sig.ps)(Y:an sig.rs)(v:Value)(w':World)(vs:List Value)(L' Lr:List Nat):Prop where
 ret:j9 vs v
 res:j8 w' sig.rs vs Y Lr
 io:iR w' L' sig.ps args y
 nodup:(Lr++L').Nodup
 fresh:∀k∈Lr,k∈L\/w.heap.size<=k
 from_:∀k∈L',k∈L\/w.heap.size<=k
 os:w'.os=w.os
 tape:Tp w w'
 output:w'.output=w.output
 size:w.heap.size<=w'.heap.size
 old:∀k,k<w.heap.size->k∉L->w'.heap[k]? = w.heap[k]?
def cB(P:Program)(f:Nat)(args:Array Value)(w:World)(Q:Ending->World->Prop):Prop :=
 ((callFunc f args).run P w=.ok (.enter f args) w/\Calls P f args w Q)\/∃v w',(callFunc f args).run P w=.ok (.value v) w'/\Q (.returned v) w'
def cB.mono{P:Program}{f:Nat}{args:Array Value}{w:World}{Q Q':Ending->World->Prop}(h:cB P f args w Q)(hq:∀e w,Q e w->Q' e w):cB P f args w Q' :=
 h.imp (λ⟨h1,h2⟩=>⟨h1,h2.mono λe w=>hq e w⟩) λ⟨v,w',h1,h2⟩=>⟨v,w',h1,hq _ _ h2⟩
class Inv (P:Program) where
 I:World->Prop
 B:Nat->Prop
 keep:∀w w',(∀k,B k->w'.heap[k]? = w.heap[k]?)->I w->I w'
 lt:∀w k,I w->B k->k<w.heap.size
def aB[DC](P:Program)[Inv P](f:Nat)(en:aW):Prop :=
 ∀(w:World) (args:Array Value) (L:List Nat) (X:an en.sig.ps) (y:cA en.sig.ps) (Y:an en.sig.rs),dG w L en.sig.ps args.toList X->(bQ en.sig.ps=true->L=[])->L.Nodup->(∀k∈L,k<w.heap.size) ->
  en.G X=some (y,Y)->Inv.I P w->(∀k∈L,¬ Inv.B P k)->cB P f args w λe w'=>∃v vs L' Lr,e=.returned v/\tg w en.sig args.toList L y Y v w' vs L' Lr
def mL[DC](P:Program)(w0:World)(lab0:Nat->aw)(f:Nat)(en:aW):Prop :=
 ∀(w:World) (args:Array Value) (L:List Nat) (X:an en.sig.ps) (y:cA en.sig.ps) (Y:an en.sig.rs),dG w L en.sig.ps args.toList X->(bQ en.sig.ps=true->L=[])->L.Nodup->(∀k∈L,k<w.heap.size) ->
  en.G X=some (y,Y)->(∀k,k<w0.heap.size->lab0 k=.st->w.heap[k]? = w0.heap[k]?)->(∀k∈L,¬ (k<w0.heap.size/\lab0 k=.st))->cB P f args w λe w'=>∃v vs L' Lr,e=.returned v/\tg w en.sig args.toList L y Y v w' vs L' Lr
def aB.at[DC]{P:Program}[Inv P]{f:Nat}{en:aW}(h:aB P f en){w0:World}{lab0:Nat->aw}(hI:Inv.I P w0)(hB:∀k,Inv.B P k->lab0 k=.st):mL P w0 lab0 f en :=
 λw args L X y Y h1 h2 h3 h4 h5 h6 h7=>h w args L X y Y h1 h2 h3 h4 h5 (Inv.keep w0 w (λk hk=>h6 k (Inv.lt w0 k hI hk) (hB k hk)) hI) λk hk hb=>h7 k hk ⟨Inv.lt w0 k hI hb,hB k hb⟩
def pc(bad:List Nat)(look:Nat->Option ac)(e:Nat)(t:Ty):List ae->Option (List t.den)
 |[.nil]=>some []
 |[.own r]=>match look r with
  |some row=>cond (Nat.beq row.e e&&!(bk r bad)) (cV row.t t row.xs) none
  |none=>none
 |[.part r lo n]=>match look r with
  |some row=>cond (!(bk r bad)) (cV row.t t ((row.xs.drop lo.toNat).take n.toNat)) none
  |none=>none
 |[.sn e' t' xs none]=>cV t' t xs
 |[.sn e' t' xs (some r)]=>cond (!(bk r bad)) (cV t' t xs) none
 |[.full e' t' xs none]=>cV t' t xs
 |[.full e' t' xs (some r)]=>cond (!(bk r bad)) (cV t' t xs) none
 |[.bor _ _ t' xs]=>cV t' t xs
 |_=>none
def mM(bad:List Nat)(look:Nat->Option ac):(t:Ty)->List ae->Option t.den
 |.int k,cs=>iL k cs
 |.bool,cs=>jN cs
 |.fnc g,cs=>my g cs
 |.str,cs=>iM cs
 |.err,cs=>mz cs
 |.sl e t,cs=>pc bad look e t cs
 |.pair a b,cs=>dw (mM bad look a (cs.take a.nc)) (mM bad look b (cs.drop a.nc))
section
variable {P : Program} {V V' : St} {E E' : aH} {w w' : World} {w0 : World} {lab0 : Nat → aw} {oo : Nat → Value} {n : Nat} {a : Act} [DC]
def ka{S:Nat->Prop}{e e':Nat}{t t':Ty}{xs:List t.den}{ys:List t'.den}{u:Value}(hc:cV t t' xs=some ys)(h:Rd w S (.sl e t) [u] xs):Rd w S (.sl e' t') [u] ys:=by obtain⟨rfl,rfl⟩:=fz hc;exact h
def pf{x:Nat}{l:List Nat}(h:(!bk x l)=true):x∉l:=λhm=>by rw[fw.2 hm]at h;cases h
def fb(lab:Nat->aw)(bad:List Nat)(k:Nat):Prop:=∀q∈bad,¬ cZ lab q k
def pg{lab:Nat->aw}{bad:List Nat}{r k:Nat}(hr:r∉bad)(h:cZ lab r k):fb lab bad k:=λq hq h'=>hr (ii h h'▸hq)
def xS{lab:Nat->aw}{bad:List Nat}{k:Nat}(h:lab k=.dead):fb lab bad k:=λq hq h'=>by rcases h' with h'|h'<;>rw[h]at h'<;>cases h'
def ll{lab:Nat->aw}{bad:List Nat}{k:Nat}(h:lab k=.st):fb lab bad k:=λq hq h'=>by rcases h' with h'|h'<;>rw[h]at h'<;>cases h'
def gt(lab:Nat->aw)(bad:List Nat)(k:Nat):Prop:=fb lab bad k/\∀b,lab k≠.box b
def ln{lab:Nat->aw}{bad:List Nat}{r k:Nat}(hr:r∉bad)(h:cZ lab r k):gt lab bad k:=⟨pg hr h,λb hb=>by rcases h with h|h<;>rw[h]at hb<;>cases hb⟩
def FM{lab:Nat->aw}{bad:List Nat}{k:Nat}(h:lab k=.dead):gt lab bad k:=⟨xS h,λb hb=>by rw[h]at hb;cases hb⟩
def lq{lab:Nat->aw}{bad:List Nat}{k:Nat}(h:lab k=.st):gt lab bad k:=⟨ll h,λb hb=>by rw[h]at hb;cases hb⟩
def xT(h:R w0 lab0 oo n V E a w){bad:List Nat}{e:Nat}{t:Ty}{cs:List ae}{us:List Value}{y:List t.den}(hp:pc bad V.row e t cs=some y)(hc:ai (aj V E w) cs us) :
  Rd w (gt E.lab bad) (.sl e t) us y:=by
 unfold pc at hp;split at hp;·obtain⟨u,rfl,hu⟩:=bT hc;injection hp with hp;subst hp;obtain rfl:u=_:=hu;exact⟨none,0,0,rfl,rfl,Nat.le_refl _,Nat.zero_le _,.inl rfl⟩
 ·rename_i r;obtain⟨u,rfl,hu⟩:=bT hc;split at hp
  ·rename_i row hrow;cases hq:(Nat.beq row.e e&&!(bk r bad));·rw[hq]at hp;cases hp
   ·rw[hq]at hp;simp only[Bool.and_eq_true]at hq;have hnb:=pf hq.2;obtain⟨rfl,_,_⟩:=hu;exact ka hp ((h.rows r row hrow).rd (λk hk=>ln hnb (.inl hk)) (λk hk=>by
     cases hd:row.deep;·rw[hd]at hk;exact lq hk
     ·rw[hd]at hk;exact ln hnb (.inr hk)))
  ·cases hp
 ·rename_i r lo m;obtain⟨u,rfl,hu⟩:=bT hc;split at hp
  ·rename_i row hrow;cases hq:(!(bk r bad));·rw[hq]at hp;cases hp
   ·rw[hq]at hp;have hnb:=pf hq;exact ka hp (xN h hrow hu λk hk=>hk.elim (ln hnb) lq)
  ·cases hp
 ·rename_i e' t' xs;obtain⟨u,rfl,hu⟩:=bT hc;exact ka hp (Rd.mono (λk hk=>lq hk) (show Rd w (λk=>E.lab k=.st) (.sl e' t') [u] xs from hu))
 ·rename_i e' t' xs r;obtain⟨u,rfl,hu⟩:=bT hc;cases hq:(!(bk r bad));·rw[hq]at hp;cases hp
  ·rw[hq]at hp;exact ka hp (Rd.mono (λk hk=>ln (pf hq) (.inr hk)) (show Rd w (λk=>E.lab k=.inn r) (.sl e' t') [u] xs from hu))
 ·rename_i e' t' xs;obtain⟨u,rfl,hu⟩:=bT hc;exact ka hp (Rd.mono (λk hk=>lq hk) (show Rd w (λk=>E.lab k=.st) (.sl e' t') [u] xs from hu.1))
 ·rename_i e' t' xs r;obtain⟨u,rfl,hu⟩:=bT hc;cases hq:(!(bk r bad));·rw[hq]at hp;cases hp
  ·rw[hq]at hp;exact ka hp (Rd.mono (λk hk=>ln (pf hq) (.inr hk)) (show Rd w (λk=>E.lab k=.inn r) (.sl e' t') [u] xs from hu.1))
 ·rename_i v0 e' t' xs;obtain⟨u,rfl,hu⟩:=bT hc;exact ka hp (Rd.mono (λk hk=>lq hk) (show Rd w (λk=>E.lab k=.st) (.sl e' t') [u] xs from hu.2))
 ·cases hp
def kb(h:R w0 lab0 oo n V E a w){bad:List Nat}:∀{t:Ty}{cs:List ae}{us:List Value}{y:t.den},mM bad V.row t cs=some y->ai (aj V E w) cs us->Rd w (gt E.lab bad) t us y
 |.int k,cs,us,y,e,hc=>by obtain rfl:=jU e;obtain⟨u,rfl,hu⟩:=bT hc;obtain rfl:u=_:=hu;rfl
 |.bool,cs,us,y,e,hc=>by obtain rfl:=lb e;obtain⟨u,rfl,hu⟩:=bT hc;obtain rfl:u=_:=hu;rfl
 |.fnc _,cs,us,y,e,hc=>by obtain rfl:=mE e;obtain⟨u,rfl,hu⟩:=bT hc;obtain⟨rfl,_⟩:=hu;rfl
 |.err,cs,us,y,e,hc=>by obtain rfl:=oS e;obtain⟨u,rfl,hu⟩:=bT hc;exact⟨u,rfl,hu⟩
 |.str,cs,us,y,e,hc=>by obtain rfl:=jV e;obtain⟨u,rfl,hu⟩:=bT hc;obtain rfl:u=_:=hu;rfl
 |.sl e t,cs,us,y,hp,hc=>xT h hp hc
 |.pair t1 t2,cs,us,y,e,hc=>by obtain⟨h1,h2⟩:=dx e;exact⟨us.take t1.nc,us.drop t1.nc,(List.take_append_drop _ _).symm,kb h h1 (hc.take _),kb h h2 (hc.drop _)⟩
def aE(d:Nat):(t:Ty)->t.den->Nat->List ae×List (Nat×ac)×Nat
 |.int k,x,j=>([.int k x],[],j)
 |.bool,x,j=>([.bool x],[],j)
 |.fnc g,_,j=>([.fn g []],[],j)
 |.str,x,j=>([.str x],[],j)
 |.err,x,j=>([.err x],[],j)
 |.sl e t,xs,j=>([.own (aN d j)],[(aN d j,⟨e,t,xs,true,false⟩)],j+1)
 |.pair a b,x,j =>
  match aE d a x.1 j with
  | (c1,r1,j1)=>match aE d b x.2 j1 with
   | (c2,r2,j2)=>(c1++c2,r1++r2,j2)
def fC(d:Nat):∀{t:Ty}{y:t.den}{j:Nat},j<=(aE d t y j).2.2/\∀p∈(aE d t y j).2.1,∃i,j<=i/\i<(aE d t y j).2.2/\p.1=aN d i
 |.int _,_,j=>⟨Nat.le_refl _,λp hp=>by simp[aE]at hp⟩
 |.bool,_,j=>⟨Nat.le_refl _,λp hp=>by simp[aE]at hp⟩
 |.fnc _,_,j=>⟨Nat.le_refl _,λp hp=>by simp[aE]at hp⟩
 |.str,_,j=>⟨Nat.le_refl _,λp hp=>by simp[aE]at hp⟩
 |.err,_,j=>⟨Nat.le_refl _,λp hp=>by simp[aE]at hp⟩
 |.sl e t,xs,j=>⟨Nat.le_succ _,λp hp=>by simp only[aE,List.mem_singleton]at hp;subst hp;exact⟨j,Nat.le_refl _,Nat.lt_succ_self _,rfl⟩⟩
 |.pair a b,x,j=>by
  have h1:=fC d (t:=a) (y:=x.1) (j:=j);have h2:=fC d (t:=b) (y:=x.2) (j:=(aE d a x.1 j).2.2);refine⟨Nat.le_trans h1.1 h2.1,λp hp=>?_⟩;simp only[aE,List.mem_append]at hp;rcases hp with hp|hp;·obtain⟨i,k1,k2,k3⟩:=h1.2 p hp;exact⟨i,k1,Nat.lt_of_lt_of_le k2 h2.1,k3⟩
  ·obtain⟨i,k1,k2,k3⟩:=h2.2 p hp;exact⟨i,Nat.le_trans h1.1 k1,k2,k3⟩
def kc{d i j:Nat}(h:aN d i=aN d j):i=j:=by unfold aN at h;omega
def ke(d:Nat):∀{t:Ty}{y:t.den}{L:List Nat}{cs:List Value}{j:Nat},az w t L cs y->L.Nodup ->
  ∃(f:Nat->aw) (rvf:Nat->Value),(∀k∈L,∃i,j<=i/\i<(aE d t y j).2.2/\(f k=.row (aN d i)\/f k=.inn (aN d i))) /\
   ∀(σ2:St) (E2:aH),(∀k∈L,E2.lab k=f k)->(∀p∈(aE d t y j).2.1,E2.rv p.1=rvf p.1) ->
   (∀p∈(aE d t y j).2.1,σ2.row p.1=some p.2)->ai (aj σ2 E2 w) (aE d t y j).1 cs/\∀p∈(aE d t y j).2.1,bJ w E2.lab p.1 p.2 (E2.rv p.1)
 |.int k,y,L,cs,j,h,_=>by obtain⟨rfl,rfl⟩:=h;exact⟨λ_=>.st,λ_=>undef,(λ_ h=>by cases h),λ_ _ _ _ _=>⟨⟨rfl,trivial⟩,λp hp=>by simp[aE]at hp⟩⟩
 |.bool,y,L,cs,j,h,_=>by obtain⟨rfl,rfl⟩:=h;exact⟨λ_=>.st,λ_=>undef,(λ_ h=>by cases h),λ_ _ _ _ _=>⟨⟨rfl,trivial⟩,λp hp=>by simp[aE]at hp⟩⟩
 |.fnc _,y,L,cs,j,h,_=>by obtain⟨rfl,rfl⟩:=h;exact⟨λ_=>.st,λ_=>undef,(λ_ h=>by cases h),λ_ _ _ _ _=>⟨⟨⟨rfl,λp hp=>by cases hp⟩,trivial⟩,λp hp=>by simp[aE]at hp⟩⟩
 |.err,y,L,cs,j,h,_=>by obtain⟨⟨v,rfl,hv⟩,rfl⟩:=h;exact⟨λ_=>.st,λ_=>undef,(λ_ h=>by cases h),λ_ _ _ _ _=>⟨⟨hv,trivial⟩,λp hp=>by simp[aE]at hp⟩⟩
 |.str,y,L,cs,j,h,_=>by obtain⟨rfl,rfl⟩:=h;exact⟨λ_=>.st,λ_=>undef,(λ_ h=>by cases h),λ_ _ _ _ _=>⟨⟨rfl,trivial⟩,λp hp=>by simp[aE]at hp⟩⟩
 |.sl e t,xs,L,cs,j,h,hn=>by
  obtain⟨v,css,Ls,rfl,ho,rfl,hall⟩:=h;obtain⟨hn1,hn2,hn3⟩:=List.nodup_append.1 hn;refine⟨λk=>if k∈v.ownBlock.toList then .row (aN d j)else .inn (aN d j),λ_=>v,λk hk=>⟨j,Nat.le_refl _,Nat.lt_succ_self _, ?_⟩,λσ2 E2 hl hv hr=>?_⟩
  ·by_cases e:k∈v.ownBlock.toList;·exact .inl (if_pos e)
   ·exact .inr (if_neg e)
  ·have hv':E2.rv (aN d j)=v:=hv (aN d j,⟨e,t,xs,true,false⟩) (by simp[aE]);have hr':=hr (aN d j,⟨e,t,xs,true,false⟩) (by simp[aE]);obtain⟨A,c,hvs,_,_⟩:=fU ho;refine⟨⟨⟨hv'.symm,by rw[hr'];rfl,A,_,c,hvs⟩,trivial⟩,λp hp=>?_⟩;simp only[aE,List.mem_singleton]at hp;subst hp;simp only;rw[hv'];refine⟨css,ho,λk hk=>?_,⟨Ls,hall,hn2,λk hk=>?_⟩,λh=>by cases h⟩
   ·have hm:k∈v.ownBlock.toList:=by rw[hk];simp
    exact(hl k (List.mem_append_left _ hm)).trans (if_pos hm)
   ·have hm:k∉v.ownBlock.toList:=λhm=>hn3 k hm k hk rfl;exact(hl k (List.mem_append_right _ hk)).trans (if_neg hm)
 |.pair t1 t2,x,L,cs,j,h,hn=>by
  obtain⟨c1,c2,L1,L2,rfl,rfl,h1,h2⟩:=h;obtain⟨hn1,hn2,hn3⟩:=List.nodup_append.1 hn;obtain⟨f1,v1,a1,b1⟩:=ke d (j:=j) h1 hn1;obtain⟨f2,v2,a2,b2⟩:=ke d (j:=(aE d t1 x.1 j).2.2) h2 hn2;have m1:=(fC d (t:=t1) (y:=x.1) (j:=j)).1;have m2:=(fC d (t:=t2) (y:=x.2) (j:=(aE d t1 x.1 j).2.2)).1;have hname:∀i,i<(aE d t1 x.1 j).2.2->∃i',i'<(aE d t1 x.1 j).2.2/\aN d i=aN d i':=λi hi=>⟨i,hi,rfl⟩;refine⟨λk=>if k∈L1 then f1 k else f2 k,λr=>if ∃i',i'<(aE d t1 x.1 j).2.2/\r=aN d i' then v1 r else v2 r,λk hk=>?_,λσ2 E2 hl hv hr=>?_⟩
  ·rcases List.mem_append.1 hk with hk|hk;·obtain⟨i,k1,k2,k3⟩:=a1 k hk;exact⟨i,k1,Nat.lt_of_lt_of_le k2 m2,by simpa[hk]using k3⟩
   ·have hne:k∉L1:=λh'=>hn3 k h' k hk rfl;obtain⟨i,k1,k2,k3⟩:=a2 k hk;exact⟨i,Nat.le_trans m1 k1,k2,by simpa[hne]using k3⟩
  ·obtain⟨g1,g2⟩:=b1 σ2 E2 (λk hk=>(hl k (List.mem_append_left _ hk)).trans (if_pos hk)) (λp hp=>by obtain⟨i,i1,i2,i3⟩:=(fC d).2 p hp;refine(hv p (by simp only[aE,List.mem_append];exact .inl hp)).trans (if_pos ?_);rw[i3];exact hname i i2) (λp hp=>hr p (by simp only[aE,List.mem_append];exact .inl hp));obtain⟨g3,g4⟩:=b2 σ2 E2 (λk hk=>(hl k (List.mem_append_right _ hk)).trans (if_neg (λh'=>hn3 k h' k hk rfl))) (λp hp=>by
    obtain⟨i,i1,i2,i3⟩:=(fC d).2 p hp;refine(hv p (by simp only[aE,List.mem_append];exact .inr hp)).trans (if_neg ?_);rintro ⟨i',h1,h2⟩
    have:=kc (i3.symm.trans h2);omega) (λp hp=>hr p (by simp only[aE,List.mem_append];exact .inr hp))
   refine⟨g1.app g3,λp hp=>?_⟩;simp only[aE,List.mem_append]at hp;rcases hp with hp|hp;·exact g2 p hp
   ·exact g4 p hp
def d6(io:Bool)(d:Nat)(t:Ty)(y:t.den)(j:Nat):List ae×List (Nat×ac)×Nat:=match t,y with
 |.sl e t,xs=>([.own (aN d j)],[(aN d j,⟨e,t,xs,true,io⟩)],j+1)
 |t,y=>aE d t y j
def th(io:Bool)(d:Nat)(t:Ty)(y:t.den)(j:Nat):(∃e s,∃h:t=.sl e s,d6 io d t y j=([.own (aN d j)],[(aN d j,⟨e,s,(h▸y:(Ty.sl e s).den),true,io⟩)],j+1))\/((∀e s,t≠.sl e s)/\d6 io d t y j=aE d t y j):=by
 cases t with
 |sl e s=>exact .inl ⟨e,s,rfl,rfl⟩
 |int k=>exact .inr ⟨(λe s h=>by cases h),rfl⟩
 |bool=>exact .inr ⟨(λe s h=>by cases h),rfl⟩
 |str=>exact .inr ⟨(λe s h=>by cases h),rfl⟩
 |err=>exact .inr ⟨(λe s h=>by cases h),rfl⟩
 |fnc g=>exact .inr ⟨(λe s h=>by cases h),rfl⟩
 |pair a b=>exact .inr ⟨(λe s h=>by cases h),rfl⟩
def tj(io:Bool)(d:Nat){t:Ty}{y:t.den}{j:Nat}:j<=(d6 io d t y j).2.2/\∀p∈(d6 io d t y j).2.1,∃i,j<=i/\i<(d6 io d t y j).2.2/\p.1=aN d i:=by
 rcases th io d t y j with⟨e,s,rfl,h⟩|⟨_,h⟩;·rw[h];exact⟨Nat.le_succ _,λp hp=>⟨j,Nat.le_refl _,Nat.lt_succ_self _,by have:=List.mem_singleton.1 hp;rw[this]⟩⟩
 ·rw[h];exact fC d
def FN(io:Bool)(d:Nat){t:Ty}{y:t.den}{L:List Nat}{cs:List Value}{j:Nat}(h:az w t L cs y)(hn:L.Nodup)(hz:tf io t cs y) :
  ∃(f:Nat->aw) (rvf:Nat->Value),(∀k∈L,∃i,j<=i/\i<(d6 io d t y j).2.2/\(f k=.row (aN d i)\/f k=.inn (aN d i))) /\
   ∀(σ2:St) (E2:aH),(∀k∈L,E2.lab k=f k)->(∀p∈(d6 io d t y j).2.1,E2.rv p.1=rvf p.1) ->
   (∀p∈(d6 io d t y j).2.1,σ2.row p.1=some p.2)->ai (aj σ2 E2 w) (d6 io d t y j).1 cs/\∀p∈(d6 io d t y j).2.1,bJ w E2.lab p.1 p.2 (E2.rv p.1):=by
 obtain⟨f,rvf,a1,b1⟩:=ke d (j:=j) h hn;rcases th io d t y j with⟨e,s,rfl,hi⟩|⟨_,hi⟩
 ·rw[hi];refine⟨f,rvf,a1,λσ2 E2 hl hv hr=>?_⟩;have hr0:=hr _ (List.mem_singleton.2 rfl);obtain⟨g1,g2⟩:=b1 ⟨σ2.slot,σ2.box,am σ2.row (aN d j) (some ⟨e,s,y,true,false⟩)⟩ E2 hl (λp hp=>by
   have:=List.mem_singleton.1 hp;subst this;have h2:=hv (aN d j,⟨e,s,y,true,io⟩) (List.mem_singleton.2 rfl);exact h2) (λp hp=>by
   have:=List.mem_singleton.1 hp;subst this;exact aQ _ _ _)
  have g2:=g2 _ (List.mem_singleton.2 rfl);cases cs with
  |nil=>exact g1.elim
  |cons u us=>cases us with
   |cons _ _=>exact g1.2.elim
   |nil =>obtain⟨hu,_,hA⟩:=g1.1;refine⟨⟨⟨hu,by rw[hr0];rfl,hA⟩,trivial⟩,λp hp=>?_⟩;have:=List.mem_singleton.1 hp;subst this;obtain⟨css,k1,k2,k3,k4⟩:=g2;refine⟨css,k1,k2,k3,λhio hl0=>?_⟩;have:=hz hio hl0;injection this with this;rw[<-hu];exact this
 ·rw[hi];exact⟨f,rvf,a1,b1⟩
def tk(e:Nat)(t:Ty):List ae->List t.den->(Nat->Option ac)->Option (Nat->Option ac)
 |[.own r],ys,look=>match look r with
  |some row=>match cV t row.t ys with
   |some zs=>some (am look r (some ⟨row.e,row.t,zs,true,row.nilE⟩))
   |none=>none
  |none=>none
 |[.nil],_,look=>some look
 |_,_,_=>none
def mN:(t:Ty)->List ae->t.den->(Nat->Option ac)->Option (Nat->Option ac)
 |.int _,_,_,look=>some look
 |.bool,_,_,look=>some look
 |.fnc _,_,_,look=>some look
 |.str,_,_,look=>some look
 |.err,_,_,_=>none
 |.sl e t,cs,ys,look=>tk e t cs ys look
 |.pair a b,cs,x,look=>match mN a (cs.take a.nc) x.1 look with
  |some l=>mN b (cs.drop a.nc) x.2 l
  |none=>none
def tl(E:aH)(q:Nat)(row:ac):Prop:=(∃A c,E.rv q=.slice A row.xs.length c)/\(row.nilE=true->row.xs.length=0->E.rv q=.slice none 0 0)
def bJ.was{lab:Nat->aw}{q:Nat}{row:ac}(h:bJ w lab q row (E.rv q)):tl E q row:=by obtain⟨css,ho,_,_,hn⟩:=h;obtain⟨A,c,hv,_⟩:=fU ho;exact⟨⟨A,c,hv⟩,hn⟩
structure lr(look look':Nat->Option ac)(qs:List Nat)(L:List Nat)(E:aH)(w':World)(f:Nat->aw):Prop where
 lab:∀k∈L,∃q∈qs,f k=.row q\/f k=.inn q
 other:∀q,q∉qs->look' q=look q
 row:∀q∈qs,∃row row',look q=some row/\look' q=some row'/\row'.t=row.t/\row'.xs.length=row.xs.length/\∀lab2:Nat->aw,(∀k∈L,lab2 k=f k)->bJ w' lab2 q row' (E.rv q)
def xU{cs:List ae}(m:Nat):aA cs=aA (cs.take m)++aA (cs.drop m):=by rw[<-fy,List.take_append_drop]
def FO{t1 t2:Ty}{L:List Nat}{us:List Value}{y:(Ty.pair t1 t2).den}(h:az w' (.pair t1 t2) L us y):∃L1 L2,L=L1++L2/\az w' t1 L1 (us.take t1.nc) y.1/\az w' t2 L2 (us.drop t1.nc) y.2:=by
 obtain⟨c1,c2,L1,L2,rfl,rfl,h1,h2⟩:=h;have:=h1.len;refine⟨L1,L2,rfl, ?_, ?_⟩;·rw[List.take_left' this];exact h1
 ·rw[List.drop_left' this];exact h2
def FP{e:Nat}{t:Ty}{cs:List ae}{us:List Value}{ys:List t.den}{look look':Nat->Option ac}{L:List Nat}(hu:tk e t cs ys look=some look')(hc:ai (aj V E w) cs us)
  (ho:az w' (.sl e t) L us ys) (hL:L.Nodup) (hw:∀q∈aA cs,∀row,look q=some row->tl E q row/\row.e=e):∃f,lr look look' (aA cs) L E w' f:=by
 unfold tk at hu;split at hu
 ·rename_i r;obtain⟨u,rfl,hu1⟩:=bT hc;split at hu
  ·rename_i row hrow;split at hu
   ·rename_i zs hz;injection hu with hu;subst hu;obtain⟨v,css,Ls,hvs,hrow',rfl,hall⟩:=ho;injection hvs with hvs;subst hvs;obtain⟨rfl,_,_⟩:=hu1;obtain⟨⟨⟨A,c,hv⟩,hnil⟩,he⟩:=hw r (by simp[aA]) row hrow;obtain⟨A',c',hv',_⟩:=fU hrow';have hlen:ys.length=row.xs.length:=by rw[hv]at hv';injection hv' with _ h2 _;exact h2.symm
    obtain⟨hn1,hn2,hn3⟩:=List.nodup_append.1 hL;obtain⟨et,ez⟩:=fz hz;have hzl:zs.length=ys.length:=by subst ez;subst et;rfl
    refine⟨λk=>if k∈(E.rv r).ownBlock.toList then .row r else .inn r,⟨λk hk=>⟨r,by simp[aA], ?_⟩,λq hq=>?_,λq hq=>?_⟩⟩
    ·by_cases e:k∈(E.rv r).ownBlock.toList;·exact .inl (if_pos e)
     ·exact .inr (if_neg e)
    ·exact aX _ _ λe=>hq (by simp[aA,e])
    ·have hq':q=r:=by simpa[aA]using hq
     subst hq';refine⟨row,_,hrow,aQ _ _ _,rfl,by simpa[hzl]using hlen,λlab2 hl=>?_⟩;have hgoal:bJ w' lab2 q ⟨e,t,ys,true,row.nilE⟩ (E.rv q):=by
      refine⟨css,hrow',λk hk=>?_,⟨Ls,hall,hn2,λk hk=>?_⟩,λh1 h2=>hnil h1 (by rw[<-hlen];exact h2)⟩
      ·have hm:k∈(E.rv q).ownBlock.toList:=by rw[hk];simp
       exact(hl k (List.mem_append_left _ hm)).trans (if_pos hm)
      ·have hm:k∉(E.rv q).ownBlock.toList:=λhm=>hn3 k hm k hk rfl;exact(hl k (List.mem_append_right _ hk)).trans (if_neg hm)
     obtain⟨re,rt,rxs,rdeep,rnil⟩:=row;simp only at et he ez ⊢;subst et he ez;exact hgoal
   ·cases hu
  ·cases hu
 ·obtain⟨u,rfl,hu1⟩:=bT hc;injection hu with hu;subst hu;obtain⟨v,css,Ls,hvs,hrow',rfl,hall⟩:=ho;injection hvs with hvs;subst hvs;obtain rfl:u=_:=hu1;obtain⟨A',c',hv',_⟩:=fU hrow';have h0:ys.length=0:=by injection hv' with _ h2 _;exact h2.symm
  have hLs:Ls=[]:=by have:=hall.len1;rw[h0]at this;exact List.eq_nil_of_length_eq_zero this
  subst hLs;exact⟨λ_=>.st,(λk hk=>by simp[Value.ownBlock]at hk),λ_ _=>rfl,λq hq=>by simp[aA]at hq⟩
 ·cases hu
def FQ{look look':Nat->Option ac}{e:Nat}{t:Ty}{cs:List ae}(h:∀q∈aA cs,look' q=look q):gl look' e t cs=gl look e t cs:=by
 unfold gl;split;·rfl
 ·rename_i r;rw[h r (by simp[aA])]
 ·rfl
def tm{look look':Nat->Option ac}:∀{t:Ty}{cs:List ae},(∀q∈aA cs,look' q=look q)->cW look' t cs=cW look t cs
 |.int _,_,_=>rfl
 |.bool,_,_=>rfl
 |.fnc _,_,_=>rfl
 |.str,_,_=>rfl
 |.err,_,_=>rfl
 |.sl e t,cs,h=>FQ h
 |.pair a b,cs,h=>by rw[xU a.nc]at h;simp only[cW];rw[tm λq hq=>h q (List.mem_append_left _ hq),tm λq hq=>h q (List.mem_append_right _ hq)]
def tn:∀{t:Ty}{cs:List ae}{us:List Value}{y x:t.den}{look look':Nat->Option ac}{L:List Nat},mN t cs y look=some look'->cW look t cs=some x->ai (aj V E w) cs us->az w' t L us y->L.Nodup->(aA cs).Nodup ->
  (∀q∈aA cs,∀row,look q=some row->tl E q row)->∃f,lr look look' (aA cs) L E w' f
 |.int k,cs,us,y,x,look,look',L,hu,hp,hc,ho,_,_,_=>by injection hu with hu;subst hu;obtain rfl:=jU hp;obtain⟨_,rfl⟩:=ho;exact⟨λ_=>.st,(λk hk=>by cases hk),λ_ _=>rfl,λq hq=>by simp[aA]at hq⟩
 |.bool,cs,us,y,x,look,look',L,hu,hp,hc,ho,_,_,_=>by injection hu with hu;subst hu;obtain rfl:=lb hp;obtain⟨_,rfl⟩:=ho;exact⟨λ_=>.st,(λk hk=>by cases hk),λ_ _=>rfl,λq hq=>by simp[aA]at hq⟩
 |.fnc _,cs,us,y,x,look,look',L,hu,hp,hc,ho,_,_,_=>by injection hu with hu;subst hu;obtain rfl:=mE hp;obtain⟨_,rfl⟩:=ho;exact⟨λ_=>.st,(λk hk=>by cases hk),λ_ _=>rfl,λq hq=>by simp[aA]at hq⟩
 |.err,cs,us,y,x,look,look',L,hu,hp,hc,ho,_,_,_=>by cases hu
 |.str,cs,us,y,x,look,look',L,hu,hp,hc,ho,_,_,_=>by injection hu with hu;subst hu;obtain rfl:=jV hp;obtain⟨_,rfl⟩:=ho;exact⟨λ_=>.st,(λk hk=>by cases hk),λ_ _=>rfl,λq hq=>by simp[aA]at hq⟩
 |.sl e t,cs,us,y,x,look,look',L,hu,hp,hc,ho,hL,_,hw=>FP hu hc ho hL λq hq row hrow=>⟨hw q hq row hrow,by
   rcases sF (V:={ slot:=λ_=>.c .undef,box:=λ_=>none,row:=look }) (show gl look e t cs=some x from hp)with⟨rfl,_⟩|⟨r,row',rfl,h1,h2,_⟩;·simp[aA]at hq
   ·have:q=r:=by simpa[aA]using hq
    subst this;have h3:look q=some row':=h1;rw[hrow]at h3;injection h3 with h3;subst h3;exact h2⟩
 |.pair t1 t2,cs,us,y,x,look,look',L,hu,hp,hc,ho,hL,hn,hw=>by
  simp only[mN]at hu;split at hu
  ·rename_i l1 hl1;obtain⟨p1,p2⟩:=dx hp;obtain⟨L1,L2,rfl,o1,o2⟩:=FO ho;obtain⟨hn1,hn2,hn3⟩:=List.nodup_append.1 hL;rw[xU t1.nc]at hn hw ⊢;obtain⟨qn1,qn2,qn3⟩:=List.nodup_append.1 hn;obtain⟨f1,W1⟩:=tn hl1 p1 (hc.take _) o1 hn1 qn1 λq hq=>hw q (List.mem_append_left _ hq);have hsame:∀q∈aA (cs.drop t1.nc),l1 q=look q:=λq hq=>W1.other q λh'=>qn3 q h' q hq rfl;have p2':cW l1 t2 (cs.drop t1.nc)=some x.2:=by rw[<-p2];exact tm hsame
   obtain⟨f2,W2⟩:=tn hu p2' (hc.drop _) o2 hn2 qn2 λq hq row hr=>hw q (List.mem_append_right _ hq) row (by rw[<-hsame q hq];exact hr);refine⟨λk=>if k∈L1 then f1 k else f2 k,λk hk=>?_,λq hq=>?_,λq hq=>?_⟩
   ·rcases List.mem_append.1 hk with hk|hk;·obtain⟨q,k1,k2⟩:=W1.lab k hk;exact⟨q,List.mem_append_left _ k1,by simpa[hk]using k2⟩
    ·have hne:k∉L1:=λh'=>hn3 k h' k hk rfl;obtain⟨q,k1,k2⟩:=W2.lab k hk;exact⟨q,List.mem_append_right _ k1,by simpa[hne]using k2⟩
   ·rw[W2.other q λh'=>hq (List.mem_append_right _ h'),W1.other q λh'=>hq (List.mem_append_left _ h')]
   ·rcases List.mem_append.1 hq with hq|hq;·obtain⟨row,row',k1,k2,k3,k4,k5⟩:=W1.row q hq;refine⟨row,row',k1, ?_,k3,k4,λlab2 hl=>k5 lab2 λk hk=>(hl k (List.mem_append_left _ hk)).trans (if_pos hk)⟩;rw[W2.other q λh'=>qn3 q hq q h' rfl];exact k2
    ·obtain⟨row,row',k1,k2,k3,k4,k5⟩:=W2.row q hq;exact⟨row,row',by rw[<-hsame q hq];exact k1,k2,k3,k4,λlab2 hl=>k5 lab2 λk hk=>(hl k (List.mem_append_right _ hk)).trans (if_neg (λh'=>hn3 k h' k hk rfl))⟩
  ·cases hu
end
def fc:Bool->SV->Option (List ae)
 |true,.agg l=>some l
 |false,.c x=>some [x]
 |_,_=>none
def fD(bad:List Nat)(look:Nat->Option ac):(ps:List PT)->List SV->Option (an ps)
 |[],[]=>some ()
 |p::ps,s::ss=>match fc p.agg s with
  |some cs=>dw (cond p.io (cW look p.t cs) (mM bad look p.t cs)) (fD bad look ps ss)
  |none=>none
 |[],_::_=>none
 |_::_,[]=>none
def ej:List PT->List SV->List ae
 |p::ps,s::ss=>cond p.io (match fc p.agg s with|some cs=>cs|none=>[]) (ej ps ss)
 |_,_=>[]
def kf:List (Nat×ac)->(Nat->Option ac)->Option (Nat->Option ac)
 |[],look=>some look
 | (r,row)::l,look=>match look r with
  |none=>kf l (am look r (some row))
  |some _=>none
def ce(d:Nat):(rs:List PT)->an rs->Nat->List (Bool×List ae)×List (Nat×ac)×Nat
 |[],_,j=>([],[],j)
 |r::rs,Y,j=>match d6 r.io d r.t Y.1 j with
  | (c1,r1,j1)=>match ce d rs Y.2 j1 with
   | (cs,r2,j2)=>((r.agg,c1)::cs,r1++r2,j2)
def lu:List (Bool×List ae)->SV
 |[(true,l)]=>.agg l
 |[(false,[c])]=>.c c
 |[(false,l)]=>.agg l
 |l=>.tup l
def eD(qs:List Nat):ae->ae
 |.sn e t xs (some q)=>cond (bk q qs) .undef (.sn e t xs (some q))
 |.full e t xs (some q)=>cond (bk q qs) .undef (.full e t xs (some q))
 |.selt t x (some q) f=>cond (bk q qs) .undef (.selt t x (some q) f)
 |c=>c
def xV(p:PT)(s:SV){A:Type}(next:A->(Nat->Option ac)->Option (Nat->Option ac)):cond p.io p.t.den A->(Nat->Option ac)->Option (Nat->Option ac) :=
 match p with
 |⟨t,agg,true⟩=>λy look=>match fc agg s with
  |some cs=>mN t cs y look
  |none=>none
 |⟨t,agg,false⟩=>λy look=>next y look
def lv:(ps:List PT)->List SV->cA ps->(Nat->Option ac)->Option (Nat->Option ac)
 |[],_,_,look=>some look
 |p::ps,s::ss,y,look=>xV p s (lv ps ss) y look
 |_::_,[],_,look=>none
def St.withRow(V:St)(look:Nat->Option ac):St:=⟨V.slot,V.box,look⟩
def gu(qs:List Nat)(V:St):St:=match qs with
 |[]=>V
 |q::qs=>V.mapc (eD (q::qs))
def tp(en:aW)(V:St)(ss:List SV):Option (an en.sig.ps) :=
 cond (de en.sig.ps&&cY (aA (ej en.sig.ps ss))) (fD (aA (ej en.sig.ps ss)) V.row en.sig.ps ss) none
def ph(en:aW)(V:St)(dst:Option Nat)(qs:List Nat)(look:Nat->Option ac)(Y:an en.sig.rs):Option St :=
 match dst with
 |some d=>match ce d en.sig.rs Y 0 with
  | (cs,rows,_)=>match kf rows look with
   |some look=>some (((gu qs V).withRow look).put d (lu cs))
   |none=>none
 |none=>some ((gu qs V).withRow look)
def tq(en:aW)(V:St)(dst:Option Nat)(ss:List SV)(r:cA en.sig.ps×an en.sig.rs):Option St :=
 match lv en.sig.ps ss r.1 V.row with
 |some look=>ph en V dst (aA (ej en.sig.ps ss)) look r.2
 |none=>none
section
variable {P : Program} {V V' : St} {E E' : aH} {w w' : World} {w0 : World} {lab0 : Nat → aw} {oo : Nat → Value} {n : Nat} {a : Act} [DC]
def kg{agg:Bool}{s:SV}{cs:List ae}{v:Value}(h:fc agg s=some cs)(hs:aF V E w s v):∃us,eT agg v us/\ai (aj V E w) cs us:=by
 unfold fc at h;split at h;·injection h with h;subst h;obtain⟨arr,e,h⟩:=hs;exact⟨arr.toList,⟨arr,e,rfl⟩,h⟩
 ·injection h with h;subst h;exact⟨[v],rfl,hs,trivial⟩
 ·cases h
def eT.uniq{agg:Bool}{v:Value}{us us':List Value}(h:eT agg v us)(h':eT agg v us'):us=us':=by
 cases agg;·exact(show us=[v]from h).trans (show us'=[v]from h').symm
 ·obtain⟨arr,e,rfl⟩:=h;obtain⟨arr',e',rfl⟩:=h';rw[e]at e';injection e' with e';rw[e']
def xW(h:R w0 lab0 oo n V E a w){bad:List Nat}{L:List Nat}(hL:∀k,fb E.lab bad k->k∉L):∀{ps:List PT}{ss:List SV}{vs:List Value}{X:an ps},bQ ps=true->fD bad V.row ps ss=some X->ai (aF V E w) ss vs->dG w L ps vs X
 |[],[],[],_,_,_,_=>trivial
 |p::ps,s::ss,v::vs,X,hn,hp,hs=>by
  simp only[fD]at hp;split at hp;·rename_i cs hcs;obtain⟨h1,h2⟩:=dx hp;simp only[bQ,List.all_cons,Bool.and_eq_true,Bool.not_eq_true']at hn;rw[hn.1]at h1;obtain⟨us,k1,k2⟩:=kg hcs hs.1;refine⟨⟨us,k1, ?_⟩,xW h hL hn.2 h2 hs.2⟩;rw[hn.1];exact(kb h h1 k2).mono λk hk=>hL k hk.1
  ·cases hp
 |[],[],_::_,_,_,_,hs=>hs.elim
 |[],_::_,_,_,_,hp,_=>by cases hp
 |_::_,[],_,_,_,hp,_=>by cases hp
 |_::_,_::_,[],_,_,_,hs=>hs.elim
structure pi(B:Nat)(L0:List Nat)(look look':Nat->Option ac)(qs:List Nat)(L:List Nat)(E:aH)(w':World)(f:Nat->aw):Prop where
 other:∀q,q∉qs->look' q=look q
 row:∀q∈qs,∃row row',look q=some row/\look' q=some row'/\row'.t=row.t/\row'.xs.length=row.xs.length/\∀lab2:Nat->aw,(∀k∈L,lab2 k=f k)->(∀k,k<B->k∉L0->k∉L->lab2 k=E.lab k)->bJ w' lab2 q row' (E.rv q)
def lr.two{B:Nat}{L0:List Nat}{look look':Nat->Option ac}{qs L:List Nat}{f:Nat->aw}(h:lr look look' qs L E w' f):pi B L0 look look' qs L E w' f :=
 ⟨h.other,λq hq=>by obtain⟨row,row',h1,h2,h3,h4,h5⟩:=h.row q hq;exact⟨row,row',h1,h2,h3,h4,λlab2 hl _=>h5 lab2 hl⟩⟩
structure xX(V:St)(E:aH)(w:World)(qs:List Nat)(L:List Nat):Prop where
 nodup:L.Nodup
 lt:∀k∈L,k<w.heap.size
 lab:∀k∈L,∃q∈qs,cZ E.lab q k
def xY(h:R w0 lab0 oo n V E a w):∀{ps:List PT}{ss:List SV}{vs:List Value}{X:an ps},de ps=true->cY (aA (ej ps ss))=true->fD (aA (ej ps ss)) V.row ps ss=some X->ai (aF V E w) ss vs ->
  ∃L,xX V E w (aA (ej ps ss)) L/\dG w L ps vs X/\(bQ ps=true->L=[]) /\
   (∀{y:cA ps}{look':Nat->Option ac}{w':World}{L':List Nat},lv ps ss y V.row=some look'->iR w' L' ps vs y->L'.Nodup->∃f,lr V.row look' (aA (ej ps ss)) L' E w' f):=by
 intro ps ss vs X h1 hn hp hs;have key:∀(bad:List Nat) {ps:List PT}{ss:List SV}{vs:List Value}{X:an ps},de ps=true->bad=aA (ej ps ss)->bad.Nodup->fD bad V.row ps ss=some X->ai (aF V E w) ss vs ->
   ∃L,xX V E w bad L/\(∀L2:List Nat,(∀k,fb E.lab bad k->k∉L2)->(bQ ps=false->L2=L)->dG w L2 ps vs X)/\(bQ ps=true->L=[]) /\
   (∀{y:cA ps}{look':Nat->Option ac}{w':World}{L':List Nat},lv ps ss y V.row=some look'->iR w' L' ps vs y->L'.Nodup->∃f,lr V.row look' bad L' E w' f):=by
  intro bad ps;induction ps with
  |nil =>
   intro ss vs X _ hb _ hp hs;cases ss with
   |nil=>cases vs with
    |nil =>subst hb;refine⟨[],⟨List.nodup_nil,(λk hk=>by cases hk),λk hk=>by cases hk⟩,λ_ _ _=>trivial,λ_=>rfl,λ{y look' w' L'} hu hi _=>?_⟩;injection hu with hu;subst hu;obtain rfl:L'=[]:=hi;exact⟨λ_=>.st,(λk hk=>by cases hk),λ_ _=>rfl,λq hq=>by simp[ej,aA]at hq⟩
    |cons _ _=>exact hs.elim
   |cons _ _=>cases hp
  |cons p ps ih =>
   intro ss vs X h1 hb hbn hp hs;cases ss with
   |nil=>cases hp
   |cons s ss=>cases vs with
    |nil=>exact hs.elim
    |cons v vs =>
     simp only[fD]at hp;split at hp
     ·rename_i cs hcs;obtain⟨g1,g2⟩:=dx hp;obtain⟨us,k1,k2⟩:=kg hcs hs.1;obtain⟨t,agg,io⟩:=p;cases io;·simp only[de,cond_false]at h1;simp only[ej,cond_false]at hb;simp only[cond_false]at g1;obtain⟨L,i1,i2,i3,i4⟩:=ih h1 hb hbn g2 hs.2;refine⟨L,i1,λL2 hL2 hL2'=>⟨⟨us,k1,(kb h g1 k2).mono λk hk=>hL2 k hk.1⟩,i2 L2 hL2 (λhf=>hL2' (by simpa[bQ]using hf))⟩,λhf=>i3 (by simpa[bQ]using hf),λ{y look' w' L'} hu hi hL'=>?_⟩;exact i4 hu hi hL'
      ·simp only[de,cond_true]at h1;simp only[ej,cond_true]at hb;simp only[]at hcs;rw[hcs]at hb;simp only at hb;subst hb;simp only[cond_true]at g1;obtain⟨L,o1,o2,o3⟩:=fA h g1 k2 hbn;refine⟨L,⟨o2,o1.lt,o3⟩,λL2 hL2 hL2'=>⟨⟨us,k1, ?_⟩,xW h hL2 h1 g2 hs.2⟩,λhf=>by simp[bQ]at hf,λ{y look' w' L'} hu hi hL'=>?_⟩;·rw[hL2' (by simp[bQ])];exact o1
       ·obtain⟨us',j1,j2⟩:=(hi:∃cs,eT agg v cs/\az w' t L' cs y);have:=eT.uniq k1 j1;subst this;simp only[lv,xV,hcs]at hu;refine tn hu g1 k2 j2 hL' hbn λq hq row hrow=>(h.rows q row hrow).was
     ·cases hp
 obtain⟨L,i1,i2,i3,i4⟩:=key _ h1 rfl (gq hn) hp hs;refine⟨L,i1,i2 L (λk hk hkL=>?_) (λ_=>rfl),i3,i4⟩;obtain⟨q,hq,ho⟩:=i1.lab k hkL;exact hk q hq ho
def pk:∀{l:List (Nat×ac)}{look look':Nat->Option ac},kf l look=some look'->(∀p∈l,look p.1=none/\look' p.1=some p.2)/\(∀r,(∀p∈l,p.1≠r)->look' r=look r)
 |[],look,look',h=>by injection h with h;subst h;exact⟨(λp hp=>by cases hp),λ_ _=>rfl⟩
 | (r,row)::l,look,look',h=>by
  simp only[kf]at h;split at h
  ·rename_i hr;obtain⟨g1,g2⟩:=pk h;refine⟨λp hp=>?_,λq hq=>?_⟩
   ·rcases List.mem_cons.1 hp with rfl|hp
    ·refine⟨hr, ?_⟩;by_cases hex:∃p∈l,p.1=r;·obtain⟨p',hp',e'⟩:=hex;have:=(g1 p' hp').1;rw[e',aQ]at this;cases this
     ·rw[g2 r λp hp e=>hex ⟨p,hp,e⟩,aQ]
    ·obtain⟨k1,k2⟩:=g1 p hp;refine⟨?_,k2⟩;by_cases e:p.1=r;·rw[e,aQ]at k1;cases k1
     ·rwa [aX _ _ e]at k1
   ·rw[g2 q λp hp=>hq p (List.mem_cons_of_mem _ hp),aX];exact λe=>hq (r,row) List.mem_cons_self e.symm
  ·cases h
def pm(σ2:St)(E2:aH)(w:World):List (Bool×List ae)->List Value->Prop :=
 ai λp u=>∃us,eT p.1 u us/\ai (aj σ2 E2 w) p.2 us
def po(d:Nat):∀{rs:List PT}{Y:an rs}{j:Nat},j<=(ce d rs Y j).2.2/\∀p∈(ce d rs Y j).2.1,∃i,j<=i/\i<(ce d rs Y j).2.2/\p.1=aN d i
 |[],_,j=>⟨Nat.le_refl _,λp hp=>by simp[ce]at hp⟩
 |r::rs,Y,j=>by
  have h1:=tj r.io d (t:=r.t) (y:=Y.1) (j:=j);have h2:=po d (rs:=rs) (Y:=Y.2) (j:=(d6 r.io d r.t Y.1 j).2.2);refine⟨Nat.le_trans h1.1 h2.1,λp hp=>?_⟩;simp only[ce,List.mem_append]at hp;rcases hp with hp|hp;·obtain⟨i,k1,k2,k3⟩:=h1.2 p hp;exact⟨i,k1,Nat.lt_of_lt_of_le k2 h2.1,k3⟩
  ·obtain⟨i,k1,k2,k3⟩:=h2.2 p hp;exact⟨i,Nat.le_trans h1.1 k1,k2,k3⟩
def pp(d:Nat):∀{rs:List PT}{vs:List Value}{Y:an rs}{L:List Nat}{j:Nat},j8 w rs vs Y L->L.Nodup ->
  ∃(f:Nat->aw) (rvf:Nat->Value),(∀k∈L,∃i,j<=i/\i<(ce d rs Y j).2.2/\(f k=.row (aN d i)\/f k=.inn (aN d i))) /\
   ∀(σ2:St) (E2:aH),(∀k∈L,E2.lab k=f k)->(∀p∈(ce d rs Y j).2.1,E2.rv p.1=rvf p.1) ->
   (∀p∈(ce d rs Y j).2.1,σ2.row p.1=some p.2)->pm σ2 E2 w (ce d rs Y j).1 vs/\∀p∈(ce d rs Y j).2.1,bJ w E2.lab p.1 p.2 (E2.rv p.1)
 |[],[],_,L,j,h,_=>by obtain rfl:L=[]:=h;exact⟨λ_=>.st,λ_=>undef,(λ_ h=>by cases h),λ_ _ _ _ _=>⟨trivial,λp hp=>by simp[ce]at hp⟩⟩
 |[],_::_,_,L,j,h,_=>h.elim
 |_::_,[],_,L,j,h,_=>h.elim
 |r::rs,v::vs,Y,L,j,h,hn=>by
  obtain⟨cs,L1,L2,rfl,hcv,h1,hz,h2⟩:=h;obtain⟨hn1,hn2,hn3⟩:=List.nodup_append.1 hn;obtain⟨f1,v1,a1,b1⟩:=FN r.io d (j:=j) h1 hn1 hz;obtain⟨f2,v2,a2,b2⟩:=pp d (j:=(d6 r.io d r.t Y.1 j).2.2) h2 hn2;have m1:=(tj r.io d (t:=r.t) (y:=Y.1) (j:=j)).1;have m2:=(po d (rs:=rs) (Y:=Y.2) (j:=(d6 r.io d r.t Y.1 j).2.2)).1;have hname:∀i,i<(d6 r.io d r.t Y.1 j).2.2->∃i',i'<(d6 r.io d r.t Y.1 j).2.2/\aN d i=aN d i':=λi hi=>⟨i,hi,rfl⟩;refine⟨λk=>if k∈L1 then f1 k else f2 k,λq=>if ∃i',i'<(d6 r.io d r.t Y.1 j).2.2/\q=aN d i' then v1 q else v2 q,λk hk=>?_,λσ2 E2 hl hv hr=>?_⟩
  ·rcases List.mem_append.1 hk with hk|hk;·obtain⟨i,k1,k2,k3⟩:=a1 k hk;exact⟨i,k1,Nat.lt_of_lt_of_le k2 m2,by simpa[hk]using k3⟩
   ·have hne:k∉L1:=λh'=>hn3 k h' k hk rfl;obtain⟨i,k1,k2,k3⟩:=a2 k hk;exact⟨i,Nat.le_trans m1 k1,k2,by simpa[hne]using k3⟩
  ·obtain⟨g1,g2⟩:=b1 σ2 E2 (λk hk=>(hl k (List.mem_append_left _ hk)).trans (if_pos hk)) (λp hp=>by obtain⟨i,i1,i2,i3⟩:=(tj r.io d).2 p hp;refine(hv p (by simp only[ce,List.mem_append];exact .inl hp)).trans (if_pos ?_);rw[i3];exact hname i i2) (λp hp=>hr p (by simp only[ce,List.mem_append];exact .inl hp));obtain⟨g3,g4⟩:=b2 σ2 E2 (λk hk=>(hl k (List.mem_append_right _ hk)).trans (if_neg (λh'=>hn3 k h' k hk rfl))) (λp hp=>by
    obtain⟨i,i1,i2,i3⟩:=(po d).2 p hp;refine(hv p (by simp only[ce,List.mem_append];exact .inr hp)).trans (if_neg ?_);rintro ⟨i',h1,h2⟩
    have:=kc (i3.symm.trans h2);omega) (λp hp=>hr p (by simp only[ce,List.mem_append];exact .inr hp))
   refine⟨⟨⟨cs,hcv,g1⟩,g3⟩,λp hp=>?_⟩;simp only[ce,List.mem_append]at hp;rcases hp with hp|hp;·exact g2 p hp
   ·exact g4 p hp
def xZ{σ2:St}{E2:aH}{cs:List (Bool×List ae)}{vs:List Value}{v:Value}(h:pm σ2 E2 w cs vs)(hr:j9 vs v)(hb:∀l,cs≠[(false,l)]\/∃c,l=[c]):aF σ2 E2 w (lu cs) v:=by
 have tup:v=.tuple vs.toArray->aF σ2 E2 w (.tup cs) v:=λe=>⟨vs.toArray,e,by
  refine ai.imp (λp u hp=>?_) (show ai (λ(p:Bool×List ae) u=>∃us,eT p.1 u us/\ai (aj σ2 E2 w) p.2 us) cs vs from h);obtain⟨us,k1,k2⟩:=hp;obtain⟨b,l⟩:=p;cases b;·obtain rfl:us=[u]:=k1;exact k2
  ·obtain⟨arr,e,rfl⟩:=k1;exact⟨arr,e,k2⟩⟩
 unfold lu;split
 ·rename_i l;cases vs with
  |nil=>exact h.elim
  |cons u vs=>cases vs with
   |nil =>obtain rfl:v=u:=hr;obtain⟨us,⟨arr,e,rfl⟩,k2⟩:=h.1;exact⟨arr,e,k2⟩
   |cons _ _=>exact h.2.elim
 ·rename_i c;cases vs with
  |nil=>exact h.elim
  |cons u vs=>cases vs with
   |nil =>obtain rfl:v=u:=hr;obtain⟨us,k1,k2⟩:=h.1;obtain rfl:us=[v]:=k1;exact k2.1
   |cons _ _=>exact h.2.elim
 ·rename_i l hl;rcases hb l with h'|⟨c,rfl⟩;·exact absurd rfl h'
  ·exact absurd rfl (hl c)
 ·rename_i h1 h2 h3;refine tup ?_;unfold j9 at hr;split at hr
  ·rename_i u;cases cs with
   |nil=>exact h.elim
   |cons p cs=>cases cs with
    |nil =>
     obtain⟨b,l⟩:=p;cases b;·exact absurd rfl (h3 l)
     ·exact absurd rfl (h1 l)
    |cons _ _=>exact h.2.elim
  ·exact hr
end
end Go.Fw
namespace Go.Fw
open Go.RowKit
section
variable {P : Program} {V V' : St} {E E' : aH} {w w' : World} {w0 : World} {lab0 : Nat → aw} {oo : Nat → Value} {n : Nat} {a : Act} {qs : List Nat} [DC]
def pq{lab:Nat->aw}{p:Option Nat}{k:Nat}(hp:∀q,p=some q->q∉qs)(h:lab k=bh p):fb lab qs k:=by
 cases p with
 |none=>exact ll h
 |some q=>exact pg (hp q rfl) (.inr h)
def aj.called(hk:∀k,k<w.heap.size->fb E.lab qs k->w'.heap[k]? = w.heap[k]?/\E'.lab k=E.lab k)
  (hrow:∀r row,V.row r=some row->∃row',V'.row r=some row'/\E'.rv r=E.rv r/\row'.t.nc=row.t.nc/\row.xs.length<=row'.xs.length)
  (hbox:∀b te cs,V.box b=some (te,cs)->∃cs',V'.box b=some (te,cs')/\cs'.length=cs.length) (hbb:E'.bb=E.bb) :
  ∀{c:ae}{v:Value},aj V E w c v->aj V' E' w' (eD qs c) v:=by
 have rd:∀{p:Option Nat}{t:Ty}{cs:List Value}{x:t.den},(∀q,p=some q->q∉qs)->Rd w (λk=>E.lab k=bh p) t cs x->Rd w' (λk=>E'.lab k=bh p) t cs x:=by intro p t cs x hp h;refine(h.lt.frame λk hk' _=>(hk k hk'.2 (pq hp hk'.1)).1).mono λk hk'=>?_;rw[(hk k hk'.2 (pq hp hk'.1)).2];exact hk'.1
 have selt:∀{t:Ty}{x:t.den}{p:Option Nat}{f:Nat}{v:Value},(∀q,p=some q->q∉qs)->aj V E w (.selt t x p f) v->aj V' E' w' (.selt t x p f) v:=by
  intro t x p f v hp h;obtain⟨ad,cs,h1,h2,h3,h4,h5⟩:=h;have hb:∀j,(ad.add j).block=ad.block:=λj=>by unfold Addr.add;split<;>rfl
  have h0:0<cs.length:=by rw[h4.len];exact t.nc_pos
  have hlt:ad.block<w.heap.size:=by have:=World.block_lt_of_cell? w (ad.add 0) (h5 0 cs[0] (by simp));rwa [hb]at this
  have hkk:=hk ad.block hlt (pq hp h3);refine⟨ad,cs,h1,h2,by rw[hkk.2];exact h3,rd hp h4,λj u hu=>?_⟩;rw[World.cell?_of_block (w:=w) (by rw[hb];exact hkk.1)];exact h5 j u hu
 intro c v h;cases c with
 |undef=>trivial
 |int _ _=>exact h
 |bool _=>exact h
 |str _=>exact h
 |err _=>exact h
 |bor v0 e t xs=>exact⟨h.1,rd (p:=none) (λq hq=>by cases hq) h.2⟩
 |nil=>exact h
 |sn e t xs p =>
  cases p with
  |none=>exact rd (p:=none) (λq hq=>by cases hq) h
  |some q =>
   simp only[eD];cases hm:bk q qs;·exact rd (p:=some q) (λr hr=>by injection hr with hr;subst hr;exact λhx=>by rw[fw.2 hx]at hm;cases hm) h
   ·trivial
 |full e t xs p =>
  cases p with
  |none=>exact⟨rd (p:=none) (λq hq=>by cases hq) h.1,h.2⟩
  |some q =>
   simp only[eD];cases hm:bk q qs;·exact⟨rd (p:=some q) (λr hr=>by injection hr with hr;subst hr;exact λhx=>by rw[fw.2 hx]at hm;cases hm) h.1,h.2⟩
   ·trivial
 |own r =>obtain⟨rfl,h1,h2⟩:=h;obtain⟨row,hr⟩:=Option.isSome_iff_exists.1 h1;obtain⟨row',k1,k2,_⟩:=hrow r row hr;exact⟨k2.symm,by rw[k1];rfl,h2⟩
 |part r lo n =>obtain⟨row,A,c,h1,h2,h3,h4,h5,h6,h7,h8⟩:=h;obtain⟨row',g1,g2,g3,g4⟩:=hrow r row h1;refine⟨row',A,c,g1,h2,h3,by omega,h5,h6,h7,λhn=>?_⟩;rw[g2,g3];exact h8 hn
 |box b f =>obtain⟨rfl,te,cs,h1,h2⟩:=h;obtain⟨cs',g1,g3⟩:=hbox b te cs h1;exact⟨by rw[hbb],te,cs',g1,by omega⟩
 |mp b =>obtain⟨rfl,te,cs,h1⟩:=h;obtain⟨cs',g1,_⟩:=hbox b te cs h1;exact⟨by rw[hbb],te,cs',g1⟩
 |mset t xs=>exact h
 |elt r i f =>obtain⟨row,g,n,c,h1,h2,h3,h4,h5,h6⟩:=h;obtain⟨row',g1,g2,g3,g4⟩:=hrow r row h1;exact⟨row',g,n,c,g1,by rw[g2];exact h2,h3,by omega,by rw[g3];exact h5,by rw[g3];exact h6⟩
 |selt t x p f =>
  cases p with
  |none=>exact selt (p:=none) (λq hq=>by cases hq) h
  |some q =>
   simp only[eD];cases hm:bk q qs;·exact selt (p:=some q) (λr hr=>by injection hr with hr;subst hr;exact λhx=>by rw[fw.2 hx]at hm;cases hm) h
   ·trivial
 |fn f caps =>
  obtain⟨rfl,h⟩:=h;refine⟨?_,λp hp=>?_⟩;·rw[hbb]
  ·obtain⟨te,cs,h1,h2⟩:=h p hp;obtain⟨cs',g1,g3⟩:=hbox _ _ _ h1;exact⟨te,cs',g1,by omega⟩
def tr:∀c:ae,eD [] c=c
 |.mp _=>rfl
 |.mset _ _=>rfl
 |.sn _ _ _ (some _)=>rfl
 |.full _ _ _ (some _)=>rfl
 |.selt _ _ (some _) _=>rfl
 |.sn _ _ _ none=>rfl
 |.full _ _ _ none=>rfl
 |.selt _ _ none _=>rfl
 |.undef=>rfl
 |.int _ _=>rfl
 |.bool _=>rfl
 |.str _=>rfl
 |.err _=>rfl
 |.bor _ _ _ _=>rfl
 |.nil=>rfl
 |.own _=>rfl
 |.part _ _ _=>rfl
 |.box _ _=>rfl
 |.elt _ _ _=>rfl
 |.fn _ _=>rfl
def pt{l:List ae}{f:ae->ae}(hf:∀c,f c=c):l.map f=l:=by
 induction l with
 |nil=>rfl
 |cons c l ih=>rw[List.map_cons,hf,ih]
def SV.map_id{f:ae->ae}(hf:∀c,f c=c):∀s:SV,s.map f=s
 |.c x=>by simp[SV.map,hf]
 |.agg l=>by simp[SV.map,pt hf]
 |.tup l=>by
  simp only[SV.map];congr 1;induction l with
  |nil=>rfl
  |cons p l ih=>rw[List.map_cons,pt hf,ih]
def FR(V:St)(t:Nat):(gu qs V).slot t=(V.slot t).map (eD qs):=by
 cases qs with
 |nil=>exact(SV.map_id tr _).symm
 |cons q qs=>rfl
def ya(V:St)(b:Nat):(gu qs V).box b=match V.box b with|some (te,cs)=>some (te,cs.map (eD qs))|none=>none:=by
 cases qs with
 |nil =>
  show V.box b=_;cases V.box b with
  |none=>rfl
  |some p=>simp[pt tr]
 |cons q qs=>rfl
def ai.mapl{α β γ:Type}{Q:α->β->Prop}{Q':γ->β->Prop}{f:α->γ}(hf:∀a b,Q a b->Q' (f a) b):∀{as:List α}{bs:List β},ai Q as bs->ai Q' (as.map f) bs
 |[],[],_=>trivial
 |_::_,_::_,h=>⟨hf _ _ h.1,ai.mapl hf h.2⟩
 |[],_::_,h=>h.elim
 |_::_,[],h=>h.elim
def aF.mapl{f:ae->ae}(hf:∀c v,aj V E w c v->aj V' E' w' (f c) v):∀{s:SV}{v:Value},aF V E w s v->aF V' E' w' (s.map f) v
 |.c _,_,h=>hf _ _ h
 |.agg l,_,h=>by obtain⟨arr,e,h⟩:=h;exact⟨arr,e,h.mapl hf⟩
 |.tup l,_,h=>by
  obtain⟨arr,e,h⟩:=h;refine⟨arr,e,h.mapl λp u h=>?_⟩;obtain⟨b,l⟩:=p;cases b;·exact ai.mapl hf (show ai (aj V E w) l [u]from h)
  ·obtain⟨ar,e,h⟩:∃ar:Array Value,u=.agg ar/\ai (aj V E w) l ar.toList:=h;exact(⟨ar,e,h.mapl hf⟩:∃ar:Array Value,u=.agg ar/\ai (aj V' E' w') (l.map f) ar.toList)
def bJ.called{lab lab':Nat->aw}{r:Nat}{row:ac}{v:Value}(hk:∀k,k<w.heap.size->fb lab qs k->w'.heap[k]? = w.heap[k]?/\lab' k=lab k)(hr:r∉qs)(h:bJ w lab r row v):bJ w' lab' r row v:=by
 obtain⟨css,h1,h2,h3,h4⟩:=h;have hlt:∀k,v.ownBlock=some k->k<w.heap.size:=λk hk=>(h1.lt k hk).2;have hb:∀k,v.ownBlock=some k->w'.heap[k]? = w.heap[k]?/\lab' k=lab k:=λk h=>hk k (hlt k h) (pg hr (.inl (h2 k h)));refine⟨css,jI (λk h=>(hb k h).1) h1,λk h=>by rw[(hb k h).2];exact h2 k h, ?_,h4⟩;cases hd:row.deep;·rw[hd]at h3;exact ai.imp (λc y h=>((h.lt.frame λk hk' _=>(hk k hk'.2 (ll hk'.1)).1)).mono λk hk'=>by rw[(hk k hk'.2 (ll hk'.1)).2];exact hk'.1) h3
 ·rw[hd]at h3;obtain⟨Ls,k1,k2,k3⟩:=h3;have hL:∀k∈Ls.flatten,k<w.heap.size:=λk hk=>by obtain⟨l,hl,hk⟩:=List.mem_flatten.1 hk;have:aL (λ(l:List Nat) (_:List Value) (_:row.t.den)=>∀k∈l,k<w.heap.size) Ls css row.xs:=k1.imp λ_ _ _ ho=>ho.lt;exact ia this l hl k hk
  have hs:∀k∈Ls.flatten,w'.heap[k]? = w.heap[k]?/\lab' k=lab k:=λk h=>hk k (hL k h) (pg hr (.inr (k3 k h)));exact⟨Ls,k1.imp_mem λl c y hl ho=>ho.frame λk h=>(hs k (List.mem_flatten.2 ⟨l,hl,h⟩)).1,k2,λk h=>by rw[(hs k h).2];exact k3 k h⟩
def R.called(h:R w0 lab0 oo n V E a w)(hk:∀k,k<w.heap.size->fb E.lab qs k->w'.heap[k]? = w.heap[k]?/\E'.lab k=E.lab k)
  (ho:w'.os=w.os/\Tp w w'/\w'.output=w.output) (hs:w.heap.size<=w'.heap.size) (hbb:E'.bb=E.bb) {look:Nat->Option ac}
  (hrow:∀r row,V.row r=some row->∃row',look r=some row'/\E'.rv r=E.rv r/\row'.t.nc=row.t.nc/\row.xs.length<=row'.xs.length)
  (hrel:∀r row,look r=some row->(r∉qs/\V.row r=some row)\/bJ w' E'.lab r row (E'.rv r)) :
  R w0 lab0 oo n ((gu qs V).withRow look) E' a w':=by
 have hbox:∀b te cs,V.box b=some (te,cs)->∃cs',((gu qs V).withRow look).box b=some (te,cs')/\cs'.length=cs.length:=λb te cs hb =>⟨cs.map (eD qs),by show(gu qs V).box b=_;rw[ya,hb],by simp⟩;have hc:∀c v,aj V E w c v->aj ((gu qs V).withRow look) E' w' (eD qs c) v:=λc v h=>aj.called hk hrow hbox hbb h;refine⟨h.bound,h.size,h.defers,λt=>?_,λb te cs hb=>?_,λr row hr=>?_, ?_⟩;·show aF _ E' w' ((gu qs V).slot t) _;rw[FR];exact(h.slots t).mapl hc
 ·have hb':(gu qs V).box b=some (te,cs):=hb;rw[ya]at hb';split at hb'
  ·rename_i te' cs' hb2;injection hb' with hb';injection hb' with e1 e2;subst e1 e2;obtain⟨arr,k1,k2,k3,k4⟩:=h.boxes b _ _ hb2;have hlt:=k1.lt;have hsp:fb E.lab qs (E.bb b):=λq _ hq=>by rcases hq with hq|hq<;>rw[k2]at hq<;>cases hq
   obtain⟨j1,j2⟩:=hk _ hlt hsp;exact⟨arr,by rw[hbb,j1];exact k1,by rw[hbb,j2];exact k2,k3.mapl hc,k4⟩
  ·cases hb'
 ·rcases hrel r row hr with⟨h1,h2⟩|h2;·obtain⟨row',_,g2,_⟩:=hrow r row h2;rw[g2];exact(h.rows r row h2).called hk h1
  ·exact h2
 ·refine⟨ho.1.trans h.same.os,ho.2.1.trans h.same.tape,ho.2.2.trans h.same.output,Nat.le_trans h.same.size hs,λk hk' hl=>?_,λk hk' hl=>?_⟩;·obtain⟨g1,g2⟩:=h.same.old k hk' hl;obtain⟨j1,j2⟩:=hk k (Nat.lt_of_lt_of_le hk' h.same.size) (ll g1);exact⟨by rw[j2];exact g1,by rw[j1];exact g2⟩
  ·obtain⟨g1,g2⟩:=h.same.gone k hk' hl;obtain⟨j1,j2⟩:=hk k (Nat.lt_of_lt_of_le hk' h.same.size) (xS g1);exact⟨by rw[j2];exact g1,by rw[j1];exact g2⟩
def mO(d:Nat):∀{t:Ty}{y:t.den}{j:Nat},(aE d t y j).1.length=t.nc
 |.int _,_,_=>rfl
 |.bool,_,_=>rfl
 |.fnc _,_,_=>rfl
 |.str,_,_=>rfl
 |.err,_,_=>rfl
 |.sl _ _,_,_=>rfl
 |.pair a b,x,j=>by simp only[aE,List.length_append,Ty.nc];rw[mO d,mO d]
def FS(io:Bool)(d:Nat){t:Ty}{y:t.den}{j:Nat}:(d6 io d t y j).1.length=t.nc:=by
 rcases th io d t y j with⟨e,s,rfl,h⟩|⟨_,h⟩;·rw[h];rfl
 ·rw[h];exact mO d
def yb{d:Nat}{rs:List PT}{Y:an rs}{j j':Nat}{cs:List (Bool×List ae)}{rows:List (Nat×ac)}(hfl:∀p∈rs,p.agg=false->p.t.nc=1)(h:ce d rs Y j=(cs,rows,j'))(l:List ae):cs≠[(false,l)]\/∃c,l=[c]:=by
 by_cases e:cs=[(false,l)]
 ·right;subst e;cases rs with
  |nil=>simp[ce]at h
  |cons r rs =>
   simp only[ce,Prod.mk.injEq,List.cons.injEq]at h;have h1:=h.1.1.2;have h2:=hfl r List.mem_cons_self h.1.1.1;have h3:l.length=1:=by rw[<-h1,FS,h2]
   match l,h3 with
   |[c],_=>exact⟨c,rfl⟩
 ·exact .inl e
def yc{f:Nat}{en:aW}(hΓ:mL P w0 lab0 f en)(h:R w0 lab0 oo n V E a w){args:Array Value}{L:List Nat}{X:an en.sig.ps}(i2:dG w L en.sig.ps args.toList X)(i3:bQ en.sig.ps=true->L=[])(i1:L.Nodup)(i1':∀k∈L,k<w.heap.size)
  (hL:∀k,fb E.lab qs k->k∉L) {look:Nat->Option ac}{r:cA en.sig.ps×an en.sig.rs}
  (hW:∀{w':World}{L':List Nat},iR w' L' en.sig.ps args.toList r.1->L'.Nodup->(∀k∈L',k∈L\/w.heap.size<=k)->(∀k,k<w.heap.size->k∉L->w'.heap[k]? = w.heap[k]?)->∃f,pi w.heap.size L V.row look qs L' E w' f)
  (hG:en.G X=some r) {dst:Option Nat} (hd:∀d,dst=some d->d<n) (hfl:∀p∈en.sig.rs,p.agg=false->p.t.nc=1) (hout:ph en V dst qs look r.2=some V') :
  cB P f args w λe w'=>∃v E',e=.returned v/\R w0 lab0 oo n V' E' (a.put dst v) w'/\(bQ en.sig.ps=true->bE w w'):=by
 refine cB.mono (hΓ w args L X r.1 r.2 i2 i3 i1 i1' hG (λk hk hl=>(h.same.old k hk hl).2) (λk hkL hq=>hL k (ll (h.same.old k hq.1 hq.2).1) hkL)) ?_;rintro e w' ⟨v,vs,L',Lr,rfl,A⟩
 obtain⟨nd1,nd2,nd3⟩:=List.nodup_append.1 A.nodup;have hout2:∀k,k<w.heap.size->k∉L->k∉Lr/\k∉L':=by
  intro k hk hkL;refine⟨λhr=>?_,λhl=>?_⟩
  ·rcases A.fresh k hr with h1|h1;·exact hkL h1
   ·omega
  ·rcases A.from_ k hl with h1|h1;·exact hkL h1
   ·omega
 have hspare:∀k,k<w.heap.size->fb E.lab qs k->k∉L/\k∉Lr/\k∉L':=λk hk hsp=>⟨hL k hsp,hout2 k hk (hL k hsp)⟩;have hext:bQ en.sig.ps=true->bE w w':=λhn=>⟨A.os,A.tape,A.output,A.size,λk hk=>A.old k hk (by rw[i3 hn];simp)⟩;obtain⟨f1,W⟩:=hW A.io nd2 A.from_ A.old;have hold:∀q row,V.row q=some row->∃row',look q=some row'/\row'.t.nc=row.t.nc/\row'.xs.length=row.xs.length:=by
  intro q row hrow;by_cases hm:q∈qs;·obtain⟨ro,row',w1,w2,w3,w4,_⟩:=W.row q hm;rw[hrow]at w1;injection w1 with w1;subst w1;exact⟨row',w2,by rw[w3],w4⟩
  ·exact⟨row,by rw[W.other q hm];exact hrow,rfl,rfl⟩
 unfold ph at hout;split at hout
 ·rename_i d;split at hout;rename_i cs rows j hres;split at hout
  ·rename_i look2 hadd;injection hout with hout;subst hout;obtain⟨f2,rvf,c1,c2⟩:=pp d (j:=0) A.res nd1;rw[hres]at c1 c2;obtain⟨ad1,ad2⟩:=pk hadd
   classical
   let E':aH:=⟨λk=>if k∈Lr then f2 k else if k∈L' then f1 k else E.lab k,λq=>if ∃p∈rows,p.1=q then rvf q else E.rv q,E.bb⟩;have hlabr:∀k∈Lr,E'.lab k=f2 k:=λk hk=>if_pos hk;have hlabl:∀k∈L',E'.lab k=f1 k:=λk hk=>(if_neg λh'=>nd3 k h' k hk rfl).trans (if_pos hk);have hlabo:∀k,k<w.heap.size->k∉L->k∉L'->E'.lab k=E.lab k:=λk hk h1 h2=>(if_neg (hout2 k hk h1).1).trans (if_neg h2);have hrvo:∀q,(∀p∈rows,p.1≠q)->E'.rv q=E.rv q:=λq hq=>if_neg λ⟨p,h1,h2⟩=>hq p h1 h2;have hlook:∀q row,look q=some row->∀p∈rows,p.1≠q:=λq row hq p hp e=>by have:=(ad1 p hp).1;rw[e,hq]at this;cases this
   have hR:R w0 lab0 oo n ((gu qs V).withRow look2) E' a w':=by
    refine R.called (E':=E') (qs:=qs) h (λk hk hsp=>?_) ⟨A.os,A.tape,A.output⟩ A.size rfl (λq row hrow=>?_) (λq row hrow=>?_);·obtain⟨s1,s2,s3⟩:=hspare k hk hsp;exact⟨A.old k hk s1,(if_neg s2).trans (if_neg s3)⟩
    ·obtain⟨row',k1,k2,k3⟩:=hold q row hrow;exact⟨row',by rw[ad2 q (hlook q row' k1)];exact k1,hrvo q (hlook q row' k1),k2,by omega⟩
    ·by_cases hex:∃p∈rows,p.1=q;·obtain⟨p,hp,rfl⟩:=hex;have e2:=(ad1 p hp).2;rw[hrow]at e2;injection e2 with e2;subst e2;exact .inr ((c2 ⟨λ_=>.c .undef,λ_=>none,look2⟩ E' hlabr (λp' hp'=>if_pos ⟨p',hp',rfl⟩) (λp' hp'=>(ad1 p' hp').2)).2 p hp)
     ·have hne:∀p∈rows,p.1≠q:=λp hp e=>hex ⟨p,hp,e⟩;rw[ad2 q hne]at hrow;by_cases hm:q∈qs;·obtain⟨ro,row',w1,w2,w3,w4,w5⟩:=W.row q hm;rw[hrow]at w2;injection w2 with w2;subst w2;rw[hrvo q hne];exact .inr (w5 E'.lab hlabl hlabo)
      ·rw[W.other q hm]at hrow;exact .inl ⟨hm,hrow⟩
   refine⟨v,E',rfl,R.put hR (hd d rfl) (xZ (vs:=vs) (c2 _ E' hlabr (λp' hp'=>if_pos ⟨p',hp',rfl⟩) (λp' hp'=>(ad1 p' hp').2)).1 A.ret λl=>?_),hext⟩;exact yb hfl hres l
  ·cases hout
 ·injection hout with hout;subst hout
  classical
  let E':aH:=⟨λk=>if k∈L' then f1 k else E.lab k,E.rv,E.bb⟩;have hlabl:∀k∈L',E'.lab k=f1 k:=λk hk=>if_pos hk;have hlabo:∀k,k<w.heap.size->k∉L->k∉L'->E'.lab k=E.lab k:=λk hk h1 h2=>if_neg h2;refine⟨v,E',rfl, ?_,hext⟩;show R w0 lab0 oo n _ E' a w';refine R.called (E':=E') (qs:=qs) h (λk hk hsp=>?_) ⟨A.os,A.tape,A.output⟩ A.size rfl (λq row hrow=>?_) (λq row hrow=>?_);·obtain⟨s1,s2,s3⟩:=hspare k hk hsp;exact⟨A.old k hk s1,if_neg s3⟩
  ·obtain⟨row',k1,k2,k3⟩:=hold q row hrow;exact⟨row',k1,rfl,k2,by omega⟩
  ·by_cases hm:q∈qs;·obtain⟨ro,row',w1,w2,w3,w4,w5⟩:=W.row q hm;rw[hrow]at w2;injection w2 with w2;subst w2;exact .inr (w5 E'.lab hlabl hlabo)
   ·rw[W.other q hm]at hrow;exact .inl ⟨hm,hrow⟩
def FT{f:Nat}{en:aW}(hΓ:mL P w0 lab0 f en)(h:R w0 lab0 oo n V E a w){ss:List SV}{args:Array Value}(hs:ai (aF V E w) ss args.toList){X:an en.sig.ps}(hin:tp en V ss=some X)
  {r:cA en.sig.ps×an en.sig.rs} (hG:en.G X=some r) {dst:Option Nat} (hd:∀d,dst=some d->d<n) (hfl:∀p∈en.sig.rs,p.agg=false->p.t.nc=1) (hout:tq en V dst ss r=some V') :
  cB P f args w λe w'=>∃v E',e=.returned v/\R w0 lab0 oo n V' E' (a.put dst v) w'/\(bQ en.sig.ps=true->bE w w'):=by
 unfold tp at hin;cases hq:(de en.sig.ps&&cY (aA (ej en.sig.ps ss)));·rw[hq]at hin;cases hin
 rw[hq]at hin;simp only[Bool.and_eq_true]at hq;simp only[cond_true]at hin;obtain⟨L,i1,i2,i3,i4⟩:=xY h hq.1 hq.2 hin hs;unfold tq at hout;split at hout
 ·rename_i look hlook;refine yc hΓ h i2 i3 i1.nodup i1.lt (λk hsp hkL=>?_) (λ{w' L'} hio hnd _ _=>?_) hG hd hfl hout;·obtain⟨q,q1,q2⟩:=i1.lab k hkL;exact hsp q q1 q2
  ·obtain⟨f1,W⟩:=i4 hlook hio hnd;exact⟨f1,W.two⟩
 ·cases hout
def fF{α:Type}:List PT->List α->Option α
 |p::ps,v::vs=>cond p.io (some v) (fF ps vs)
 |_,_=>none
structure tv(V:St)(E:aH)(w:World)(r:Nat)(i:Int)(f:Nat)(row:ac)(v:Value):Prop where
 hrow:V.row r=some row
 deep:row.deep=true
 i0:0<=i
 lt:i<row.xs.length
 cell:∃g m c,E.rv r=.slice (some ⟨g,0,none⟩) m c/\w.cell? ⟨g,i.toNat*row.t.nc+f,none⟩=some v
end
end Go.Fw
namespace Go.Fw
open Go.RowKit
abbrev Rf:=Option (Nat×Ty)
abbrev cg:Rf->Type
 |none=>Unit
 |some p=>p.2.den
structure fe where
 rf:Rf
 ps:List PT
 rs:List PT
 pre:Option (cg rf×an ps->Bool)
 val:cg rf×an ps->cg rf×an rs
def da(w:World)(S:Nat->Prop):(ps:List PT)->List Value->an ps->List Nat->Prop
 |[],[],_,L=>L=[]
 |p::ps,v::vs,X,L=>∃cs L1 L2,L=L1++L2/\eT p.agg v cs/\cond p.io (az w p.t L1 cs X.1) (L1=[]/\Rd w S p.t cs X.1)/\da w S ps vs X.2 L2
 |[],_::_,_,_=>False
 |_::_,[],_,_=>False
def tw(w:World)(te:Nat)(t:Ty)(v:Value)(x:t.den)(g:Nat)(L:List Nat):Prop :=
 v=.pointer (some ⟨g,0,none⟩)/\∃arr:Array Value,w.heap[g]? = some (.cells arr te (0,0))/\(∀u∈arr.toList,u.oneCell'=true)/\az w t L arr.toList x
def il(w:World)(S:Nat->Prop):(rf:Rf)->(ps:List PT)->List Value->cg rf->an ps->List Nat->Prop
 |none,ps,vs,_,X,L=>da w S ps vs X L
 |some p,ps,v::vs,x,X,L=>∃g L1 L2,L=g::(L1++L2)/\tw w p.1 p.2 v x g L1/\da w S ps vs X L2
 |some _,_,[],_,_,_=>False
def ye(w':World):(rf:Rf)->List Value->cg rf->List Nat->Prop
 |none,_,_,L=>L=[]
 |some p,v::_,y,L=>∃g,tw w' p.1 p.2 v y g L/\g∉L
 |some _,[],_,_=>False
structure tx[DC](w:World)(en:fe)(args:List Value)(L:List Nat)(Y:cg en.rf×an en.rs)(v:Value)(w':World)(vs:List Value)(Lf Lr:List Nat):Prop where
 ret:j9 vs v
 res:j8 w' en.rs vs Y.2 Lr
 ref:ye w' en.rf args Y.1 Lf
 nodup:(Lr++Lf).Nodup
 fresh:∀k∈Lr++Lf,k∈L\/w.heap.size<=k
 notg:∀g p,en.rf=some p->args.head? = some (.pointer (some ⟨g,0,none⟩))->g∉Lr++Lf
 os:w'.os=w.os
 tape:Tp w w'
 output:w'.output=w.output
 size:w.heap.size<=w'.heap.size
 old:∀k,k<w.heap.size->k∉L->w'.heap[k]? = w.heap[k]?
def dL[DC](P:Program)[Inv P](f:Nat)(en:fe):Prop :=
 ∀(w:World) (args:Array Value) (L:List Nat) (X:cg en.rf×an en.ps),il w (λk=>k∉L) en.rf en.ps args.toList X.1 X.2 L->L.Nodup->(∀k∈L,k<w.heap.size)->bS en.pre X=true ->
  Inv.I P w->(∀k∈L,¬ Inv.B P k)->cB P f args w λe w'=>∃v vs Lf Lr,e=.returned v/\tx w en args.toList L (en.val X) v w' vs Lf Lr
def tz[DC](P:Program)(w0:World)(lab0:Nat->aw)(f:Nat)(en:fe):Prop :=
 ∀(w:World) (args:Array Value) (L:List Nat) (X:cg en.rf×an en.ps),il w (λk=>k∉L) en.rf en.ps args.toList X.1 X.2 L->L.Nodup->(∀k∈L,k<w.heap.size)->bS en.pre X=true ->
  (∀k,k<w0.heap.size->lab0 k=.st->w.heap[k]? = w0.heap[k]?)->(∀k∈L,¬ (k<w0.heap.size/\lab0 k=.st))->cB P f args w λe w'=>∃v vs Lf Lr,e=.returned v/\tx w en args.toList L (en.val X) v w' vs Lf Lr
def dL.at[DC]{P:Program}[Inv P]{f:Nat}{en:fe}(h:dL P f en){w0:World}{lab0:Nat->aw}(hI:Inv.I P w0)(hB:∀k,Inv.B P k->lab0 k=.st):tz P w0 lab0 f en :=
 λw args L X h1 h2 h3 h4 h6 h7=>h w args L X h1 h2 h3 h4 (Inv.keep w0 w (λk hk=>h6 k (Inv.lt w0 k hI hk) (hB k hk)) hI) λk hk hb=>h7 k hk ⟨Inv.lt w0 k hI hb,hB k hb⟩
def dg:List PT->List SV->List ae
 |p::ps,s::ss=>(cond p.io (match fc p.agg s with|some cs=>cs|none=>[]) [])++dg ps ss
 |_,_=>[]
def mP(V:St):Rf->List SV->Option (List ae×List SV)
 |none,ss=>some ([],ss)
 |some p,.c (.box b 0)::ss=>match V.box b with
  |some (te,cs)=>cond (Nat.beq te p.1&&Nat.blt te bM) (some (cs,ss)) none
  |none=>none
 |some _,_=>none
def yf(look:Nat->Option ac):(rf:Rf)->List ae->Option (cg rf)
 |none,_=>some ()
 |some p,cs=>cW look p.2 cs
def tA(en:fe)(V:St)(ss:List SV):Option (List Nat×(cg en.rf×an en.ps)) :=
 match mP V en.rf ss with
 |some (cs,ss')=>cond (cY (aA (cs++dg en.ps ss')))
  (match dw (yf V.row en.rf cs) (fD (aA (cs++dg en.ps ss')) V.row en.ps ss')with
   |some X=>some (aA (cs++dg en.ps ss'),X)
   |none=>none) none
 |none=>none
def dy(qs:List Nat):ae->ae
 |.own q=>cond (bk q qs) .undef (.own q)
 |.part q lo n=>cond (bk q qs) .undef (.part q lo n)
 |.elt q i f=>cond (bk q qs) .undef (.elt q i f)
 |c=>eD qs c
def lz(qs:List Nat):Option (Nat×List ae)->Option (Nat×List ae)
 |some (te,cs)=>some (te,cs.map (dy qs))
 |none=>none
def cN:Option Nat->Nat
 |some d=>d
 |none=>99999
def tB(d:Nat):(rf:Rf)->cg rf->List ae×List (Nat×ac)×Nat
 |none,_=>([],[],0)
 |some p,y=>aE d p.2 y 0
def FW:Rf->List SV->List ae->(Nat->Option (Nat×List ae))->Nat->Option (Nat×List ae)
 |some p,.c (.box b 0)::_,cs,bx=>am bx b (some (p.1,cs))
 |_,_,_,bx=>bx
def tC(V:St)(dst:Option Nat)(s:SV):St:=match dst with
 |some d=>V.put d s
 |none=>V
def pv(en:fe)(V:St)(dst:Option Nat)(ss:List SV)(qs:List Nat)(Y:cg en.rf×an en.rs):Option St :=
 match tB (cN dst) en.rf Y.1 with
 | (c1,r1,j1)=>match ce (cN dst) en.rs Y.2 j1 with
  | (cs,r2,_)=>match kf (r1++r2) (λr=>cond (bk r qs) none (V.row r))with
   |some look=>some (tC ⟨λt=>(V.slot t).map (dy qs),FW en.rf ss c1 (λb=>lz qs (V.box b)),look⟩ dst (lu cs))
   |none=>none
section
variable {P : Program} {V V' : St} {E E' : aH} {w w' : World} {w0 : World} {lab0 : Nat → aw} {oo : Nat → Value} {n : Nat} {a : Act} {qs : List Nat} [DC]
def da.mono{S S':Nat->Prop}(h:∀k,S k->S' k):∀{ps:List PT}{vs:List Value}{X:an ps}{L:List Nat},da w S ps vs X L->da w S' ps vs X L
 |[],[],_,_,h'=>h'
 |p::ps,v::vs,X,L,h'=>by
  obtain⟨cs,L1,L2,e,h1,h2,h3⟩:=h';refine⟨cs,L1,L2,e,h1, ?_,h3.mono h⟩;cases hio:p.io;·rw[hio]at h2;exact⟨h2.1,h2.2.mono h⟩
  ·rw[hio]at h2;exact h2
 |[],_::_,_,_,h'=>h'.elim
 |_::_,[],_,_,h'=>h'.elim
def lA(h:R w0 lab0 oo n V E a w){bad:List Nat}:∀{ps:List PT}{ss:List SV}{vs:List Value}{X:an ps},fD bad V.row ps ss=some X->ai (aF V E w) ss vs->(aA (dg ps ss)).Nodup ->
  ∃L,da w (gt E.lab bad) ps vs X L/\L.Nodup/\(∀k∈L,∃q∈aA (dg ps ss),cZ E.lab q k)/\∀k∈L,k<w.heap.size
 |[],[],[],X,_,_,_=>⟨[],rfl,List.nodup_nil,(λk hk=>by cases hk),λk hk=>by cases hk⟩
 |p::ps,s::ss,v::vs,X,hp,hs,hn=>by
  simp only[fD]at hp;split at hp
  ·rename_i cs hcs;obtain⟨g1,g2⟩:=dx hp;obtain⟨us,k1,k2⟩:=kg hcs hs.1;obtain⟨t,agg,io⟩:=p;cases io;·have hm:dg (⟨t,agg,false⟩::ps) (s::ss)=dg ps ss:=rfl;rw[hm]at hn ⊢;obtain⟨L,i1,i2,i3,i4⟩:=lA h g2 hs.2 hn;exact⟨L,⟨us,[],L,rfl,k1,⟨rfl,kb h g1 k2⟩,i1⟩,i2,i3,i4⟩
   ·have hcs':fc agg s=some cs:=hcs;have hm:dg (⟨t,agg,true⟩::ps) (s::ss)=cs++dg ps ss:=by simp only[dg,hcs',cond_true]
    rw[hm,fy]at hn ⊢;obtain⟨n1,n2,n3⟩:=List.nodup_append.1 hn;obtain⟨L1,o1,o2,o3⟩:=fA h g1 k2 n1;obtain⟨L2,i1,i2,i3,i4⟩:=lA h g2 hs.2 n2;refine⟨L1++L2,⟨us,L1,L2,rfl,k1,o1,i1⟩,List.nodup_append.2 ⟨o2,i2,λx hx y hy e=>?_⟩,λk hk=>?_,λk hk=>?_⟩;·subst e;obtain⟨q,q1,q2⟩:=o3 x hx;obtain⟨q',q1',q2'⟩:=i3 x hy;exact n3 q q1 q' q1' (ii q2 q2')
    ·rcases List.mem_append.1 hk with hk|hk;·obtain⟨q,q1,q2⟩:=o3 k hk;exact⟨q,List.mem_append_left _ q1,q2⟩
     ·obtain⟨q,q1,q2⟩:=i3 k hk;exact⟨q,List.mem_append_right _ q1,q2⟩
    ·rcases List.mem_append.1 hk with hk|hk;·exact o1.lt k hk
     ·exact i4 k hk
  ·cases hp
 |[],[],_::_,_,_,hs,_=>hs.elim
 |[],_::_,_,_,hp,_,_=>by cases hp
 |_::_,[],_,_,hp,_,_=>by cases hp
 |_::_,_::_,[],_,_,hs,_=>hs.elim
def d7(lab:Nat->aw)(qs:List Nat)(B:Nat->Prop)(k:Nat):Prop:=fb lab qs k/\∀b,B b->lab k≠.box b
def lB{lab:Nat->aw}{B:Nat->Prop}{k:Nat}(h:gt lab qs k):d7 lab qs B k:=⟨h.1,λb _=>h.2 b⟩
section
variable {B : Nat → Prop}
def tD{lab:Nat->aw}{p:Option Nat}{k:Nat}(hp:∀q,p=some q->q∉qs)(h:lab k=bh p):d7 lab qs B k:=⟨pq hp h,λb _ hb=>by rw[h]at hb;cases p<;>cases hb⟩
def yg{lab:Nat->aw}{r k:Nat}(hr:r∉qs)(h:cZ lab r k):d7 lab qs B k:=lB (ln hr h)
def yh{lab:Nat->aw}{k:Nat}(h:lab k=.dead):d7 lab qs B k:=lB (FM h)
def kj{lab:Nat->aw}{k:Nat}(h:lab k=.st):d7 lab qs B k:=lB (lq h)
def aj.moved(hk:∀k,k<w.heap.size->d7 E.lab qs B k->w'.heap[k]? = w.heap[k]?/\E'.lab k=E.lab k)
  (hrow:∀r row,r∉qs->V.row r=some row->∃row',V'.row r=some row'/\E'.rv r=E.rv r/\row'.t.nc=row.t.nc/\row.xs.length<=row'.xs.length)
  (hbox:∀b te cs,V.box b=some (te,cs)->∃cs',V'.box b=some (te,cs')/\cs'.length=cs.length) (hbb:E'.bb=E.bb) :
  ∀{c:ae}{v:Value},aj V E w c v->aj V' E' w' (dy qs c) v:=by
 have nm:∀{q:Nat},bk q qs=false->q∉qs:=λhm hx=>by rw[fw.2 hx]at hm;cases hm
 have rd:∀{p:Option Nat}{t:Ty}{cs:List Value}{x:t.den},(∀q,p=some q->q∉qs)->Rd w (λk=>E.lab k=bh p) t cs x->Rd w' (λk=>E'.lab k=bh p) t cs x:=by intro p t cs x hp h;refine(h.lt.frame λk hk' _=>(hk k hk'.2 (tD hp hk'.1)).1).mono λk hk'=>?_;rw[(hk k hk'.2 (tD hp hk'.1)).2];exact hk'.1
 have selt:∀{t:Ty}{x:t.den}{p:Option Nat}{f:Nat}{v:Value},(∀q,p=some q->q∉qs)->aj V E w (.selt t x p f) v->aj V' E' w' (.selt t x p f) v:=by
  intro t x p f v hp h;obtain⟨ad,cs,h1,h2,h3,h4,h5⟩:=h;have hb:∀j,(ad.add j).block=ad.block:=λj=>by unfold Addr.add;split<;>rfl
  have h0:0<cs.length:=by rw[h4.len];exact t.nc_pos
  have hlt:ad.block<w.heap.size:=by have:=World.block_lt_of_cell? w (ad.add 0) (h5 0 cs[0] (by simp));rwa [hb]at this
  have hkk:=hk ad.block hlt (tD hp h3);refine⟨ad,cs,h1,h2,by rw[hkk.2];exact h3,rd hp h4,λj u hu=>?_⟩;rw[World.cell?_of_block (w:=w) (by rw[hb];exact hkk.1)];exact h5 j u hu
 have one:∀{q:Nat},q∉qs->∀r,some q=some r->r∉qs:=λhq r hr=>by injection hr with hr;subst hr;exact hq
 intro c v h;cases c with
 |undef=>trivial
 |int _ _=>exact h
 |bool _=>exact h
 |str _=>exact h
 |err _=>exact h
 |bor v0 e t xs=>exact⟨h.1,rd (p:=none) (λq hq=>by cases hq) h.2⟩
 |nil=>exact h
 |sn e t xs p =>
  cases p with
  |none=>exact rd (p:=none) (λq hq=>by cases hq) h
  |some q =>
   simp only[dy,eD];cases hm:bk q qs;·exact rd (p:=some q) (one (nm hm)) h
   ·trivial
 |full e t xs p =>
  cases p with
  |none=>exact⟨rd (p:=none) (λq hq=>by cases hq) h.1,h.2⟩
  |some q =>
   simp only[dy,eD];cases hm:bk q qs;·exact⟨rd (p:=some q) (one (nm hm)) h.1,h.2⟩
   ·trivial
 |own r =>
  simp only[dy];cases hm:bk r qs;·obtain⟨rfl,h1,h2⟩:=h;obtain⟨row,hr⟩:=Option.isSome_iff_exists.1 h1;obtain⟨row',k1,k2,_⟩:=hrow r row (nm hm) hr;exact⟨k2.symm,by rw[k1];rfl,h2⟩
  ·trivial
 |part r lo n =>
  simp only[dy];cases hm:bk r qs;·obtain⟨row,A,c,h1,h2,h3,h4,h5,h6,h7,h8⟩:=h;obtain⟨row',g1,g2,g3,g4⟩:=hrow r row (nm hm) h1;refine⟨row',A,c,g1,h2,h3,by omega,h5,h6,h7,λhn=>?_⟩;rw[g2,g3];exact h8 hn
  ·trivial
 |box b f =>obtain⟨rfl,te,cs,h1,h2⟩:=h;obtain⟨cs',g1,g3⟩:=hbox b te cs h1;exact⟨by rw[hbb],te,cs',g1,by omega⟩
 |mp b =>obtain⟨rfl,te,cs,h1⟩:=h;obtain⟨cs',g1,_⟩:=hbox b te cs h1;exact⟨by rw[hbb],te,cs',g1⟩
 |mset t xs=>exact h
 |elt r i f =>
  simp only[dy];cases hm:bk r qs;·obtain⟨row,g,n,c,h1,h2,h3,h4,h5,h6⟩:=h;obtain⟨row',g1,g2,g3,g4⟩:=hrow r row (nm hm) h1;exact⟨row',g,n,c,g1,by rw[g2];exact h2,h3,by omega,by rw[g3];exact h5,by rw[g3];exact h6⟩
  ·trivial
 |selt t x p f =>
  cases p with
  |none=>exact selt (p:=none) (λq hq=>by cases hq) h
  |some q =>
   simp only[dy,eD];cases hm:bk q qs;·exact selt (p:=some q) (one (nm hm)) h
   ·trivial
 |fn f caps =>
  obtain⟨rfl,h⟩:=h;refine⟨?_,λp hp=>?_⟩;·rw[hbb]
  ·obtain⟨te,cs,h1,h2⟩:=h p hp;obtain⟨cs',g1,g3⟩:=hbox _ _ _ h1;exact⟨te,cs',g1,by omega⟩
def bJ.moved{lab lab':Nat->aw}{r:Nat}{row:ac}{v:Value}(hk:∀k,k<w.heap.size->d7 lab qs B k->w'.heap[k]? = w.heap[k]?/\lab' k=lab k)(hr:r∉qs)(h:bJ w lab r row v):bJ w' lab' r row v:=by
 obtain⟨css,h1,h2,h3,h4⟩:=h;have hlt:∀k,v.ownBlock=some k->k<w.heap.size:=λk hk=>(h1.lt k hk).2;have hb:∀k,v.ownBlock=some k->w'.heap[k]? = w.heap[k]?/\lab' k=lab k:=λk h=>hk k (hlt k h) (yg hr (.inl (h2 k h)));refine⟨css,jI (λk h=>(hb k h).1) h1,λk h=>by rw[(hb k h).2];exact h2 k h, ?_,h4⟩;cases hd:row.deep;·rw[hd]at h3;exact ai.imp (λc y h=>((h.lt.frame λk hk' _=>(hk k hk'.2 (kj hk'.1)).1)).mono λk hk'=>by rw[(hk k hk'.2 (kj hk'.1)).2];exact hk'.1) h3
 ·rw[hd]at h3;obtain⟨Ls,k1,k2,k3⟩:=h3;have hL:∀k∈Ls.flatten,k<w.heap.size:=λk hk=>by obtain⟨l,hl,hk⟩:=List.mem_flatten.1 hk;have:aL (λ(l:List Nat) (_:List Value) (_:row.t.den)=>∀k∈l,k<w.heap.size) Ls css row.xs:=k1.imp λ_ _ _ ho=>ho.lt;exact ia this l hl k hk
  have hs:∀k∈Ls.flatten,w'.heap[k]? = w.heap[k]?/\lab' k=lab k:=λk h=>hk k (hL k h) (yg hr (.inr (k3 k h)));exact⟨Ls,k1.imp_mem λl c y hl ho=>ho.frame λk h=>(hs k (List.mem_flatten.2 ⟨l,hl,h⟩)).1,k2,λk h=>by rw[(hs k h).2];exact k3 k h⟩
def R.moved(h:R w0 lab0 oo n V E a w)(hk:∀k,k<w.heap.size->d7 E.lab qs B k->w'.heap[k]? = w.heap[k]?/\E'.lab k=E.lab k)
  (ho:w'.os=w.os/\Tp w w'/\w'.output=w.output) (hs:w.heap.size<=w'.heap.size) (hbb:E'.bb=E.bb) (hslot:∀t,V'.slot t=(V.slot t).map (dy qs))
  (hbox:∀b te cs,V.box b=some (te,cs)->∃cs',V'.box b=some (te,cs')/\cs'.length=cs.length)
  (hboxes:∀b te cs,V'.box b=some (te,cs)->(¬ B b/\∃cs0,V.box b=some (te,cs0)/\cs=cs0.map (dy qs))\/gO V' E' w' b te cs)
  (hrow:∀r row,r∉qs->V.row r=some row->∃row',V'.row r=some row'/\E'.rv r=E.rv r/\row'.t.nc=row.t.nc/\row.xs.length<=row'.xs.length)
  (hrel:∀r row,V'.row r=some row->(r∉qs/\V.row r=some row/\E'.rv r=E.rv r)\/bJ w' E'.lab r row (E'.rv r)) :
  R w0 lab0 oo n V' E' a w':=by
 have hc:∀c v,aj V E w c v->aj V' E' w' (dy qs c) v:=λc v h=>aj.moved hk hrow hbox hbb h;refine⟨h.bound,h.size,h.defers,λt=>?_,λb te cs hb=>?_,λr row hr=>?_, ?_⟩;·rw[hslot];exact(h.slots t).mapl hc
 ·rcases hboxes b te cs hb with⟨hB,cs0,hb2,rfl⟩|hb2;·obtain⟨arr,k1,k2,k3,k4⟩:=h.boxes b _ _ hb2;have hlt:=k1.lt;have hsp:d7 E.lab qs B (E.bb b):=⟨λq _ hq=>(by rcases hq with hq|hq<;>rw[k2]at hq<;>cases hq),λb' hB' hb'=>by rw[k2]at hb';injection hb' with hb';subst hb';exact hB hB'⟩;obtain⟨j1,j2⟩:=hk _ hlt hsp;exact⟨arr,by rw[hbb,j1];exact k1,by rw[hbb,j2];exact k2,k3.mapl hc,k4⟩
  ·exact hb2
 ·rcases hrel r row hr with⟨h1,h2,h3⟩|h2;·rw[h3];exact(h.rows r row h2).moved hk h1
  ·exact h2
 ·refine⟨ho.1.trans h.same.os,ho.2.1.trans h.same.tape,ho.2.2.trans h.same.output,Nat.le_trans h.same.size hs,λk hk' hl=>?_,λk hk' hl=>?_⟩;·obtain⟨g1,g2⟩:=h.same.old k hk' hl;obtain⟨j1,j2⟩:=hk k (Nat.lt_of_lt_of_le hk' h.same.size) (kj g1);exact⟨by rw[j2];exact g1,by rw[j1];exact g2⟩
  ·obtain⟨g1,g2⟩:=h.same.gone k hk' hl;obtain⟨j1,j2⟩:=hk k (Nat.lt_of_lt_of_le hk' h.same.size) (yh g1);exact⟨by rw[j2];exact g1,by rw[j1];exact g2⟩
end
def yj{B:Nat->Prop}(h:R w0 lab0 oo n V E a w){d:Nat}{L Lf Lr:List Nat}(hL:∀k,d7 E.lab qs B k->k∉L)
  (nodup:(Lr++Lf).Nodup) (fresh:∀k∈Lr++Lf,k∈L\/w.heap.size<=k) (ho:w'.os=w.os/\Tp w w'/\w'.output=w.output) (hsz:w.heap.size<=w'.heap.size) (old:∀k,k<w.heap.size->k∉L->w'.heap[k]? = w.heap[k]?)
  {r1:List (Nat×ac)}{j1:Nat}{C1:St->aH->Prop}
  (R1:∃(f1:Nat->aw) (v1:Nat->Value),(∀p∈r1,∃i,i<j1/\p.1=aN d i)/\∀(σ2:St) (E2:aH),(∀k∈Lf,E2.lab k=f1 k)->(∀p∈r1,E2.rv p.1=v1 p.1)->(∀p∈r1,σ2.row p.1=some p.2)->C1 σ2 E2/\∀p∈r1,bJ w' E2.lab p.1 p.2 (E2.rv p.1))
  {rs:List PT}{vs:List Value}{Y:an rs} (res:j8 w' rs vs Y Lr) {cs:List (Bool×List ae)}{r2:List (Nat×ac)}{j2:Nat} (hres:ce d rs Y j1=(cs,r2,j2)) {look:Nat->Option ac}
  (hadd:kf (r1++r2) (λr=>cond (bk r qs) none (V.row r))=some look) {bx:Nat->Option (Nat×List ae)}
  (hbx1:∀b te cs,bx b=some (te,cs)->(¬ B b/\∃cs0,V.box b=some (te,cs0)/\cs=cs0.map (dy qs))\/((∃x,V.box b=some x)/\B b/\∀(σ2:St) (E2:aH),C1 σ2 E2->E2.bb=E.bb->E2.lab (E.bb b)=E.lab (E.bb b)->gO σ2 E2 w' b te cs))
  (hbx2:∀b te cs,V.box b=some (te,cs)->∃cs',bx b=some (te,cs')/\cs'.length=cs.length) (hg:∀b,B b->(∃x,V.box b=some x)->E.bb b∉Lr++Lf) :
  ∃E',R w0 lab0 oo n ⟨λt=>(V.slot t).map (dy qs),bx,look⟩ E' a w'/\pm ⟨λt=>(V.slot t).map (dy qs),bx,look⟩ E' w' cs vs:=by
 obtain⟨nd1,nd2,nd3⟩:=List.nodup_append.1 nodup;obtain⟨f1,v1,a1,b1⟩:=R1;obtain⟨f2,v2,a2,b2⟩:=pp d (j:=j1) res nd1;have m2:=(po d (rs:=rs) (Y:=Y) (j:=j1)).2;rw[hres]at a2 b2 m2;obtain⟨ad1,ad2⟩:=pk hadd
 classical
 let E':aH:=⟨λk=>if k∈Lr then f2 k else if k∈Lf then f1 k else E.lab k,λq=>if ∃p∈r1,p.1=q then v1 q else if ∃p∈r2,p.1=q then v2 q else E.rv q,E.bb⟩;have hlr:∀k∈Lr,E'.lab k=f2 k:=λk hk=>if_pos hk;have hlf:∀k∈Lf,E'.lab k=f1 k:=λk hk=>(if_neg λh'=>nd3 k h' k hk rfl).trans (if_pos hk);have hlo:∀k,k∉Lr++Lf->E'.lab k=E.lab k:=λk hk=>(if_neg λh'=>hk (List.mem_append_left _ h')).trans (if_neg λh'=>hk (List.mem_append_right _ h'));have hv1:∀p∈r1,E'.rv p.1=v1 p.1:=λp hp=>if_pos ⟨p,hp,rfl⟩;have hv2:∀p∈r2,E'.rv p.1=v2 p.1:=λp hp=>(if_neg λ⟨p',hp',e⟩=>by obtain⟨i,i1,i2⟩:=a1 p' hp';obtain⟨i',i3,i4,i5⟩:=m2 p hp;have:=kc (i2.symm.trans (e.trans i5));omega).trans (if_pos ⟨p,hp,rfl⟩);have hvo:∀q,(∀p∈r1++r2,p.1≠q)->E'.rv q=E.rv q:=λq hq=>(if_neg λ⟨p,h1,h2⟩=>hq p (List.mem_append_left _ h1) h2).trans (if_neg λ⟨p,h1,h2⟩=>hq p (List.mem_append_right _ h1) h2);have hlk:∀q row,look q=some row->(∀p∈r1++r2,p.1≠q)->q∉qs/\V.row q=some row:=by
  intro q row hq hne;rw[ad2 q hne]at hq;cases hm:bk q qs;·rw[hm]at hq;exact⟨(λhx=>by rw[fw.2 hx]at hm;cases hm),hq⟩
  ·rw[hm]at hq;cases hq
 have hold:∀q row,q∉qs->V.row q=some row->look q=some row/\∀p∈r1++r2,p.1≠q:=by
  intro q row hq hrow;have hm:bk q qs=false:=by
   cases hm:bk q qs;·rfl
   ·exact absurd (fw.1 hm) hq
  have hne:∀p∈r1++r2,p.1≠q:=λp hp e=>by have:=(ad1 p hp).1;rw[e,hm]at this;rw[show(cond false none (V.row q))=V.row q from rfl,hrow]at this;cases this
  refine⟨?_,hne⟩;rw[ad2 q hne,hm];exact hrow
 let σ2:St:=⟨λt=>(V.slot t).map (dy qs),bx,look⟩;obtain⟨c1,c2⟩:=b1 σ2 E' hlf hv1 λp hp=>(ad1 p (List.mem_append_left _ hp)).2;obtain⟨c3,c4⟩:=b2 σ2 E' hlr hv2 λp hp=>(ad1 p (List.mem_append_right _ hp)).2;refine⟨E', ?_,c3⟩;refine R.moved (B:=B) (E':=E') (qs:=qs) h (λk hk hst=>?_) ho hsz rfl (λt=>rfl) hbx2 (λb te cs hb=>?_) (λq row hq hrow=>?_) (λq row hrow=>?_)
 ·have hkL:=hL k hst;refine⟨old k hk hkL,hlo k λhm=>?_⟩;rcases fresh k hm with h1|h1;·exact hkL h1
  ·omega
 ·rcases hbx1 b te cs hb with h1|⟨h1,h2,h3⟩;·exact .inl h1
  ·exact .inr (h3 σ2 E' c1 rfl (hlo _ (hg b h2 h1)))
 ·obtain⟨h1,h2⟩:=hold q row hq hrow;exact⟨row,h1,hvo q h2,rfl,Nat.le_refl _⟩
 ·by_cases hex:∃p∈r1++r2,p.1=q
  ·obtain⟨p,hp,rfl⟩:=hex;have e2:=(ad1 p hp).2;rw[show look p.1=some row from hrow]at e2;injection e2 with e2;subst e2;rcases List.mem_append.1 hp with hp|hp;·exact .inr (c2 p hp)
   ·exact .inr (c4 p hp)
  ·have hne:∀p∈r1++r2,p.1≠q:=λp hp e=>hex ⟨p,hp,e⟩;obtain⟨h1,h2⟩:=hlk q row hrow hne;exact .inl ⟨h1,h2,hvo q hne⟩
def yk{b:Option (Nat×List ae)}{te:Nat}{cs:List ae}(h:lz qs b=some (te,cs)):∃cs0,b=some (te,cs0)/\cs=cs0.map (dy qs):=by
 cases b with
 |none=>cases h
 |some p =>obtain⟨te',cs0⟩:=p;simp only[lz,Option.some.injEq,Prod.mk.injEq]at h;obtain⟨rfl,rfl⟩:=h;exact⟨cs0,rfl,rfl⟩
def tE{d:Nat}{rs:List PT}{Y:an rs}{j j':Nat}{cs:List (Bool×List ae)}{rows:List (Nat×ac)}(hfl:∀p∈rs,p.agg=false->p.t.nc=1)(h:ce d rs Y j=(cs,rows,j')):∀l,cs≠[(false,l)]\/∃c,l=[c]:=λl=>yb hfl h l
def tF{σ2:St}{cs:List (Bool×List ae)}{vs:List Value}{v:Value}{dst:Option Nat}(h:R w0 lab0 oo n σ2 E' a w')(hr:pm σ2 E' w' cs vs)(hv:j9 vs v)(hb:∀l,cs≠[(false,l)]\/∃c,l=[c])(hd:∀d,dst=some d->d<n) :
  R w0 lab0 oo n (tC σ2 dst (lu cs)) E' (a.put dst v) w':=by
 cases dst with
 |none=>exact h
 |some d=>exact R.put h (hd d rfl) (xZ hr hv hb)
def yl{p:Nat×Ty}{ss ss':List SV}{cs:List ae}(h:mP V (some p) ss=some (cs,ss')):∃b,ss=.c (.box b 0)::ss'/\V.box b=some (p.1,cs)/\p.1<bM:=by
 cases ss with
 |nil=>cases h
 |cons s ss =>
  cases s with
  |agg l=>cases h
  |tup l=>cases h
  |c x =>
   cases x with
   |box b f =>
    cases f with
    |succ f=>cases h
    |zero =>
     simp only[mP]at h;split at h
     ·rename_i te' cs' hb;cases hte:(Nat.beq te' p.1&&Nat.blt te' bM);·rw[hte]at h;cases h
      ·rw[hte]at h;simp only[cond_true,Option.some.injEq,Prod.mk.injEq]at h;obtain⟨rfl,rfl⟩:=h;simp only[Bool.and_eq_true]at hte;have e1:=Nat.eq_of_beq_eq_true hte.1;exact⟨b,rfl,by rw[hb,e1],by rw[<-e1];simpa using hte.2⟩
     ·cases h
   |_=>cases h
def FX{f:Nat}{en:fe}(hΓ:tz P w0 lab0 f en)(h:R w0 lab0 oo n V E a w){ss:List SV}{args:Array Value}(hs:ai (aF V E w) ss args.toList){X:cg en.rf×an en.ps}(hin:tA en V ss=some (qs,X))
  (hpre:bS en.pre X=true) {dst:Option Nat} (hd:∀d,dst=some d->d<n) (hfl:∀p∈en.rs,p.agg=false->p.t.nc=1) (hout:pv en V dst ss qs (en.val X)=some V') :
  cB P f args w λe w'=>∃v E',e=.returned v/\R w0 lab0 oo n V' E' (a.put dst v) w':=by
 obtain⟨rf,ps,rs,pre,val⟩:=en;unfold tA at hin;split at hin
 ·rename_i cs ss' hrf;simp only at hin;cases hnb:cY (aA (cs++dg ps ss'));·rw[hnb]at hin;cases hin
  rw[hnb]at hin;simp only[cond_true]at hin;split at hin
  ·rename_i X' hX;injection hin with hin;injection hin with hq hx;subst hx;obtain⟨g1,g2⟩:=dx hX;have hnd:=gq hnb;rw[fy]at hnd;obtain⟨n1,n2,n3⟩:=List.nodup_append.1 hnd;rw[hq]at g2;have hq2:∀q,q∈qs↔q∈aA cs\/q∈aA (dg ps ss'):=λq=>by rw[<-hq,fy];exact List.mem_append
   cases rf with
   |none =>
    simp only[mP,Option.some.injEq,Prod.mk.injEq]at hrf;obtain⟨rfl,rfl⟩:=hrf;obtain⟨L,i1,i2,i3,i4⟩:=lA h g2 hs n2;have hL:∀k,d7 E.lab qs (λ_=>False) k->k∉L:=λk hk hkL=>by obtain⟨q,q1,q2⟩:=i3 k hkL;exact hk.1 q ((hq2 q).2 (.inr q1)) q2
    have hL2:∀k,gt E.lab qs k->k∉L:=λk hk=>hL k (lB hk);refine cB.mono (hΓ w args L X' (i1.mono hL2) i2 i4 hpre (λk hk hl=>(h.same.old k hk hl).2) (λk hkL hq=>hL k (kj (h.same.old k hq.1 hq.2).1) hkL)) ?_;rintro e w' ⟨v,vs,Lf,Lr,rfl,A⟩
    have hLf:Lf=[]:=A.ref;subst hLf;unfold pv at hout;simp only[tB]at hout;split at hout
    ·rename_i look hadd;injection hout with hout;subst hout;obtain⟨E',hR,hRes⟩:=yj (B:=λ_=>False) (C1:=λ_ _=>True) (r1:=[]) (d:=cN dst) h hL A.nodup A.fresh ⟨A.os,A.tape,A.output⟩ A.size A.old ⟨λ_=>.st,λ_=>undef,(λp hp=>by cases hp),λ_ _ _ _ _=>⟨trivial,λp hp=>by cases hp⟩⟩
      A.res (cs:=(ce (cN dst) rs (val X').2 0).1) (r2:=(ce (cN dst) rs (val X').2 0).2.1) (j2:=(ce (cN dst) rs (val X').2 0).2.2) rfl hadd (bx:=λb=>lz qs (V.box b)) (λb te cs hb=>.inl ⟨λhf=>hf,yk hb⟩) (λb te cs hb=>⟨cs.map (dy qs),by simp only[hb,lz],by simp⟩) (λb hf=>hf.elim)
     exact⟨v,E',rfl,tF hR hRes A.ret (tE hfl (j':=(ce (cN dst) rs (val X').2 0).2.2) rfl) hd⟩
    ·cases hout
   |some p =>
    obtain⟨te,t⟩:=p;obtain⟨b,hss,hbox,htb⟩:=yl hrf;subst hss;match hal:args.toList,hs with
    |[],hs=>exact hs.elim
    |v0::vs0,hs =>
    obtain⟨hv0,hs⟩:=hs;obtain⟨hv0,_⟩:=(show aj V E w (.box b 0) v0 from hv0);obtain⟨arr,k1,k2,k3,k4⟩:=h.boxes b te cs hbox;have k1:=k1.cells htb;obtain⟨L1,o1,o2,o3⟩:=fA h (show cW V.row t cs=some X'.1 from g1) k3 n1;obtain⟨L2,i1,i2,i3,i4⟩:=lA h g2 hs n2;have hlt:=(Array.getElem?_eq_some_iff.1 k1).1;have hg1:E.bb b∉L1++L2:=λhm=>by
     rcases List.mem_append.1 hm with hm|hm;·obtain⟨q,_,hq'⟩:=o3 _ hm;rcases hq' with hq'|hq'<;>rw[k2]at hq'<;>cases hq'
     ·obtain⟨q,_,hq'⟩:=i3 _ hm;rcases hq' with hq'|hq'<;>rw[k2]at hq'<;>cases hq'
    have hL:∀k,d7 E.lab qs (λb'=>b'=b) k->k∉E.bb b::(L1++L2):=λk hk hkL=>by
     rcases List.mem_cons.1 hkL with rfl|hkL;·exact hk.2 b rfl k2
     rcases List.mem_append.1 hkL with hkL|hkL;·obtain⟨q,q1,q2⟩:=o3 k hkL;exact hk.1 q ((hq2 q).2 (.inl q1)) q2
     ·obtain⟨q,q1,q2⟩:=i3 k hkL;exact hk.1 q ((hq2 q).2 (.inr q1)) q2
    have hL2:∀k,gt E.lab qs k->k∉E.bb b::(L1++L2):=λk hk=>hL k (lB hk);have hnd12:(L1++L2).Nodup:=List.nodup_append.2 ⟨o2,i2,λx hx y hy e=>by subst e;obtain⟨q,q1,q2⟩:=o3 x hx;obtain⟨q',q1',q2'⟩:=i3 x hy;exact n3 q q1 q' q1' (ii q2 q2')⟩;refine cB.mono (hΓ w args (E.bb b::(L1++L2)) X' ?_ (List.nodup_cons.2 ⟨hg1,hnd12⟩) (λk hk=>?_) hpre (λk hk hl=>(h.same.old k hk hl).2) (λk hkL hq=>hL k (kj (h.same.old k hq.1 hq.2).1) hkL)) ?_;·rw[hal];exact⟨E.bb b,L1,L2,rfl,⟨hv0,arr,k1,k4,o1⟩,i1.mono hL2⟩
    ·rcases List.mem_cons.1 hk with rfl|hk;·exact hlt
     rcases List.mem_append.1 hk with hk|hk;·exact o1.lt k hk
     ·exact i4 k hk
    rintro e w' ⟨v,vs,Lf,Lr,rfl,A⟩
    have Aref:=A.ref;have Ang:=A.notg (E.bb b) (te,t) rfl (by rw[hal,hv0];rfl);rw[hal]at Aref;obtain⟨g,⟨hvg,arr',m1,m2,m3⟩,_⟩:=(Aref:∃g,tw w' te t v0 (val X').1 g Lf/\g∉Lf);have hgb:g=E.bb b:=by rw[hv0]at hvg;injection hvg with hvg;injection hvg with hvg;injection hvg with hvg;exact hvg.symm
    subst hgb;have hlen:(aE (cN dst) t (val X').1 0).1.length=cs.length:=by rw[mO];have:=k3.len;have:=o1.len;have hl:cs.length=arr.toList.length:=k3.len;omega
    unfold pv at hout;simp only[tB]at hout;split at hout
    ·rename_i look hadd;injection hout with hout;subst hout;obtain⟨E',hR,hRes⟩:=yj (B:=λb'=>b'=b) (C1:=λσ2 E2=>ai (aj σ2 E2 w') (aE (cN dst) t (val X').1 0).1 arr'.toList) (r1:=(aE (cN dst) t (val X').1 0).2.1) (j1:=(aE (cN dst) t (val X').1 0).2.2) (d:=cN dst)
      h hL A.nodup A.fresh ⟨A.os,A.tape,A.output⟩ A.size A.old (by obtain⟨f1,v1,q1,q2⟩:=ke (cN dst) (j:=0) m3 (List.nodup_append.1 A.nodup).2.1;refine⟨f1,v1,λp hp=>?_,q2⟩;obtain⟨i,_,j1,j2⟩:=(fC (cN dst)).2 p hp;exact⟨i,j1,j2⟩)
      A.res (cs:=(ce (cN dst) rs (val X').2 (aE (cN dst) t (val X').1 0).2.2).1) (r2:=(ce (cN dst) rs (val X').2 (aE (cN dst) t (val X').1 0).2.2).2.1) (j2:=(ce (cN dst) rs (val X').2 (aE (cN dst) t (val X').1 0).2.2).2.2) rfl hadd (bx:=am (λb=>lz qs (V.box b)) b (some (te,(aE (cN dst) t (val X').1 0).1)))
      (λb' te' cs' hb'=>by
       by_cases e:b'=b;·subst e;rw[aQ]at hb';injection hb' with hb';injection hb' with e1 e2;subst e1 e2;exact .inr ⟨⟨_,hbox⟩,rfl,λσ2 E2 hC hbb hlab=>⟨arr',.inl ⟨htb,by rw[hbb];exact m1⟩,by rw[hbb,hlab];exact k2,hC,m2⟩⟩
       ·rw[aX _ _ e]at hb';exact .inl ⟨e,yk hb'⟩)
      (λb' te' cs' hb'=>by
       by_cases e:b'=b;·subst e;rw[hbox]at hb';injection hb' with hb';injection hb' with e1 e2;subst e1 e2;exact⟨_,aQ _ _ _,hlen⟩
       ·exact⟨cs'.map (dy qs),by rw[aX _ _ e,hb'];rfl,by simp⟩)
      (λb' hb' _=>by subst hb';exact Ang)
     exact⟨v,E',rfl,tF hR hRes A.ret (tE hfl (j':=(ce (cN dst) rs (val X').2 (aE (cN dst) t (val X').1 0).2.2).2.2) rfl) hd⟩
    ·cases hout
  ·cases hin
 ·cases hin
end
structure cO where
 te:Nat
 fx:List (Nat×Ty)
 t:Ty
def cP:List (Nat×Ty)->Type
 |[]=>Unit
 |p::l=>List p.2.den×cP l
def gv(w:World)(S:Nat->Prop):(l:List (Nat×Ty))->List Value->cP l->Prop
 |[],[],_=>True
 |p::l,v::vs,x=>Rd w S (.sl p.1 p.2) [v] x.1/\gv w S l vs x.2
 |[],_::_,_=>False
 |_::_,[],_=>False
def fG:Bool->List PT->Type
 |true,ps=>cA ps
 |false,_=>Unit
structure dM where
 k:cO
 ps:List PT
 back:Bool
 rs:List PT
 pre:Option ((cP k.fx×k.t.den)×an ps->Bool)
 val:(cP k.fx×k.t.den)×an ps->k.t.den×(fG back ps×an rs)
def FY(w:World)(S:Nat->Prop)(k:cO)(v:Value)(lit:List Value)(x:cP k.fx×k.t.den)(g:Nat):Prop :=
 v=.pointer (some ⟨g,0,none⟩)/\∃(arr:Array Value) (cm:List Value),w.heap[g]? = some (.cells arr k.te (0,0))/\(∀u∈arr.toList,u.oneCell'=true)/\arr.toList=lit++cm/\gv w S k.fx lit x.1/\az w k.t [] cm x.2
def ym(w:World)(k:cO)(lit:List Value)(y:k.t.den)(g:Nat):Prop :=
 ∃(arr:Array Value) (cm:List Value),w.heap[g]? = some (.cells arr k.te (0,0))/\(∀u∈arr.toList,u.oneCell'=true)/\arr.toList=lit++cm/\az w k.t [] cm y
def tG(w:World)(S:Nat->Prop)(k:cO)(ps:List PT)(args:List Value)(X:(cP k.fx×k.t.den)×an ps)(lit:List Value)(g:Nat)(L:List Nat):Prop :=
 ∃v0 vs,args=v0::vs/\FY w S k v0 lit X.1 g/\da w S ps vs X.2 L
def px(w:World)(L:List Nat):(back:Bool)->(ps:List PT)->List Value->fG back ps->Prop
 |true,ps,vs,y=>iR w L ps vs y
 |false,_,_,_=>L=[]
structure tH[DC](w:World)(en:dM)(args:List Value)(lit:List Value)(g:Nat)(L:List Nat)(Y:en.k.t.den×(fG en.back en.ps×an en.rs))(v:Value)(w':World)(vs:List Value)(Lb Lr:List Nat):Prop where
 ret:j9 vs v
 res:j8 w' en.rs vs Y.2.2 Lr
 ref:ym w' en.k lit Y.1 g
 io:px w' Lb en.back en.ps args.tail Y.2.1
 nodup:(Lr++Lb).Nodup
 fresh:∀k∈Lr++Lb,k∈L\/w.heap.size<=k
 os:w'.os=w.os
 tape:Tp w w'
 output:w'.output=w.output
 size:w.heap.size<=w'.heap.size
 old:∀k,k<w.heap.size->k∉g::L->w'.heap[k]? = w.heap[k]?
def db[DC](P:Program)[Inv P](f:Nat)(en:dM):Prop :=
 ∀(w:World) (args:Array Value) (L:List Nat) (g:Nat) (lit:List Value) (X:(cP en.k.fx×en.k.t.den)×an en.ps),tG w (λk=>k∉g::L) en.k en.ps args.toList X lit g L->(g::L).Nodup->(∀k∈g::L,k<w.heap.size)->bS en.pre X=true ->
  Inv.I P w->(∀k∈g::L,¬ Inv.B P k)->cB P f args w λe w'=>∃v vs Lb Lr,e=.returned v/\tH w en args.toList lit g L (en.val X) v w' vs Lb Lr
def tJ[DC](P:Program)(w0:World)(lab0:Nat->aw)(f:Nat)(en:dM):Prop :=
 ∀(w:World) (args:Array Value) (L:List Nat) (g:Nat) (lit:List Value) (X:(cP en.k.fx×en.k.t.den)×an en.ps),tG w (λk=>k∉g::L) en.k en.ps args.toList X lit g L->(g::L).Nodup->(∀k∈g::L,k<w.heap.size)->bS en.pre X=true ->
  (∀k,k<w0.heap.size->lab0 k=.st->w.heap[k]? = w0.heap[k]?)->(∀k∈g::L,¬ (k<w0.heap.size/\lab0 k=.st))->cB P f args w λe w'=>∃v vs Lb Lr,e=.returned v/\tH w en args.toList lit g L (en.val X) v w' vs Lb Lr
def db.at[DC]{P:Program}[Inv P]{f:Nat}{en:dM}(h:db P f en){w0:World}{lab0:Nat->aw}(hI:Inv.I P w0)(hB:∀k,Inv.B P k->lab0 k=.st):tJ P w0 lab0 f en :=
 λw args L g lit X h1 h2 h3 h4 h6 h7=>h w args L g lit X h1 h2 h3 h4 (Inv.keep w0 w (λk hk=>h6 k (Inv.lt w0 k hI hk) (hB k hk)) hI) λk hk hb=>h7 k hk ⟨Inv.lt w0 k hI hb,hB k hb⟩
structure gw where
 k:cO
 ps:List PT
 pre:Option (an ps->Bool)
 val:an ps->k.t.den
structure tK[DC](w:World)(en:gw)(args:List Value)(Y:en.k.t.den)(v:Value)(w':World)(g:Nat):Prop where
 ret:v=.pointer (some ⟨g,0,none⟩)
 new:w.heap.size<=g
 ref:ym w' en.k (args.take en.k.fx.length) Y g
 os:w'.os=w.os
 tape:Tp w w'
 output:w'.output=w.output
 size:w.heap.size<=w'.heap.size
 old:∀k,k<w.heap.size->w'.heap[k]? = w.heap[k]?
def iT[DC](P:Program)[Inv P](f:Nat)(en:gw):Prop :=
 ∀(w:World) (args:Array Value) (X:an en.ps),da w (λ_=>True) en.ps args.toList X []->bS en.pre X=true->Inv.I P w->cB P f args w λe w'=>∃v g,e=.returned v/\tK w en args.toList (en.val X) v w' g
def tL[DC](P:Program)(w0:World)(lab0:Nat->aw)(f:Nat)(en:gw):Prop :=
 ∀(w:World) (args:Array Value) (X:an en.ps),da w (λ_=>True) en.ps args.toList X []->bS en.pre X=true->(∀k,k<w0.heap.size->lab0 k=.st->w.heap[k]? = w0.heap[k]?)->cB P f args w λe w'=>∃v g,e=.returned v/\tK w en args.toList (en.val X) v w' g
def iT.at[DC]{P:Program}[Inv P]{f:Nat}{en:gw}(h:iT P f en){w0:World}{lab0:Nat->aw}(hI:Inv.I P w0)(hB:∀k,Inv.B P k->lab0 k=.st):tL P w0 lab0 f en :=
 λw args X h1 h2 h3=>h w args X h1 h2 (Inv.keep w0 w (λk hk=>h3 k (Inv.lt w0 k hI hk) (hB k hk)) hI)
def mQ(bad:List Nat)(look:Nat->Option ac):(l:List (Nat×Ty))->List ae->Option (cP l)
 |[],[]=>some ()
 |p::l,c::cs=>dw (pc bad look p.1 p.2 [c]) (mQ bad look l cs)
 |[],_::_=>none
 |_::_,[]=>none
def tN(en:dM)(V:St)(ss:List SV):Option (List Nat×((cP en.k.fx×en.k.t.den)×an en.ps)) :=
 match mP V (some (en.k.te,en.k.t)) ss with
 |some (cs,ss')=>cond (de en.ps&&(cY (aA (dg en.ps ss'))&&(aA (cs.drop en.k.fx.length)).isEmpty))
  (match dw (dw (mQ (aA (dg en.ps ss')) V.row en.k.fx (cs.take en.k.fx.length)) (cW V.row en.k.t (cs.drop en.k.fx.length))) (fD (aA (dg en.ps ss')) V.row en.ps ss')with
   |some X=>some (aA (dg en.ps ss'),X)
   |none=>none) none
 |none=>none
def dropK:Bool->List Nat->ae->ae
 |true,qs=>eD qs
 |false,qs=>dy qs
def iU(f:ae->ae)(qs:List Nat)(V:St):St:=match qs with
 |[]=>V
 |_::_=>V.mapc f
def py(k:cO)(ss:List SV)(y:k.t.den)(bx:Nat->Option (Nat×List ae)):Nat->Option (Nat×List ae):=match ss with
 |.c (.box b 0)::_=>match bx b with
  |some (te,cs)=>am bx b (some (te,cs.take k.fx.length++dm k.t y none))
  |none=>bx
 |_=>bx
def yn:(back:Bool)->(ps:List PT)->List SV->fG back ps->List Nat->(Nat->Option ac)->Option (Nat->Option ac)
 |true,ps,ss,y,_,look=>lv ps ss y look
 |false,_,_,_,[],look=>some look
 |false,_,_,_,q::qs,look=>some λr=>cond (bk r (q::qs)) none (look r)
def tO(en:dM)(V:St)(dst:Option Nat)(ss:List SV)(qs:List Nat)(Y:en.k.t.den×(fG en.back en.ps×an en.rs)):Option St :=
 match yn en.back en.ps ss.tail Y.2.1 qs V.row with
 |some look=>match ce (cN dst) en.rs Y.2.2 0 with
  | (cs,rows,_)=>match kf rows look with
   |some look2=>some (tC ⟨(iU (dropK en.back qs) qs V).slot,py en.k ss Y.1 (iU (dropK en.back qs) qs V).box,look2⟩ dst (lu cs))
   |none=>none
 |none=>none
def tP(en:gw)(V:St)(ss:List SV):Option (an en.ps):=cond (bQ en.ps&&Nat.blt en.k.te bM) (fD [] V.row en.ps ss) none
def firstCells:Nat->List SV->Option (List ae)
 |0,_=>some []
 |m+1,.c c::ss=>match firstCells m ss with
  |some cs=>some (c::cs)
  |none=>none
 |_+1,_=>none
def tQ(en:gw)(V:St)(dst:Option Nat)(ss:List SV)(Y:en.k.t.den):Option St :=
 match dst,firstCells en.k.fx.length ss with
 |some d,some cs=>match V.box d with
  |none=>some ⟨am V.slot d (.c (.box d 0)),am V.box d (some (en.k.te,cs++dm en.k.t Y none)),V.row⟩
  |some _=>none
 |_,_=>none
section
variable {P : Program} {V V' : St} {E E' : aH} {w w' : World} {w0 : World} {lab0 : Nat → aw} {oo : Nat → Value} {n : Nat} {a : Act} {qs : List Nat} [DC]
def FZ:∀c:ae,dy [] c=c
 |.mp _=>rfl
 |.mset _ _=>rfl
 |.own _=>rfl
 |.part _ _ _=>rfl
 |.elt _ _ _=>rfl
 |.sn _ _ _ (some _)=>rfl
 |.full _ _ _ (some _)=>rfl
 |.selt _ _ (some _) _=>rfl
 |.sn _ _ _ none=>rfl
 |.full _ _ _ none=>rfl
 |.selt _ _ none _=>rfl
 |.undef=>rfl
 |.int _ _=>rfl
 |.bool _=>rfl
 |.str _=>rfl
 |.err _=>rfl
 |.nil=>rfl
 |.box _ _=>rfl
 |.fn _ _=>rfl
 |.bor _ _ _ _=>rfl
def yo(back:Bool)(c:ae):dropK back [] c=c:=by
 cases back;·exact FZ c
 ·exact tr c
def F0(back:Bool)(V:St)(t:Nat):(iU (dropK back qs) qs V).slot t=(V.slot t).map (dropK back qs):=by
 cases qs with
 |nil=>exact(SV.map_id (yo back) _).symm
 |cons q qs=>rfl
def tR(back:Bool)(V:St)(b:Nat):(iU (dropK back qs) qs V).box b=match V.box b with|some (te,cs)=>some (te,cs.map (dropK back qs))|none=>none:=by
 cases qs with
 |nil =>
  show V.box b=_;cases V.box b with
  |none=>rfl
  |some p=>simp only[pt (yo back)]
 |cons q qs=>rfl
section
variable {B : Nat → Prop}
def aj.backed(hk:∀k,k<w.heap.size->d7 E.lab qs B k->w'.heap[k]? = w.heap[k]?/\E'.lab k=E.lab k)
  (hrow:∀r row,V.row r=some row->∃row',V'.row r=some row'/\E'.rv r=E.rv r/\row'.t.nc=row.t.nc/\row.xs.length<=row'.xs.length)
  (hbox:∀b te cs,V.box b=some (te,cs)->∃cs',V'.box b=some (te,cs')/\cs'.length=cs.length) (hbb:E'.bb=E.bb)
  {c:ae}{v:Value} (h:aj V E w c v):aj V' E' w' (eD qs c) v:=by
 have hm:=aj.moved (V':=V') (E':=E') (w':=w') hk (λr row _ hr=>hrow r row hr) hbox hbb h;cases c with
 |own r =>obtain⟨rfl,h1,h2⟩:=h;obtain⟨row,hr⟩:=Option.isSome_iff_exists.1 h1;obtain⟨row',k1,k2,_⟩:=hrow r row hr;exact⟨k2.symm,by rw[k1];rfl,h2⟩
 |part r lo n =>obtain⟨row,A,c,h1,h2,h3,h4,h5,h6,h7,h8⟩:=h;obtain⟨row',g1,g2,g3,g4⟩:=hrow r row h1;refine⟨row',A,c,g1,h2,h3,by omega,h5,h6,h7,λhn=>?_⟩;rw[g2,g3];exact h8 hn
 |elt r i f =>obtain⟨row,g,n,c,h1,h2,h3,h4,h5,h6⟩:=h;obtain⟨row',g1,g2,g3,g4⟩:=hrow r row h1;exact⟨row',g,n,c,g1,by rw[g2];exact h2,h3,by omega,by rw[g3];exact h5,by rw[g3];exact h6⟩
 |_=>exact hm
def aj.dropK{back:Bool}(hk:∀k,k<w.heap.size->d7 E.lab qs B k->w'.heap[k]? = w.heap[k]?/\E'.lab k=E.lab k)
  (hrow:∀r row,(back=true\/r∉qs)->V.row r=some row->∃row',V'.row r=some row'/\E'.rv r=E.rv r/\row'.t.nc=row.t.nc/\row.xs.length<=row'.xs.length)
  (hbox:∀b te cs,V.box b=some (te,cs)->∃cs',V'.box b=some (te,cs')/\cs'.length=cs.length) (hbb:E'.bb=E.bb)
  {c:ae}{v:Value} (h:aj V E w c v):aj V' E' w' (Fw.dropK back qs c) v:=by
 cases back;·exact aj.moved hk (λr row hq=>hrow r row (.inr hq)) hbox hbb h
 ·exact aj.backed hk (λr row=>hrow r row (.inl rfl)) hbox hbb h
def R.step{f:ae->ae}(h:R w0 lab0 oo n V E a w)(hc:∀c v,aj V E w c v->aj V' E' w' (f c) v)(hk:∀k,k<w.heap.size->d7 E.lab qs B k->w'.heap[k]? = w.heap[k]?/\E'.lab k=E.lab k)
  (ho:w'.os=w.os/\Tp w w'/\w'.output=w.output) (hs:w.heap.size<=w'.heap.size) (hbb:E'.bb=E.bb) (hslot:∀t,V'.slot t=(V.slot t).map f)
  (hboxes:∀b te cs,V'.box b=some (te,cs)->(¬ B b/\∃cs0,V.box b=some (te,cs0)/\cs=cs0.map f)\/gO V' E' w' b te cs)
  (hrel:∀r row,V'.row r=some row->(r∉qs/\V.row r=some row/\E'.rv r=E.rv r)\/bJ w' E'.lab r row (E'.rv r)) :
  R w0 lab0 oo n V' E' a w':=by
 refine⟨h.bound,h.size,h.defers,λt=>?_,λb te cs hb=>?_,λr row hr=>?_, ?_⟩;·rw[hslot];exact(h.slots t).mapl hc
 ·rcases hboxes b te cs hb with⟨hB,cs0,hb2,rfl⟩|hb2;·obtain⟨arr,k1,k2,k3,k4⟩:=h.boxes b _ _ hb2;have hlt:=k1.lt;have hsp:d7 E.lab qs B (E.bb b):=⟨λq _ hq=>(by rcases hq with hq|hq<;>rw[k2]at hq<;>cases hq),λb' hB' hb'=>by rw[k2]at hb';injection hb' with hb';subst hb';exact hB hB'⟩;obtain⟨j1,j2⟩:=hk _ hlt hsp;exact⟨arr,by rw[hbb,j1];exact k1,by rw[hbb,j2];exact k2,k3.mapl hc,k4⟩
  ·exact hb2
 ·rcases hrel r row hr with⟨h1,h2,h3⟩|h2;·rw[h3];exact(h.rows r row h2).moved hk h1
  ·exact h2
 ·refine⟨ho.1.trans h.same.os,ho.2.1.trans h.same.tape,ho.2.2.trans h.same.output,Nat.le_trans h.same.size hs,λk hk' hl=>?_,λk hk' hl=>?_⟩;·obtain⟨g1,g2⟩:=h.same.old k hk' hl;obtain⟨j1,j2⟩:=hk k (Nat.lt_of_lt_of_le hk' h.same.size) (kj g1);exact⟨by rw[j2];exact g1,by rw[j1];exact g2⟩
  ·obtain⟨g1,g2⟩:=h.same.gone k hk' hl;obtain⟨j1,j2⟩:=hk k (Nat.lt_of_lt_of_le hk' h.same.size) (yh g1);exact⟨by rw[j2];exact g1,by rw[j1];exact g2⟩
end
def yp(h:R w0 lab0 oo n V E a w){bad:List Nat}:∀{l:List (Nat×Ty)}{cs:List ae}{us:List Value}{x:cP l},mQ bad V.row l cs=some x->ai (aj V E w) cs us->gv w (gt E.lab bad) l us x/\cs.length=l.length
 |[],[],[],_,_,_=>⟨trivial,rfl⟩
 |p::l,c::cs,u::us,x,hp,hc=>by simp only[mQ]at hp;obtain⟨g1,g2⟩:=dx hp;obtain⟨i1,i2⟩:=yp h g2 hc.2;exact⟨⟨xT h g1 (us:=[u]) ⟨hc.1,trivial⟩,i1⟩,by simp[i2]⟩
 |[],[],_::_,_,_,hc=>hc.elim
 |[],_::_,_,_,hp,_=>by cases hp
 |_::_,[],_,_,hp,_=>by cases hp
 |_::_,_::_,[],_,_,hc=>hc.elim
def gv.mono{S S':Nat->Prop}(h:∀k,S k->S' k):∀{l:List (Nat×Ty)}{vs:List Value}{x:cP l},gv w S l vs x->gv w S' l vs x
 |[],[],_,_=>trivial
 |p::l,v::vs,x,h'=>⟨h'.1.mono h,h'.2.mono h⟩
 |[],_::_,_,h'=>h'.elim
 |_::_,[],_,h'=>h'.elim
def gv.len{S:Nat->Prop}:∀{l:List (Nat×Ty)}{vs:List Value}{x:cP l},gv w S l vs x->vs.length=l.length
 |[],[],_,_=>rfl
 |p::l,v::vs,x,h'=>by simp[h'.2.len]
 |[],_::_,_,h'=>h'.elim
 |_::_,[],_,h'=>h'.elim
def pA:∀{ps:List PT}{ss:List SV},bQ ps=true->dg ps ss=[]
 |[],_,_=>by cases ‹List SV›<;>rfl
 |_::_,[],_=>rfl
 |p::ps,s::ss,h=>by simp only[bQ,List.all_cons,Bool.and_eq_true,Bool.not_eq_true']at h;simp only[dg,h.1,cond_false,List.nil_append];exact pA h.2
def tS:∀{ps:List PT}{ss:List SV},de ps=true->dg ps ss=ej ps ss
 |[],_,_=>by cases ‹List SV›<;>rfl
 |_::_,[],_=>rfl
 |p::ps,s::ss,h=>by
  simp only[de]at h;cases hio:p.io;·rw[hio]at h;simp only[dg,ej,hio,cond_false,List.nil_append];exact tS h
  ·rw[hio]at h;simp only[dg,ej,hio,cond_true,pA h,List.append_nil];all_goals rfl
def mR{t:Ty}{cm:List Value}{y:t.den}(h:az w' t [] cm y):ai (aj V' E' w') (dm t y none) cm :=
 jP (p:=none) (h.rd λk hk=>by cases hk)
def F1{f:Nat}{en:dM}(hΓ:tJ P w0 lab0 f en)(h:R w0 lab0 oo n V E a w){ss:List SV}{args:Array Value}(hs:ai (aF V E w) ss args.toList){X:(cP en.k.fx×en.k.t.den)×an en.ps}(hin:tN en V ss=some (qs,X))
  (hpre:bS en.pre X=true) {dst:Option Nat} (hd:∀d,dst=some d->d<n) (hfl:∀p∈en.rs,p.agg=false->p.t.nc=1) (hout:tO en V dst ss qs (en.val X)=some V') :
  cB P f args w λe w'=>∃v E',e=.returned v/\R w0 lab0 oo n V' E' (a.put dst v) w':=by
 obtain⟨⟨te,fx,t⟩,ps,back,rs,pre,val⟩:=en;unfold tN at hin;split at hin
 ·rename_i cs ss' hrf;simp only at hin;cases hnb:(de ps&&(cY (aA (dg ps ss'))&&(aA (cs.drop fx.length)).isEmpty));·rw[hnb]at hin;cases hin
  rw[hnb]at hin;simp only[Bool.and_eq_true,List.isEmpty_iff]at hnb;obtain⟨hone,hnb,hnone⟩:=hnb;simp only[cond_true]at hin;split at hin
  ·rename_i X' hX;injection hin with hin;injection hin with hq hx;subst hx;obtain⟨g12,g3⟩:=dx hX;obtain⟨g1,g2⟩:=dx g12;have hnd:=gq hnb;obtain⟨b,hss,hbox,htb⟩:=yl hrf;subst hss;match hal:args.toList,hs with
   |[],hs=>exact hs.elim
   |v0::vs0,hs =>
   obtain⟨hv0,hs⟩:=hs;obtain⟨hv0,_⟩:=(show aj V E w (.box b 0) v0 from hv0);obtain⟨arr,k1,k2,k3,k4⟩:=h.boxes b te cs hbox;have k1:=k1.cells htb;have k3a:=k3.take fx.length;have k3b:=k3.drop fx.length;obtain⟨r1,r2⟩:=yp h (show mQ _ V.row fx (cs.take fx.length)=some X'.1.1 from g1) k3a;obtain⟨L1,o1,o2,o3⟩:=fA h (show cW V.row t (cs.drop fx.length)=some X'.1.2 from g2) k3b (by rw[hnone];exact List.nodup_nil);have hL1:L1=[]:=by
    cases L1 with
    |nil=>rfl
    |cons x xs =>obtain⟨q,q1,_⟩:=o3 x List.mem_cons_self;rw[hnone]at q1;cases q1
   subst hL1;obtain⟨L,i1,i2,i3,i4⟩:=lA h (show fD _ V.row ps ss'=some X'.2 from g3) hs hnd;rw[hq]at i1 i3 r1;have hlt:=(Array.getElem?_eq_some_iff.1 k1).1;have hgL:E.bb b∉L:=λhm=>by obtain⟨q,_,hq'⟩:=i3 _ hm;rcases hq' with hq'|hq'<;>rw[k2]at hq'<;>cases hq'
   have hL:∀k,d7 E.lab qs (λb'=>b'=b) k->k∉E.bb b::L:=λk hk hkL=>by
    rcases List.mem_cons.1 hkL with rfl|hkL;·exact hk.2 b rfl k2
    ·obtain⟨q,q1,q2⟩:=i3 k hkL;exact hk.1 q q1 q2
   have hL2:∀k,gt E.lab qs k->k∉E.bb b::L:=λk hk=>hL k (lB hk);have hal0:arr.toList=arr.toList.take fx.length++arr.toList.drop fx.length:=(List.take_append_drop _ _).symm;refine cB.mono (hΓ w args L (E.bb b) (arr.toList.take fx.length) X' ?_ (List.nodup_cons.2 ⟨hgL,i2⟩) (λk hk=>?_) hpre (λk hk hl=>(h.same.old k hk hl).2) (λk hkL hq=>hL k (kj (h.same.old k hq.1 hq.2).1) hkL)) ?_;·exact⟨v0,vs0,hal,⟨hv0,arr,_,k1,k4,hal0,r1.mono hL2,o1⟩,i1.mono hL2⟩
   ·rcases List.mem_cons.1 hk with rfl|hk;·exact hlt
    ·exact i4 k hk
   rintro e w' ⟨v,vs,Lb,Lr,rfl,A⟩
   obtain⟨arr',cm',m1,m2,m3,m4⟩:=A.ref;have m1:w'.heap[E.bb b]? = some (.cells arr' te (0,0)):=m1;have m4:az w' t [] cm' (val X').1:=m4;obtain⟨nd1,nd2,nd3⟩:=List.nodup_append.1 A.nodup;unfold tO at hout;split at hout
   ·rename_i look hlook;have hlook:yn back ps ss' (val X').2.1 qs V.row=some look:=hlook;have hio:px w' Lb back ps vs0 (val X').2.1:=by have:=A.io;rw[hal]at this;exact this
    obtain⟨f1,W1,W2⟩:∃f1:Nat->aw,(∀r row,(back=true\/r∉qs)->V.row r=some row->∃row',look r=some row'/\row'.t.nc=row.t.nc/\row.xs.length<=row'.xs.length) /\
      ∀r row',look r=some row'->(r∉qs/\V.row r=some row')\/((∃row,V.row r=some row)/\∀lab2:Nat->aw,(∀k∈Lb,lab2 k=f1 k)->bJ w' lab2 r row' (E.rv r)):=by
     cases hbk:back
     ·subst hbk;have hkill:look=λr=>cond (bk r qs) none (V.row r):=by
       cases qs with
       |nil=>injection hlook with hlook;subst hlook;rfl
       |cons q qs=>injection hlook with hlook;exact hlook.symm
      subst hkill;refine⟨λ_=>.st,λr row hr hrow=>?_,λr row' hr=>?_⟩
      ·have hm:bk r qs=false:=by
        cases hm:bk r qs;·rfl
        ·exact absurd (fw.1 hm) (hr.resolve_left (by simp))
       exact⟨row,by simp only[hm,cond_false];exact hrow,rfl,Nat.le_refl _⟩
      ·have hr:cond (bk r qs) none (V.row r)=some row':=hr;cases hm:bk r qs;·rw[hm]at hr;exact .inl ⟨(λhx=>by rw[fw.2 hx]at hm;cases hm),hr⟩
       ·rw[hm]at hr;cases hr
     ·subst hbk;have hq':aA (ej ps ss')=qs:=by rw[<-tS hone];exact hq
      obtain⟨_,_,_,_,hW⟩:=xY h hone (by rw[<-tS hone];exact hnb) (by rw[hq',<-hq];exact g3) hs;obtain⟨f1,W⟩:=hW hlook hio nd2;rw[hq']at W;refine⟨f1,λr row _ hrow=>?_,λr row' hr=>?_⟩
      ·by_cases hm:r∈qs;·obtain⟨ro,row',w1,w2,w3,w4,_⟩:=W.row r hm;rw[hrow]at w1;injection w1 with w1;subst w1;exact⟨row',w2,by rw[w3],by omega⟩
       ·exact⟨row,by rw[W.other r hm];exact hrow,rfl,Nat.le_refl _⟩
      ·by_cases hm:r∈qs;·obtain⟨ro,row2,w1,w2,w3,w4,w5⟩:=W.row r hm;rw[hr]at w2;injection w2 with w2;subst w2;exact .inr ⟨⟨ro,w1⟩,w5⟩
       ·rw[W.other r hm]at hr;exact .inl ⟨hm,hr⟩
    split at hout;rename_i rcs rows j hres;split at hout
    ·rename_i look2 hadd;injection hout with hout;subst hout;obtain⟨f2,rvf,c1,c2⟩:=pp (cN dst) (j:=0) A.res nd1;have hres:ce (cN dst) rs (val X').2.2 0=(rcs,rows,j):=hres;rw[hres]at c1 c2;obtain⟨ad1,ad2⟩:=pk hadd
     classical
     let E':aH:=⟨λk=>if k∈Lr then f2 k else if k∈Lb then f1 k else E.lab k,λq=>if ∃p∈rows,p.1=q then rvf q else E.rv q,E.bb⟩;have hlr:∀k∈Lr,E'.lab k=f2 k:=λk hk=>if_pos hk;have hlb:∀k∈Lb,E'.lab k=f1 k:=λk hk=>(if_neg λh'=>nd3 k h' k hk rfl).trans (if_pos hk);have hlo:∀k,k∉Lr++Lb->E'.lab k=E.lab k:=λk hk=>(if_neg λh'=>hk (List.mem_append_left _ h')).trans (if_neg λh'=>hk (List.mem_append_right _ h'));have hrvo:∀q,(∀p∈rows,p.1≠q)->E'.rv q=E.rv q:=λq hq=>if_neg λ⟨p,h1,h2⟩=>hq p h1 h2;have hlne:∀q row,look q=some row->∀p∈rows,p.1≠q:=λq row hq p hp e=>by have:=(ad1 p hp).1;rw[e,hq]at this;cases this
     let σ2:St:=⟨(iU (dropK back qs) qs V).slot,py ⟨te,fx,t⟩ (.c (.box b 0)::ss') (val X').1 (iU (dropK back qs) qs V).box,look2⟩;have hbx:σ2.box=am (iU (dropK back qs) qs V).box b (some (te,(cs.map (dropK back qs)).take fx.length++dm t (val X').1 none)):=by show py (⟨te,fx,t⟩:cO) (.c (.box b 0)::ss') (val X').1 (iU (dropK back qs) qs V).box=_;simp only[py,tR,hbox]
     have hlen:((cs.map (dropK back qs)).take fx.length++dm t (val X').1 none).length=cs.length:=by have e1:=(mR (V':=V) (E':=E) m4).len;have e2:=m4.len;have e3:=o1.len;have e4:=k3b.len;have e5:=r2;simp only[List.length_append,List.length_take,List.length_map,List.length_drop]at e1 e2 e3 e4 e5 ⊢;omega
     have hbx2:∀b' te' cs',V.box b'=some (te',cs')->∃cs2,σ2.box b'=some (te',cs2)/\cs2.length=cs'.length:=by
      intro b' te' cs' hb';rw[hbx];by_cases e:b'=b;·subst e;rw[hbox]at hb';injection hb' with hb';injection hb' with e1 e2;subst e1 e2;exact⟨_,aQ _ _ _,hlen⟩
      ·exact⟨cs'.map (dropK back qs),by rw[aX _ _ e,tR,hb'],by simp⟩
     have hk:∀k,k<w.heap.size->d7 E.lab qs (λb'=>b'=b) k->w'.heap[k]? = w.heap[k]?/\E'.lab k=E.lab k:=λk hk hst=>by
      have hkL:=hL k hst;refine⟨A.old k hk hkL,hlo k λhm=>?_⟩;rcases A.fresh k hm with h1|h1;·exact hkL (List.mem_cons_of_mem _ h1)
      ·omega
     have hrow:∀r row,(back=true\/r∉qs)->V.row r=some row->∃row',σ2.row r=some row'/\E'.rv r=E.rv r/\row'.t.nc=row.t.nc/\row.xs.length<=row'.xs.length:=λr row hr hrow=>by obtain⟨row',q1,q2,q3⟩:=W1 r row hr hrow;exact⟨row',(ad2 r (hlne r row' q1)).trans q1,hrvo r (hlne r row' q1),q2,q3⟩
     have hc:∀c v,aj V E w c v->aj σ2 E' w' (dropK back qs c) v:=λc v h=>aj.dropK hk hrow hbx2 rfl h;have hgo:E'.lab (E.bb b)=.box b:=by
      rw[hlo (E.bb b) λhm=>?_];·exact k2
      ·rcases A.fresh _ hm with h1|h1;·exact hgL h1
       ·omega
     have hR:R w0 lab0 oo n σ2 E' a w':=by
      refine R.step (B:=λb'=>b'=b) (E':=E') (qs:=qs) (f:=dropK back qs) h hc hk ⟨A.os,A.tape,A.output⟩ A.size rfl (λt=>F0 back V t) (λb' te' cs' hb'=>?_) (λr row hr=>?_)
      ·rw[hbx]at hb';by_cases e:b'=b;·subst e;rw[aQ]at hb';injection hb' with hb';injection hb' with e1 e2;subst e1 e2;refine .inr ⟨arr',.inl ⟨htb,m1⟩,hgo, ?_,m2⟩;rw[m3,<-List.map_take];exact ai.app (k3a.mapl hc) (mR m4)
       ·rw[aX _ _ e,tR]at hb';split at hb';·rename_i te2 cs2 hb2;injection hb' with hb';injection hb' with e1 e2;subst e1 e2;exact .inl ⟨e,cs2,hb2,rfl⟩
        ·cases hb'
      ·by_cases hex:∃p∈rows,p.1=r;·obtain⟨p,hp,rfl⟩:=hex;have e2:=(ad1 p hp).2;rw[show look2 p.1=some row from hr]at e2;injection e2 with e2;subst e2;exact .inr ((c2 σ2 E' hlr (λp' hp'=>if_pos ⟨p',hp',rfl⟩) (λp' hp'=>(ad1 p' hp').2)).2 p hp)
       ·have hne:∀p∈rows,p.1≠r:=λp hp e=>hex ⟨p,hp,e⟩;have hr:look2 r=some row:=hr;rw[ad2 r hne]at hr;rcases W2 r row hr with⟨h1,h2⟩|⟨_,h2⟩;·exact .inl ⟨h1,h2,hrvo r hne⟩
        ·rw[hrvo r hne];exact .inr (h2 E'.lab hlb)
     exact⟨v,E',rfl,tF hR (c2 σ2 E' hlr (λp' hp'=>if_pos ⟨p',hp',rfl⟩) (λp' hp'=>(ad1 p' hp').2)).1 A.ret (tE hfl hres) hd⟩
    ·cases hout
   ·cases hout
  ·cases hin
 ·cases hin
def yq:∀{m:Nat}{ss:List SV}{vs:List Value}{cs:List ae},firstCells m ss=some cs->ai (aF V E w) ss vs->ai (aj V E w) cs (vs.take m)
 |0,ss,vs,cs,hc,hs=>by injection hc with hc;subst hc;rw[List.take_zero];trivial
 |m+1,[],vs,cs,hc,hs=>by cases hc
 |m+1,.agg _::ss,vs,cs,hc,hs=>by cases hc
 |m+1,.tup _::ss,vs,cs,hc,hs=>by cases hc
 |m+1,.c c::ss,[],cs,hc,hs=>hs.elim
 |m+1,.c c::ss,v::vs,cs,hc,hs=>by
  simp only[firstCells]at hc;split at hc;·rename_i cs' hc';injection hc with hc;subst hc;exact⟨hs.1,yq hc' hs.2⟩
  ·cases hc
def F2{f:Nat}{en:gw}(hΓ:tL P w0 lab0 f en)(h:R w0 lab0 oo n V E a w){ss:List SV}{args:Array Value}(hs:ai (aF V E w) ss args.toList){X:an en.ps}(hin:tP en V ss=some X)
  (hpre:bS en.pre X=true) {dst:Option Nat} (hd:∀d,dst=some d->d<n) (hout:tQ en V dst ss (en.val X)=some V') :
  cB P f args w λe w'=>∃v E',e=.returned v/\R w0 lab0 oo n V' E' (a.put dst v) w':=by
 obtain⟨⟨te,fx,t⟩,ps,pre,val⟩:=en;unfold tP at hin;simp only at hin;cases hnb:(bQ ps&&Nat.blt te bM);·rw[hnb]at hin;cases hin
 rw[hnb]at hin;simp only[cond_true]at hin;simp only[Bool.and_eq_true]at hnb;have hno:=hnb.1;have htb:te<bM:=by simpa using hnb.2
 obtain⟨L,i1,i2,i3,i4⟩:=lA h hin hs (by rw[pA hno];exact List.nodup_nil);have hL:L=[]:=by
  cases L with
  |nil=>rfl
  |cons x xs =>obtain⟨q,q1,_⟩:=i3 x List.mem_cons_self;rw[pA hno]at q1;cases q1
 subst hL;refine cB.mono (hΓ w args X (i1.mono λ_ _=>trivial) hpre (λk hk hl=>(h.same.old k hk hl).2)) ?_;rintro e w' ⟨v,g,rfl,A⟩
 unfold tQ at hout;split at hout
 ·rename_i d cs hcs;have hcs:firstCells fx.length ss=some cs:=hcs;split at hout
  ·rename_i hfree;injection hout with hout;subst hout;obtain⟨arr,cm,m1,m2,m3,m4⟩:=A.ref;have m1:w'.heap[g]? = some (.cells arr te (0,0)):=m1;have m3:arr.toList=args.toList.take fx.length++cm:=m3;have m4:az w' t [] cm (val X):=m4;have hg:=A.new;let E':aH:={ lab:=am E.lab g (.box d),rv:=E.rv,bb:=am E.bb d g };let σ1:St:={ slot:=V.slot,box:=am V.box d (some (te,cs++dm t (val X) none)),row:=V.row };have hb:∀k,k<w.heap.size->w'.heap[k]? = w.heap[k]?/\E'.lab k=E.lab k:=λk hk=>⟨A.old k hk,aX _ _ (by omega)⟩;have m:b8 V E w σ1 E' w':=b8.grow hb (λr row hr=>⟨row,hr,rfl,rfl,Nat.le_refl _⟩)
    (λb te' cs' hq=>by
     have hne:b≠d:=λe=>by rw[e,hfree]at hq;cases hq
     exact⟨te',cs',(aX _ _ hne).trans hq,aX _ _ hne,rfl⟩)
   have hR:R w0 lab0 oo n σ1 E' a w':=by
    refine h.grow (E':=E') hb ⟨A.os,A.tape,A.output⟩ A.size rfl (λr row hr=>.inl ⟨hr,rfl⟩) (λ_ _ h=>h) (λb te' cs' hq=>?_) (λb x hq=>?_)
    ·by_cases e:b=d
     ·subst e;rw[show σ1.box b=some (te,cs++dm t (val X) none)from aQ _ _ _]at hq;injection hq with hq;injection hq with e1 e2;subst e1 e2;refine .inr ⟨hfree,arr, ?_, ?_, ?_,m2⟩;·show gN te arr w'.heap[am E.bb b g b]?;rw[aQ];exact .inl ⟨htb,m1⟩
      ·show am E.lab g (.box b) (am E.bb b g b)=_;rw[aQ,aQ]
      ·rw[m3];exact ai.app ((yq hcs hs).imp λ_ _ h=>h.move m) (mR m4)
     ·exact .inl ⟨(aX _ _ e).symm.trans hq,aX _ _ e⟩
    ·have hne:b≠d:=λe=>by rw[e,hfree]at hq;cases hq
     exact(aX _ _ hne).trans hq
   refine⟨v,E',rfl,hR.put (hd d rfl) (s:=.c (.box d 0)) ⟨?_,te,cs++dm t (val X) none,aQ _ _ _, ?_⟩⟩;·show _=Value.pointer (some ⟨am E.bb d g d,0,none⟩);rw[aQ];exact A.ret
   ·have e1:=(mR (V':=V) (E':=E) m4).len;have e2:=m4.len;have:=t.nc_pos;rw[List.length_append];omega
  ·cases hout
 ·cases hout
end
structure ko where
 ps:List PT
 e:Nat
 t:Ty
 pre:Option (an ps->Bool)
 val:an ps->List t.den
def mS:(ps:List PT)->List SV->Option (an ps)
 |[],[]=>some ()
 |⟨t,false,false⟩::ps,.c c::ss=>dw (fu t [c]) (mS ps ss)
 |⟨t,true,false⟩::ps,.agg cs::ss=>dw (fu t cs) (mS ps ss)
 |_,_=>none
def tT(en:ko)(V:St)(dst:Option Nat)(Y:List en.t.den):Option St:=match dst with
 |some d=>match V.row (aN d 0)with
  |none=>some ⟨am V.slot d (.c (.own (aN d 0))),V.box,am V.row (aN d 0) (some ⟨en.e,en.t,Y,false,false⟩)⟩
  |some _=>none
 |none=>none
end Go.Fw
