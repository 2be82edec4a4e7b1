/- The framework: what a symbolic run of the model's code tells, proved sound. Nothing is assumed. -/
import Derived.Test.YtakkbbpdfmkbnaaFwb
set_option linter.defProp false
set_option linter.unusedVariables false
set_option linter.unusedSectionVars false
set_option linter.unusedSimpArgs false
namespace Go.Fw
open Go.RowKit
structure Gm where
 g:Nat->Option aW
 m:Nat->Option fe
 v:Nat->Option dM
 n:Nat->Option gw
 s:Nat->Option ko
def iV:Op->Option (Operand×Operand×Operand)
 |.pick c x y=>some (c,x,y)
 |_=>none
def mT:Op->Option (Nat×List Operand)
 |.call { callee:=.value (.func f),args:=args,argTypes:=_ }=>some (f,args.toList)
 |_=>none
def mU(V:St):Op->Option (Nat×List Operand)
 |.call { callee:=.value x,args:=args,argTypes:=_ }=>match ev V x with
  |.c (.fn f [])=>some (f,args.toList)
  |_=>none
 |_=>none
noncomputable def bC{J:Type}(a b:Option J):Option J:=by classical exact if a=b then a else none
@[reducible] noncomputable def bo{J:Type}(a:Option J):Option J:=bC a a
def yu{J:Type}{a b:Option J}{r:J}(h:bC a b=some r):a=some r/\b=some r:=by
 unfold bC at h;split at h;·rename_i e;exact⟨h,e▸h⟩
 ·cases h
def eE{J:Type}(a:Option J):bC a a=a:=by unfold bC;exact if_pos rfl
noncomputable def tV{J:Type}(step:Nat->Option J):List Nat->Option J
 |[]=>none
 |[i]=>step i
 |i::j::is=>bC (step i) (tV step (j::is))
def yv{J:Type}{step:Nat->Option J}{r:J}:∀{is:List Nat},tV step is=some r->∀i∈is,step i=some r
 |[],h,_,_=>by cases h
 |[i],h,j,hj=>by obtain rfl:=List.mem_singleton.1 hj;exact h
 |i::j::is,h,k,hk=>by
  obtain⟨h1,h2⟩:=yu h;rcases List.mem_cons.1 hk with rfl|hk;·exact h1
  ·exact yv h2 k hk
def yw:BinOp->Bool
 |.eql=>true
 |.neq=>true
 |_=>false
def mV(T:aY)(V:St):Op->Bool
 |.binOp op t x y _=>yw op&&(match T t,ev V x,ev V y with
  |some ti,.c (.sn _ _ _ _),.c .nil=>ti.el.isSome
  |some ti,.c (.own r),.c .nil=>ti.el.isSome&&(match V.row r with
   |some row=>!row.nilE
   |none=>false)
  |_,_,_=>false)
 |_=>false
structure cR where
 d:Nat
 r:Nat
 i:Int
 f:Nat
 el:Option (Nat×Int)
def pD(T:aY)(V:St)(o:Oper):Option cR:=match o.guard,o.op,o.dst with
 |none,.load t x,some d=>match ev V x with
  |.c (.elt r i f)=>match V.row r,T t with
   |some row,some ti=>cond (row.deep&&(ti.el.isSome&&!ti.agg)) (some ⟨d,r,i,f,none⟩) none
   |_,_=>none
  |_=>none
 |_,_,_=>none
inductive F3 where
 |no
 |still (p:cR)
 |sub (p:cR) (f:Nat) (args:List Operand)
 |put (p:cR) (e:Nat) (k:Int) (t:Nat) (x:Operand)
def mW(d:Nat):Option Operand->Bool
 |some (.tmp e)=>Nat.beq e d&&Nat.blt d 100000
 |_=>false
def gy(d:Nat):Option Nat->Bool
 |some e=>!(Nat.beq e d)
 |none=>true
def tW(T:aY)(V:St)(p:cR)(op:Op)(dst:Option Nat):Option cR:=none
def tX(p:cR)(op:Op)(dst:Option Nat):Option (Nat×Int×Nat×Operand):=match op,dst,p.el with
 |.store t (.tmp e') x,none,some (e,k)=>cond (Nat.beq e' e&&(Nat.blt e 100000&&Nat.blt p.d 100000)) (some (e,k,t,x)) none
 |_,_,_=>none
def iW(p:cR)(dst:Option Nat):Bool:=match p.el with
 |some (e,_)=>gy e dst
 |none=>true
def lk(N:Nat)(b:Bool):Bool:=match N with
 |0=>b
 |_+1=>b
def ax(N:Nat)(b:Bool):lk N b=b:=by cases N<;>rfl
def mX(N:Nat):ae->ae
 |.bool b=>.bool (lk N b)
 |c=>c
def mY(N:Nat):SV->SV
 |.c x=>.c (mX N x)
 |.agg l=>.agg l
 |.tup l=>.tup (l.map λp=>(p.1,p.2.map (mX N)))
def yx(N:Nat)(c:ae):mX N c=c:=by cases c<;>simp[mX,ax]
def yy(N:Nat)(s:SV):mY N s=s:=by have h:mX N=id:=funext (yx N);cases s<;>simp[mY,yx,h]
def mZ(N:Nat)(op:Op)(c:Bool):Bool:=match op with
 |.binOp .quo _ _ _ _=>lk N c
 |.binOp .rem _ _ _ _=>lk N c
 |.binOp .shl _ _ _ _=>lk N c
 |.binOp .shr _ _ _ _=>lk N c
 |.indexAddr _ _ _=>lk N c
 |.index _ _ _=>lk N c
 |.slice _ _ _ _ _=>lk N c
 |_=>c
def m0(N:Nat)(op:Op)(s:SV):SV:=match op with
 |.binOp _ _ _ _ _=>mY N s
 |.lookup _ _ _ _=>mY N s
 |_=>s
def tY(N:Nat)(op:Op)(c:Bool):mZ N op c=c:=by unfold mZ;split<;>first|rfl|exact ax N c
def tZ(N:Nat)(op:Op)(s:SV):m0 N op s=s:=by unfold m0;split<;>first|rfl|exact yy N s
def kp{α:Type}(N:Nat)(p:Option (α->Bool))(X:α):Bool:=match p with
 |none=>true
 |some f=>lk N (f X)
def m7{α:Type}(N:Nat)(p:Option (α->Bool))(X:α):kp N p X=bS p X:=by
 unfold kp bS;split;·rfl
 ·exact ax N _
def m8(N:Nat)(d:Option Nat)(V:St):St:=match d with
 |some d=>V.put d (mY N (V.slot d))
 |none=>V
def t6(N:Nat)(d:Option Nat)(V:St):m8 N d V=V:=by
 cases d with
 |none=>rfl
 |some d =>
  unfold m8;simp only[yy];unfold St.put;congr 1;funext t;unfold am;cases hb:Nat.beq t d;·rfl
  ·rw[Nat.eq_of_beq_eq_true hb];rfl
def bi.kL{J:Type}(N:Nat):bi->(St->Option J)->Option J
 |.fail,_=>none
 |.ok V,K=>K V
 |.chk c o,K=>cond (lk N c) (o.kL N K) none
 |.br b o1 o2,K=>cond b (o1.kL N K) (o2.kL N K)
 |.call x f,K=>x.bind λb=>(f b).kL N K
def bi.kL_eq{J:Type}(N:Nat)(K:St->Option J):∀o:bi,o.kL N K=o.k K
 |.fail=>rfl
 |.ok V=>rfl
 |.chk c o=>by simp only[bi.kL,bi.k,ax,bi.kL_eq N K o]
 |.br b o1 o2=>by simp only[bi.kL,bi.k,bi.kL_eq N K o1,bi.kL_eq N K o2]
 |.call x f=>by simp only[bi.kL,bi.k];congr 1;funext b;exact bi.kL_eq N K (f b)
section
variable {J : Type}
noncomputable def pE(Γ:Gm)(T:aY)(N:Nat)(o:Oper)(V:St)(K:St->Option J):Option J :=
 match iV o.op with
 |some (c,x,y)=>match ev V c with
  |.c (.bool b)=>cond b (K (dZ V o.dst (ev V x))) (K (dZ V o.dst (ev V y)))
  |_=>none
 |none=>match mU V o.op with
  |some (f,args)=>match Γ.g f with
   |some en=>match tp en V (args.map (ev V))with
    |some X=>cond (kp N en.pre X) (match tq en V o.dst (args.map (ev V)) (en.val X)with
     |some V'=>K (m8 N o.dst V')
     |none=>none) none
    |none=>none
   |none=>match Γ.m f with
    |some en=>match tA en V (args.map (ev V))with
     |some (qs,X)=>cond (kp N en.pre X) (match pv en V o.dst (args.map (ev V)) qs (en.val X)with
      |some V'=>K (m8 N o.dst V')
      |none=>none) none
     |none=>none
    |none=>match Γ.v f with
     |some en=>match tN en V (args.map (ev V))with
      |some (qs,X)=>cond (kp N en.pre X) (match tO en V o.dst (args.map (ev V)) qs (en.val X)with
       |some V'=>K (m8 N o.dst V')
       |none=>none) none
      |none=>none
     |none=>match Γ.n f with
      |some en=>match tP en V (args.map (ev V))with
       |some X=>cond (kp N en.pre X) (match tQ en V o.dst (args.map (ev V)) (en.val X)with
        |some V'=>K V'
        |none=>none) none
       |none=>none
      |none=>match Γ.s f with
       |some en=>match mS en.ps (args.map (ev V))with
        |some X=>cond (kp N en.pre X) (match tT en V o.dst (en.val X)with
         |some V'=>K V'
         |none=>none) none
        |none=>none
       |none=>none
  |none=>match bW T V o.op with
   |some (c,s)=>cond (mV T V o.op) (cond (lk N c) (K (dZ V o.dst s)) (bC (K (dZ V o.dst (.c (.bool true)))) (K (dZ V o.dst (.c (.bool false))))))
    (cond (mZ N o.op c) (K (dZ V o.dst (m0 N o.op s))) none)
   |none=>(o8 T V o.dst o.op).kL N K
def t7(ops:Array Oper)(j:Nat):Option Nat:=match ops[j]? with
 |some o=>o.dst
 |none=>none
def kq(ops:Array Oper)(o:Oper)(V:St)(F:St->Option J)(K:St->Option J):Option J :=
 match o.guard with
 |none=>F V
 |some (j,want)=>match t7 ops j with
  |some t=>match V.slot t with
   |.c (.bool b)=>cond b
    (cond want (F (V.put t (.c (.bool true)))) (K (dZ (V.put t (.c (.bool true))) o.dst (.tup []))))
    (cond want (K (dZ (V.put t (.c (.bool false))) o.dst (.tup []))) (F (V.put t (.c (.bool false)))))
   |.tup _=>K (dZ V o.dst (.tup []))
   |_=>none
  |none=>none
def gz:Op->Bool
 |.move _=>true
 |.assign _=>true
 |.load _ _=>true
 |.indexAddr _ _ _=>true
 |.fieldAddr _ _ _=>true
 |.binOp _ _ _ _ _=>true
 |.unOp _ _ _=>true
 |.index _ _ _=>true
 |.call { callee:=.builtin .len,args:=_,argTypes:=_ }=>true
 |.call { callee:=.builtin .min,args:=_,argTypes:=_ }=>true
 |.call { callee:=.builtin .max,args:=_,argTypes:=_ }=>true
 |.convert _ _ _=>true
 |.extract _ _=>true
 |.nilCheck _=>true
 |_=>false
noncomputable def yz(Γ:Gm)(N:Nat)(p:cR)(f:Nat)(args:List Operand)(dst:Option Nat)(V:St)(K:St->Option J):Option J:=none
def t8(T:aY)(p:cR)(k:Int)(t:Nat)(x:Operand)(V:St)(K:St->Option J):Option J:=none
def pF(Γ:Gm)(T:aY)(V:St)(o:Oper)(pin:Option cR):F3:=match pD T V o with
 |some p=>.still p
 |none=>match pin with
  |none=>.no
  |some p=>match o.guard with
   |some _=>.no
   |none=>match mU V o.op with
    |some (f,args)=>match Γ.g f with
     |some en=>cond (mW p.d (fF en.sig.ps args)&&de en.sig.ps) (.sub p f args) .no
     |none=>.no
    |none=>match tW T V p o.op o.dst with
     |some p'=>.still p'
     |none=>match tX p o.op o.dst with
      |some (e,k,t,x)=>.put p e k t x
      |none=>cond (gz o.op&&(gy p.d o.dst&&iW p o.dst)) (.still p) .no
noncomputable def iX(Γ:Gm)(T:aY)(N:Nat)(ops:Array Oper):List Nat->Option cR->St->(St->Option J)->Option J
 |[],_,V,K=>K V
 |i::rest,pin,V,K=>match ops[i]? with
  |some o=>match pF Γ T V o pin with
   |.no=>kq ops o V (λV=>pE Γ T N o V λV'=>iX Γ T N ops rest none V' K) λV'=>iX Γ T N ops rest none V' K
   |.still p=>match bW T V o.op with
    |some (c,s)=>cond (mZ N o.op c) (iX Γ T N ops rest (some p) (dZ V o.dst (m0 N o.op s)) K) none
    |none=>none
   |.sub p f args=>yz Γ N p f args o.dst V λV'=>iX Γ T N ops rest none V' K
   |.put p _ k t x=>t8 T p k t x V λV'=>iX Γ T N ops rest none V' K
  |none=>none
def yA(T:aY)(N:Nat)(o:Oper)(V:St)(K:St->Option J):Option J :=
 match bW T V o.op with
 |some (c,s)=>cond (tb o.op s) (cond (mZ N o.op c) (K (dZ V o.dst (m0 N o.op s))) none) none
 |none=>none
def pG(f:Nat->Bool):List Nat->Option Nat
 |[]=>none
 |i::l=>cond (f i) (some i) (pG f l)
def fh(Γ:Gm)(o:Oper):Bool:=match mT o.op with
 |some (f,_)=>match Γ.g f with
  |some en=>bQ en.sig.ps
  |none=>false
 |none=>match iV o.op with
  |some _=>true
  |none=>match o.op with
   |.slice _ _ _ _ _=>true
   |.build _ _=>true
   |.makeSlice _ _ _=>true
   |.alloc _=>true
   |.box _ _=>true
   |.buildSlice _ _ _=>true
   |_=>gz o.op
def iY(Γ:Gm)(ops:Array Oper)(j:Nat):Bool:=match ops[j]? with
 |some oj=>!(j0 oj.op)&&(List.range ops.size).any λi=>!(Nat.beq i j)&&(match ops[i]? with
  |some oi=>!(fh Γ oi)&&!(eZ ops 4 i j||eZ ops 4 j i)
  |none=>false)
 |none=>false
def yB(Γ:Gm)(ops:Array Oper)(listed:Array Bool)(i:Nat):Bool:=match ops[i]? with
 |some o=>gz o.op&&(Region.free .any ops listed i&&!(iY Γ ops i))
 |none=>false
def t9(T:aY)(V:St)(o:Oper)(pin:Option cR):Option cR:=match pD T V o with
 |some p=>some p
 |none=>match pin,o.guard with
  |some p,none=>match tW T V p o.op o.dst with
   |some p'=>some p'
   |none=>cond (gy p.d o.dst&&iW p o.dst) (some p) none
  |_,_=>none
def yC(o:Oper)(pin:Option cR):Option (cR×Nat×Int×Nat×Operand):=match pin,o.guard with
 |some p,none=>match tX p o.op o.dst with
  |some y=>some (p,y)
  |none=>none
 |_,_=>none
noncomputable def im(Γ:Gm)(T:aY)(N:Nat)(ops:Array Oper):Nat->Array Bool->Option cR->St->(St->Option J)->Option J
 |0,listed,_,V,K=>cond (Region.ready .any ops listed).isEmpty (K V) none
 |fuel+1,listed,pin,V,K=>match Region.ready .any ops listed with
  |[]=>K V
  |r::rs=>match pG (yB Γ ops listed) (r::rs)with
   |some i=>match ops[i]? with
    |some o=>kq ops o V (λV=>yA T N o V λV'=>im Γ T N ops fuel (listed.setIfInBounds i true) (t9 T V o pin) V' K) λV'=>im Γ T N ops fuel (listed.setIfInBounds i true) none V' K
    |none=>none
   |none=>tV (λr=>match ops[r]? with
    |some o=>cond (fh Γ o||gQ ops (iY Γ ops) r) (match yC o pin with
     |some (p,_,k,t,x)=>cond (gQ ops (iY Γ ops) r) (t8 T p k t x V λV'=>im Γ T N ops fuel (listed.setIfInBounds r true) none V' K) none
     |none=>kq ops o V (λV=>pE Γ T N o V λV'=>im Γ T N ops fuel (listed.setIfInBounds r true) none V' K) λV'=>im Γ T N ops fuel (listed.setIfInBounds r true) none V' K) none
    |none=>none) (r::rs)
noncomputable def ua(Γ:Gm)(T:aY)(N:Nat)(ops:Array Oper)(draw:Bool)(V:St)(K:St->Option J):Option J :=
 cond draw (cond (Region.noSelect ops) (im Γ T N ops ops.size (Array.replicate ops.size false) none V K) none) (iX Γ T N ops (List.range ops.size) none V K)
def ku(n:Nat)(ops:Array Oper):Bool:=ops.toList.all λo=>match o.dst with
 |some d=>Nat.blt d n
 |none=>true
end
structure aq[DC](P:Program)[Inv P](Γ:Gm):Prop where
 g:∀f en,Γ.g f=some en->aB P f en/\∀p∈en.sig.rs,p.agg=false->p.t.nc=1
 m:∀f en,Γ.m f=some en->dL P f en/\∀p∈en.rs,p.agg=false->p.t.nc=1
 v:∀f en,Γ.v f=some en->db P f en/\∀p∈en.rs,p.agg=false->p.t.nc=1
 n:∀f en,Γ.n f=some en->iT P f en
 s:∀f en,Γ.s f=some en->False
structure kw[DC](P:Program)(w0:World)(lab0:Nat->aw)(Γ:Gm):Prop where
 g:∀f en,Γ.g f=some en->mL P w0 lab0 f en/\∀p∈en.sig.rs,p.agg=false->p.t.nc=1
 m:∀f en,Γ.m f=some en->tz P w0 lab0 f en/\∀p∈en.rs,p.agg=false->p.t.nc=1
 v:∀f en,Γ.v f=some en->tJ P w0 lab0 f en/\∀p∈en.rs,p.agg=false->p.t.nc=1
 n:∀f en,Γ.n f=some en->tL P w0 lab0 f en
 s:∀f en,Γ.s f=some en->False
def aq.at[DC]{P:Program}[Inv P]{Γ:Gm}(h:aq P Γ){w0:World}{lab0:Nat->aw}(hI:Inv.I P w0)(hB:∀k,Inv.B P k->lab0 k=.st):kw P w0 lab0 Γ :=
 ⟨λf en hf=>⟨(h.g f en hf).1.at hI hB,(h.g f en hf).2⟩,λf en hf=>⟨(h.m f en hf).1.at hI hB,(h.m f en hf).2⟩,λf en hf=>⟨(h.v f en hf).1.at hI hB,(h.v f en hf).2⟩,λf en hf=>(h.n f en hf).at hI hB,λf en hf=>h.s f en hf⟩
section
variable {P : Program} {V V' : St} {E E' : aH} {w w' : World} {w0 : World} {lab0 : Nat → aw} {oo : Nat → Value} {n : Nat} {a : Act} {T : aY} {Γ : Gm} {J : Type} {ops : Array Oper} {N : Nat} [DC]
def fH(h:ku n ops=true){i:Nat}{o:Oper}(ho:ops[i]? = some o):∀d,o.dst=some d->d<n:=by
 intro d hd;have hm:o∈ops.toList:=by have:=Array.mem_of_getElem? ho;simpa using this
 have:=List.all_eq_true.1 h o hm;rw[hd]at this;simpa using this
def pH(h:R w0 lab0 oo n V E a w):∀args:List Operand,ai (aF V E w) (args.map (ev V)) (args.map a.eval)
 |[]=>trivial
 |x::l=>⟨aZ h x,pH h l⟩
def ub{op:Op}{f:Nat}{args:List Operand}(h:mT op=some (f,args)):∃arr ts,op=.call { callee:=.value (.func f),args:=arr,argTypes:=ts }/\arr.toList=args:=by
 unfold mT at h;split at h;·rename_i f' arr ts;injection h with h;injection h with e1 e2;subst e1;exact⟨arr,ts,rfl,e2⟩
 ·cases h
def uc{op:Op}{f:Nat}{args:List Operand}(h:mU V op=some (f,args)):∃x arr ts,op=.call { callee:=.value x,args:=arr,argTypes:=ts }/\arr.toList=args/\ev V x=.c (.fn f []):=by
 unfold mU at h;split at h
 ·rename_i x arr ts;split at h;·rename_i f' hf;injection h with h;injection h with e1 e2;subst e1;exact⟨x,arr,ts,rfl,e2,hf⟩
  ·cases h
 ·cases h
def ud(h:R w0 lab0 oo n V E a w){x:Operand}{f:Nat}(hx:ev V x=.c (.fn f [])):a.eval x=.func (.func f) #[] #[]:=by have:=aZ h x;rw[hx]at this;exact this.1
def F4(hT:aT P T)(h:R w0 lab0 oo n V E a w){o:Oper}(hn:mV T V o.op=true):∃b,(execOp a.eval o).run P w=.ok (.value (.bool b)) w:=by
 obtain⟨dst,op,oty,pos,after,guard⟩:=o;simp only at hn;unfold mV at hn;split at hn
 ·rename_i op t x y t';simp only[Bool.and_eq_true]at hn;obtain⟨hop,hn⟩:=hn;obtain⟨ti,A,m,c,ht,hel,hx,hy⟩:∃(ti:TI) (A:Option Addr) (m c:Nat),T t=some ti/\ti.el.isSome=true/\a.eval x=.slice A m c/\a.eval y=.slice none 0 0:=by
   split at hn;·rename_i ti _ _ _ _ ht hx hy;have rx:=aZ h x;have ry:=aZ h y;rw[hx]at rx;rw[hy]at ry;obtain⟨A,m,d,e,_⟩:=rx.c_inv;injection e with e;exact⟨ti,A,m,d,ht,hn,e,ry.c_inv⟩
   ·rename_i ti r ht hx hy;have rx:=aZ h x;have ry:=aZ h y;rw[hx]at rx;rw[hy]at ry;obtain⟨e,_,A,m,d,e'⟩:=rx.c_inv;exact⟨ti,A,m,d,ht,(by simp only[Bool.and_eq_true]at hn;exact hn.1),e.trans (e▸e'),ry.c_inv⟩
   ·cases hn
  obtain⟨e,he⟩:=Option.isSome_iff_exists.1 hel;have hu:=gm hT ht he;have heq:(Op.equal t (.slice A m c) (.slice none 0 0)).run P w=.ok A.isNone w:=by
   have key:∀d,(Op.equalIn (d+1) t (.slice A m c) (.slice none 0 0)).run P w=.ok A.isNone w:=λd=>by cases A<;>simp[Op.equalIn,run_underlying hu]
   exact key 9999
  have hguard:(eqGuard op t x y (.slice A m c) (.slice none 0 0)).run P w=.ok () w:=oP (λu e=>by cases e) (λe=>by cases e);cases op<;>simp only[yw]at hop<;>try contradiction
  ·refine⟨A.isNone, ?_⟩;simp only[execOp,hx,hy];rw[Sem.run_bind,Sem.run_bind,hguard];have:binOp .eql t (.slice A m c) (.slice none 0 0)=(do pure (.bool (<-Op.equal t (.slice A m c) (.slice none 0 0))):Sem Value):=rfl;simp[this,heq]
  ·refine⟨!A.isNone, ?_⟩;simp only[execOp,hx,hy];rw[Sem.run_bind,Sem.run_bind,hguard];have:binOp .neq t (.slice A m c) (.slice none 0 0)=(do pure (.bool (!(<-Op.equal t (.slice A m c) (.slice none 0 0)))):Sem Value):=rfl;simp[this,heq]
 ·cases hn
def yD(hT:aT P T)(hΓ:kw P w0 lab0 Γ)(h:R w0 lab0 oo n V E a w){o:Oper}(hd:∀d,o.dst=some d->d<n){K:St->Option J}{r:J}(hr:pE Γ T N o V K=some r){next:Act->World->Prop}{Q:Exit->Act->World->Prop}
  (hK:∀V' E' v w',K V'=some r->R w0 lab0 oo n V' E' (a.put o.dst v) w'->(fh Γ o=true->bE w w')->next (a.put o.dst v) w'):o.wp P a w next Q:=by
 unfold pE at hr;split at hr
 ·rename_i c x y hp;have hop:o.op=.pick c x y:=by
   obtain⟨dst,op,oty,pos,after,guard⟩:=o;simp only at hp ⊢;cases op<;>simp only[iV]at hp<;>try contradiction
   injection hp with hp;injection hp with e1 e2;injection e2 with e2 e3;rw[e1,e2,e3]
  split at hr
  ·rename_i b hb;have hc:=aZ h c;rw[hb]at hc;have hc:a.eval c=.bool b:=hc;have hrun:(execOp a.eval o).run P w=.ok (.value (if b then a.eval x else a.eval y)) w:=by simp[execOp,hop,hc,asBool]
   unfold Oper.wp;rw[hrun];cases b;·exact hK _ E _ w hr (h.iput hd (aZ h y)) λ_=>bE.refl w
   ·exact hK _ E _ w hr (h.iput hd (aZ h x)) λ_=>bE.refl w
  ·cases hr
 ·rename_i hnp;split at hr
  ·rename_i f args hcall;split at hr
   ·rename_i en hen;split at hr
    ·rename_i X hX;rw[m7]at hr;cases hpre:bS en.pre X;·rw[hpre]at hr;cases hr
     rw[hpre]at hr;simp only[cond_true,t6]at hr;have hG:en.G X=some (en.val X):=by unfold aW.G;rw[hpre];rfl
     split at hr
     ·rename_i V' hout;obtain⟨hE,hfl⟩:=hΓ.g f en hen;obtain⟨x0,arr,ts,hop,harr,hx0⟩:=uc hcall;have hev:a.eval x0=.func (.func f) #[] #[]:=(ud h hx0);have hs:ai (aF V E w) (args.map (ev V)) (arr.map a.eval).toList:=by rw[Array.toList_map,harr];exact pH h args
      have hq:fh Γ o=true->bQ en.sig.ps=true:=by
       intro hq;unfold fh at hq;split at hq;·rename_i f' args' hcs;obtain⟨arr',ts',hop',_⟩:=ub hcs;rw[hop]at hop';injection hop' with hop';injection hop' with e1 e2 e3;injection e1 with e1;subst e1;have hx0:SV.c (.fn f' [])=.c (.fn f []):=hx0;injection hx0 with hx0;injection hx0 with hx0;subst hx0;rw[hen]at hq;exact hq
       ·rw[hop]at hq;simp[iV,gz]at hq
      have hrun:(execOp a.eval o).run P w=(callFunc f (arr.map a.eval)).run P w:=by simp[execOp,hop,resolve,hev,Deferred.ofValue,invoke]
      unfold Oper.wp;rw[hrun];rcases FT hE h hs hX hG hd hfl hout with⟨h1,h2⟩|⟨v,w',h1,v',E',he,h2,h3⟩
      ·rw[h1,Oper.upon_enter];refine h2.mono ?_;rintro e w' ⟨v,E',rfl,h3,h4⟩
       exact hK V' E' v w' hr h3 λhqq=>h4 (hq hqq)
      ·injection he with he;subst he;rw[h1];exact hK V' E' v w' hr h2 λhqq=>h3 (hq hqq)
     ·cases hr
    ·cases hr
   ·rename_i hng;split at hr
    ·rename_i en hen;split at hr
     ·rename_i qs X hX;rw[m7]at hr;cases hpre:bS en.pre X;·rw[hpre]at hr;cases hr
      rw[hpre]at hr;simp only[cond_true,t6]at hr;split at hr
      ·rename_i V' hout;obtain⟨hE,hfl⟩:=hΓ.m f en hen;obtain⟨x0,arr,ts,hop,harr,hx0⟩:=uc hcall;have hev:a.eval x0=.func (.func f) #[] #[]:=(ud h hx0);have hs:ai (aF V E w) (args.map (ev V)) (arr.map a.eval).toList:=by rw[Array.toList_map,harr];exact pH h args
       have hq:fh Γ o=true->False:=by
        intro hq;unfold fh at hq;split at hq;·rename_i f' args' hcs;obtain⟨arr',ts',hop',_⟩:=ub hcs;rw[hop]at hop';injection hop' with hop';injection hop' with e1 e2 e3;injection e1 with e1;subst e1;have hx0:SV.c (.fn f' [])=.c (.fn f []):=hx0;injection hx0 with hx0;injection hx0 with hx0;subst hx0;rw[hng]at hq;cases hq
        ·rw[hop]at hq;simp[iV,gz]at hq
       have hrun:(execOp a.eval o).run P w=(callFunc f (arr.map a.eval)).run P w:=by simp[execOp,hop,resolve,hev,Deferred.ofValue,invoke]
       unfold Oper.wp;rw[hrun];rcases FX hE h hs hX hpre hd hfl hout with⟨h1,h2⟩|⟨v,w',h1,v',E',he,h2⟩
       ·rw[h1,Oper.upon_enter];refine h2.mono ?_;rintro e w' ⟨v,E',rfl,h3⟩
        exact hK V' E' v w' hr h3 λhqq=>(hq hqq).elim
       ·injection he with he;subst he;rw[h1];exact hK V' E' v w' hr h2 λhqq=>(hq hqq).elim
      ·cases hr
     ·cases hr
    ·obtain⟨x0,arr,ts,hop,harr,hx0⟩:=uc hcall;have hev:a.eval x0=.func (.func f) #[] #[]:=(ud h hx0);have hs:ai (aF V E w) (args.map (ev V)) (arr.map a.eval).toList:=by rw[Array.toList_map,harr];exact pH h args
     have hq:fh Γ o=true->False:=by
      intro hq;unfold fh at hq;split at hq;·rename_i f' args' hcs;obtain⟨arr',ts',hop',_⟩:=ub hcs;rw[hop]at hop';injection hop' with hop';injection hop' with e1 e2 e3;injection e1 with e1;subst e1;have hx0:SV.c (.fn f' [])=.c (.fn f []):=hx0;injection hx0 with hx0;injection hx0 with hx0;subst hx0;rw[hng]at hq;cases hq
      ·rw[hop]at hq;simp[iV,gz]at hq
     have hrun:(execOp a.eval o).run P w=(callFunc f (arr.map a.eval)).run P w:=by simp[execOp,hop,resolve,hev,Deferred.ofValue,invoke]
     have fin:∀V',K V'=some r->(cB P f (arr.map a.eval) w λe w'=>∃v E',e=.returned v/\R w0 lab0 oo n V' E' (a.put o.dst v) w')->o.wp P a w next Q:=by
      intro V' hr hcalls;unfold Oper.wp;rw[hrun];rcases hcalls with⟨h1,h2⟩|⟨v,w',h1,v',E',he,h2⟩
      ·rw[h1,Oper.upon_enter];refine h2.mono ?_;rintro e w' ⟨v,E',rfl,h3⟩
       exact hK V' E' v w' hr h3 λhqq=>(hq hqq).elim
      ·injection he with he;subst he;rw[h1];exact hK V' E' v w' hr h2 λhqq=>(hq hqq).elim
     split at hr
     ·rename_i en hen;split at hr
      ·rename_i qs X hX;rw[m7]at hr;cases hpre:bS en.pre X;·rw[hpre]at hr;cases hr
       rw[hpre]at hr;simp only[cond_true,t6]at hr;split at hr;·rename_i V' hout;obtain⟨hE,hfl⟩:=hΓ.v f en hen;exact fin V' hr (F1 hE h hs hX hpre hd hfl hout)
       ·cases hr
      ·cases hr
     ·split at hr
      ·rename_i en hen;split at hr
       ·rename_i X hX;rw[m7]at hr;cases hpre:bS en.pre X;·rw[hpre]at hr;cases hr
        rw[hpre]at hr;simp only[cond_true]at hr;split at hr;·rename_i V' hout;exact fin V' hr (F2 (hΓ.n f en hen) h hs hX hpre hd hout)
        ·cases hr
       ·cases hr
      ·split at hr
       ·rename_i en hen;split at hr
        ·rename_i X hX;rw[m7]at hr;cases hpre:bS en.pre X;·rw[hpre]at hr;cases hr
         rw[hpre]at hr;simp only[cond_true]at hr;split at hr;·rename_i V' hout;exact(hΓ.s f en hen).elim
         ·cases hr
        ·cases hr
       ·cases hr
  ·rename_i hnc;split at hr
   ·rename_i c s hv;rw[tY,tZ,ax]at hr;cases c
    ·cases hne:mV T V o.op;·rw[hne]at hr;cases hr
     ·rw[hne]at hr;obtain⟨q1,q2⟩:=yu (show bC _ _=some r from hr);obtain⟨b,h1⟩:=F4 hT h hne;unfold Oper.wp;rw[h1];cases b;·exact hK _ E _ w q2 (h.iput hd rfl) λ_=>bE.refl w
      ·exact hK _ E _ w q1 (h.iput hd rfl) λ_=>bE.refl w
    ·have hr:K (dZ V o.dst s)=some r:=by cases hne:mV T V o.op<;>(rw[hne]at hr;exact hr)
     obtain⟨v,h1,h2⟩:=jX hT h hv rfl;unfold Oper.wp;rw[h1];exact hK _ E v w hr (h.iput hd h2) λ_=>bE.refl w
   ·rename_i hv;rw[bi.kL_eq]at hr;obtain⟨V',h1,h2⟩:=bi.k_run hr;have hnq:fh Γ o=true->jZ o.op=true:=by intro hq;unfold o8 at h1;split at h1;all_goals first | (cases h1;done) | (rename_i he;rw[he];unfold fh at hq;rw[he]at hq;simp[mT,iV,gz,jZ]at hq ⊢;done) | (rename_i he _;rw[he];unfold fh at hq;rw[he]at hq;simp[mT,iV,gz,jZ]at hq ⊢;done)
    rcases FD hT h hd h1 with⟨v,w',E',g1,gx,g2⟩|⟨w',E',g1,g2⟩;·unfold Oper.wp;rw[g1];exact hK V' E' v w' h2 g2 λhq=>gx (hnq hq)
    ·have hnm:jZ o.op=false:=by
      cases hm:jZ o.op;·rfl
      ·exfalso;unfold jZ at hm;split at hm;·rename_i he;unfold execOp at g1;rw[he]at g1;simp only at g1;rw[Sem.run_bind]at g1;cases hX:(Instr.makeSlice _ _ _).run P w<;>rw[hX]at g1<;>simp[Result.andThen]at g1
       ·rename_i he;unfold execOp at g1;rw[he]at g1;simp only at g1;rw[Sem.run_bind]at g1;cases hX:(Instr.alloc _ _ _).run P w<;>rw[hX]at g1<;>simp[Result.andThen]at g1
       ·rename_i he;unfold execOp at g1;rw[he]at g1;simp only at g1;rw[Sem.run_bind]at g1;cases hX:(Instr.box _ _).run P w<;>rw[hX]at g1<;>simp[Result.andThen]at g1
       ·rename_i he;unfold execOp at g1;rw[he]at g1;simp only at g1;rw[Sem.run_bind]at g1;cases hX:(Instr.buildSlice _ _ _).run P w<;>rw[hX]at g1<;>simp[Result.andThen]at g1
       ·cases hm
     unfold Oper.wp;rw[g1];exact hK V' E' undef w' h2 g2 λhq=>by rw[hnm]at hnq;exact absurd (hnq hq) (by simp)
def R.seen(h:R w0 lab0 oo n V E a w){t:Nat}(ht:t<n){b:Bool}(hb:V.slot t=.c (.bool b)):R w0 lab0 oo n (V.put t (.c (.bool b))) E a w/\a.tmps[t]? = some (.bool b):=by
 have hs:=h.slots t;rw[hb]at hs;have hbd:=h.bound;have hv:cI oo a t=.bool b:=hs;unfold cI at hv;rw[if_pos (by omega)]at hv;have hlt:t<a.tmps.size:=by rw[h.size];exact ht
 have hget:a.tmps[t]? = some (.bool b):=by rw[Array.getD_eq_getD_getElem?,Array.getElem?_eq_getElem hlt]at hv;rw[Array.getElem?_eq_getElem hlt];exact congrArg some hv
 refine⟨?_,hget⟩;have:=h.put (d:=t) (s:=.c (.bool b)) (v:=.bool b) ht rfl;have e:a.put (some t) (.bool b)=a:=by
  unfold Act.put;have:a.tmps.setIfInBounds t (.bool b)=a.tmps:=by
   apply Array.ext_getElem?;intro i;rw[Array.getElem?_setIfInBounds];by_cases e:t=i;·subst e;rw[if_pos rfl,if_pos hlt,hget]
   ·rw[if_neg e]
  simp only[this]
 rwa [e]at this
def ue(h:R w0 lab0 oo n V E a w)(hops:ku n ops=true){i:Nat}{o:Oper}(ho:ops[i]? = some o){F K:St->Option J}{r:J}(hr:kq ops o V F K=some r){G:Prop}
  (hF:∀V',R w0 lab0 oo n V' E a w->F V'=some r->Region.wanted o (yielded ops a.tmps)=true->G)
  (hK:∀V',R w0 lab0 oo n V' E (a.put o.dst undef) w->K V'=some r->Region.wanted o (yielded ops a.tmps)=false->G):G:=by
 have hd:=fH hops ho;unfold kq at hr;split at hr;·rename_i hg;exact hF V h hr (by simp[Region.wanted,hg])
 ·rename_i j want hg;split at hr
  ·rename_i t ht;have htn:t<n:=by
    unfold t7 at ht;split at ht;·rename_i oj hoj;exact fH hops hoj t ht
    ·cases ht
   have hbind:(ops[j]?).bind (·.dst)=some t:=by
    unfold t7 at ht;split at ht;·rename_i oj hoj;rw[hoj];exact ht
    ·cases ht
   split at hr
   ·rename_i b hb;obtain⟨h1,h2⟩:=h.seen htn hb;have hy:yielded ops a.tmps j=some b:=by unfold yielded;rw[hbind];simp[h2]
    have hw:Region.wanted o (yielded ops a.tmps)=(b == want):=by unfold Region.wanted;rw[hg];simp only[hy];cases b<;>cases want<;>rfl
    cases b<;>cases want
    ·exact hF _ h1 hr (by rw[hw];rfl)
    ·exact hK _ (h1.iput (s:=.tup []) hd ⟨#[],rfl,trivial⟩) hr (by rw[hw];rfl)
    ·exact hK _ (h1.iput (s:=.tup []) hd ⟨#[],rfl,trivial⟩) hr (by rw[hw];rfl)
    ·exact hF _ h1 hr (by rw[hw];rfl)
   ·rename_i l hb;have hs:=h.slots t;rw[hb]at hs;obtain⟨arr,hv,_⟩:=hs;have hbd:=h.bound;unfold cI at hv;rw[if_pos (by omega)]at hv;have hlt:t<a.tmps.size:=by rw[h.size];exact htn
    have hy:yielded ops a.tmps j=none:=by unfold yielded;rw[hbind];rw[Array.getD_eq_getD_getElem?,Array.getElem?_eq_getElem hlt]at hv;have hv:a.tmps[t]=.tuple arr:=hv;simp[Array.getElem?_eq_getElem hlt,hv]
    exact hK _ (h.iput (s:=.tup []) hd ⟨#[],rfl,trivial⟩) hr (by unfold Region.wanted;rw[hg];simp[hy])
   ·cases hr
  ·cases hr
def F5(h:R w0 lab0 oo n V E a w)(hops:ku n ops=true){i:Nat}{o:Oper}(ho:ops[i]? = some o){F K:St->Option J}{r:J}(hr:kq ops o V F K=some r){G:Prop}
  (hF:∀V',R w0 lab0 oo n V' E a w->(o.guard=none->V'=V)->F V'=some r->Region.wanted o (yielded ops a.tmps)=true->G)
  (hK:∀V',R w0 lab0 oo n V' E (a.put o.dst undef) w->K V'=some r->Region.wanted o (yielded ops a.tmps)=false->G):G:=by
 cases hg:o.guard with
 |none =>unfold kq at hr;rw[hg]at hr;exact hF V h (λ_=>rfl) hr (by simp[Region.wanted,hg])
 |some q=>exact ue h hops ho hr (λV' h' hF' hw=>hF V' h' (λhn=>by rw[hg]at hn;cases hn) hF' hw) hK
def lC{i:Nat}{o:Oper}(ho:ops[i]? = some o){next:Act->World->Prop}{Q:Exit->Act->World->Prop}(hw:Region.wanted o (yielded ops a.tmps)=true)(h:o.wp P a w next Q):wpOp P ops Q i next a w:=by unfold wpOp;rw[ho];simp only[hw,if_true];exact .inl h
def yE{i:Nat}{o:Oper}(ho:ops[i]? = some o){next:Act->World->Prop}{Q:Exit->Act->World->Prop}(hw:Region.wanted o (yielded ops a.tmps)=false)(h:next (a.put o.dst undef) w):wpOp P ops Q i next a w:=by unfold wpOp;rw[ho];simp only[hw];exact h
def F6(a:Act)(p:cR):Prop:=∀e k,p.el=some (e,k)->0<=k/\∃g m c,a.eval (.tmp p.d)=.slice (some ⟨g,0,none⟩) m c/\k<m/\a.eval (.tmp e)=.pointer (some ⟨g,k.toNat,none⟩)
def fI(V:St)(E:aH)(a:Act)(w:World)(pin:Option cR):Prop:=∀p,pin=some p->p.d<100000->(∃row,tv V E w p.r p.i p.f row (a.eval (.tmp p.d)))/\F6 a p
def yF(hT:aT P T)(h:R w0 lab0 oo n V E a w){o:Oper}{p:cR}(hp:pD T V o=some p)(hd:∀d,o.dst=some d->d<n){c:Bool}{s:SV}(hv:bW T V o.op=some (c,s))(hc:c=true) :
  o.guard=none/\∃v,(execOp a.eval o).run P w=.ok (.value v) w/\aF V E w s v/\fI (dZ V o.dst s) E (a.put o.dst v) w (some p):=by
 obtain⟨v,h1,h2⟩:=jX hT h hv hc;have hbd:=h.bound;obtain⟨dst,op,oty,pos,after,guard⟩:=o;unfold pD at hp;simp only at hp hd h1 ⊢;split at hp
 ·rename_i t x d;split at hp
  ·rename_i r i f hx;split at hp
   ·rename_i row ti hrow ht;cases hq:(row.deep&&(ti.el.isSome&&!ti.agg));·rw[hq]at hp;cases hp
    rw[hq]at hp;injection hp with hp;subst hp;simp only[Bool.and_eq_true,Bool.not_eq_true']at hq;refine⟨rfl,v,h1,h2,λp hp hlt=>?_⟩;injection hp with hp;subst hp;have hdn:=hd d rfl;have rx:=aZ h x;rw[hx]at rx;obtain⟨row',g,m,c',e1,e2,e3,e4,e5,e6⟩:=rx.c_inv;rw[hrow]at e1;injection e1 with e1;subst e1;refine⟨⟨row,hrow,hq.1,e3,e4,g,m,c',e2, ?_⟩,λe k he=>by cases he⟩;have hev:(a.put (some d) v).eval (.tmp d)=v:=by show(a.tmps.setIfInBounds d v).getD d undef=v;rw[oJ _ _ _ _ (by rw[h.size];exact hdn),if_pos rfl]
    rw[hev];have hagg:=xl hT ht w;rw[hq.2.2]at hagg;simp only[execOp,e6]at h1;obtain⟨u,hcl⟩:∃u,w.cell? ⟨g,i.toNat*row.t.nc+f,none⟩=some u:=by
     have hal:iN V (.elt r i f) 1=some (((dm row.t (row.xs.getD i.toNat row.t.dflt) (cond row.deep (some r) none)).drop f).take 1):=by simp only[iN,hrow];rw[show Nat.ble (f+1) row.t.nc=true from Nat.ble_eq_true_of_le (by omega)];rfl
     obtain⟨ad,vs,f',k1,k2,k3,_⟩:=sy h hal rx.c_inv;rw[e6]at k1;injection k1 with k1;injection k1 with k1;exact⟨vs[f'],by rw[k1];exact k3 f' _ (List.getElem?_eq_getElem (by omega))⟩
    simp[Instr.loadAt,Instr.sureAddr,loadVar,hagg,hcl]at h1;rw[hcl,h1]
   ·cases hp
  ·cases hp
 ·cases hp
def F8(hT:aT P T)(hΓ:kw P w0 lab0 Γ)(h:R w0 lab0 oo n V E a w){o:Oper}(hd:∀d,o.dst=some d->d<n){p:cR}{f:Nat}{args:List Operand}(hcall:mU V o.op=some (f,args))
  {en:aW} (hen:Γ.g f=some en) (hio:mW p.d (fF en.sig.ps args)=true) (hone:de en.sig.ps=true) (hpin:fI V E a w (some p)) {K:St->Option J}{r:J} (hr:yz Γ N p f args o.dst V K=some r) {next:Act->World->Prop}{Q:Exit->Act->World->Prop}
  (hK:∀V' E' v w',K V'=some r->R w0 lab0 oo n V' E' (a.put o.dst v) w'->next (a.put o.dst v) w'):o.wp P a w next Q:=by
 cases hr
def yG(hT:aT P T)(h:R w0 lab0 oo n V E a w){o:Oper}{p:cR}{e:Nat}{k:Int}{t:Nat}{x:Operand}(hput:tX p o.op o.dst=some (e,k,t,x))(hpin:fI V E a w (some p)){K:St->Option J}{r:J}(hr:t8 T p k t x V K=some r){next:Act->World->Prop}{Q:Exit->Act->World->Prop}
  (hK:∀V' E' v w',K V'=some r->R w0 lab0 oo n V' E' (a.put o.dst v) w'->next (a.put o.dst v) w'):o.wp P a w next Q:=by
 cases hr
def yH(hT:aT P T)(h:R w0 lab0 oo n V E a w){o:Oper}{p p':cR}(hp:tW T V p o.op o.dst=some p')(hd:∀d,o.dst=some d->d<n)(hpin:fI V E a w (some p)){c:Bool}{s:SV}(hv:bW T V o.op=some (c,s))(hc:c=true) :
  ∃v,(execOp a.eval o).run P w=.ok (.value v) w/\aF V E w s v/\fI (dZ V o.dst s) E (a.put o.dst v) w (some p'):=by
 cases hp
def lD(hT:aT P T)(hΓ:kw P w0 lab0 Γ)(hops:ku n ops=true){Q:Exit->Act->World->Prop}{K:St->Option J}{r:J}
  (hK:∀V' E' a' w',K V'=some r->R w0 lab0 oo n V' E' a' w'->Q .normal a' w') :
  ∀(is:List Nat) {pin:Option cR}{V:St}{E:aH}{a:Act}{w:World},R w0 lab0 oo n V E a w->fI V E a w pin->iX Γ T N ops is pin V K=some r->wpOps P ops Q is a w
 |[],pin,V,E,a,w,h,_,hr=>hK V E a w hr h
 |i::rest,pin,V,E,a,w,h,hpin,hr=>by
  have nopin:∀{V:St}{E:aH}{a:Act}{w:World},fI V E a w none:=λp hp=>by cases hp
  rw[wpOps_cons];simp only[iX]at hr;split at hr
  ·rename_i o ho;split at hr;·refine ue h hops ho hr (λV' h' hF hw=>lC ho hw ?_) (λV' h' hr' hw=>yE ho hw (lD hT hΓ hops hK rest h' nopin hr'));exact yD hT hΓ h' (fH hops ho) hF λσ2 E2 v w2 hr2 h2 _=>lD hT hΓ hops hK rest h2 nopin hr2
   ·rename_i p hm;split at hr
    ·rename_i c s hv;rw[tY,tZ]at hr;cases c;·cases hr
     simp only[cond_true]at hr;obtain⟨hg,v,h1,h2,h3⟩:o.guard=none/\∃v,(execOp a.eval o).run P w=.ok (.value v) w/\aF V E w s v/\fI (dZ V o.dst s) E (a.put o.dst v) w (some p):=by
      unfold pF at hm;split at hm;·rename_i p' hp';injection hm with hm;subst hm;exact yF hT h hp' (fH hops ho) hv rfl
      ·split at hm;·cases hm
       ·rename_i p' ;split at hm;·cases hm
        ·rename_i hg;split at hm
         ·split at hm;·rename_i en _;cases hq:(mW p'.d (fF en.sig.ps _)&&de en.sig.ps)<;>rw[hq]at hm<;>cases hm
          ·cases hm
         ·split at hm;·rename_i p2 hel;injection hm with hm;subst hm;obtain⟨v,h1,h2,h3⟩:=yH hT h hel (fH hops ho) hpin hv rfl;exact⟨hg,v,h1,h2,h3⟩
          split at hm;·cases hm
          cases hq:(gz o.op&&(gy p'.d o.dst&&iW p' o.dst));·rw[hq]at hm;cases hm
          rw[hq]at hm;injection hm with hm;subst hm;simp only[Bool.and_eq_true]at hq;obtain⟨v,h1,h2⟩:=jX hT h hv rfl;refine⟨hg,v,h1,h2,λp hp hlt=>?_⟩;obtain⟨⟨row,k1,k2,k3,k4,k5⟩,hE⟩:=hpin p hp hlt;injection hp with hp;subst hp;have keep:∀z,gy z o.dst=true->(a.put o.dst v).eval (.tmp z)=a.eval (.tmp z):=by
           intro z hz;cases hdst:o.dst with
           |none=>rfl
           |some e =>
            have he:=fH hops ho e hdst;rw[hdst]at hz;show(a.tmps.setIfInBounds e v).getD z undef=a.tmps.getD z undef;rw[oJ _ _ _ _ (by rw[h.size];exact he),if_neg];rintro rfl
            simp[gy]at hz
          refine⟨⟨row,⟨?_,k2,k3,k4, ?_⟩⟩,λe k he=>?_⟩;rotate_left 2
          ·obtain⟨q1,g,m,c,q2,q3,q4⟩:=hE e k he;refine⟨q1,g,m,c,by rw[keep _ hq.2.1];exact q2,q3, ?_⟩;rw[keep _ (by have:=hq.2.2;unfold iW at this;rw[he]at this;exact this)];exact q4
          ·cases hdst:o.dst<;>exact k1
          ·rw[keep _ hq.2.1];exact k5
     refine lC ho (by simp[Region.wanted,hg]) ?_;unfold Oper.wp;rw[h1];exact lD hT hΓ hops hK rest (h.iput (fH hops ho) h2) h3 hr
    ·cases hr
   ·rename_i p f args hm;unfold pF at hm;split at hm;·cases hm
    ·split at hm;·cases hm
     ·rename_i p';split at hm;·cases hm
      ·rename_i hg;split at hm
       ·rename_i f' args' hcall;split at hm
        ·rename_i en hen;cases hq:(mW p'.d (fF en.sig.ps args')&&de en.sig.ps);·rw[hq]at hm;cases hm
         rw[hq]at hm;injection hm with e1 e2 e3;subst e1 e2 e3;simp only[Bool.and_eq_true]at hq;refine lC ho (by simp[Region.wanted,hg]) ?_;exact F8 hT hΓ h (fH hops ho) hcall hen hq.1 hq.2 hpin hr λV' E' v w' hr' h'=>lD hT hΓ hops hK rest h' nopin hr'
        ·cases hm
       ·split at hm;·cases hm
        split at hm;·cases hm
        ·cases hq:(gz o.op&&(gy p'.d o.dst&&iW p' o.dst))<;>rw[hq]at hm<;>cases hm
   ·rename_i p e k t x hm;unfold pF at hm;split at hm;·cases hm
    ·split at hm;·cases hm
     ·rename_i p';split at hm;·cases hm
      ·rename_i hg;split at hm
       ·split at hm;·rename_i en _;cases hq:(mW p'.d (fF en.sig.ps _)&&de en.sig.ps)<;>rw[hq]at hm<;>cases hm
        ·cases hm
       ·split at hm;·cases hm
        split at hm;·rename_i e1 k1 t1 x1 hput;injection hm with q1 q2 q3 q4 q5;subst q1 q2 q3 q4 q5;refine lC ho (by simp[Region.wanted,hg]) ?_;exact yG hT h hput hpin hr λV' E' v w' hr' h'=>lD hT hΓ hops hK rest h' nopin hr'
        ·cases hq:(gz o.op&&(gy p'.d o.dst&&iW p' o.dst))<;>rw[hq]at hm<;>cases hm
  ·cases hr
def NP(Q:Exit->Act->World->Prop):Prop:=∀c a a' w,Q (.panic c) a w->Q (.panic c) a' w
def uf{f:Nat->Bool}{i:Nat}:∀{l:List Nat},pG f l=some i->i∈l/\f i=true
 |[],h=>by cases h
 |j::l,h=>by
  simp only[pG]at h;cases hb:f j;·rw[hb]at h;exact⟨List.mem_cons_of_mem _ (uf h).1,(uf h).2⟩
  ·rw[hb]at h;injection h with h;subst h;exact⟨List.mem_cons_self,hb⟩
def yI(hT:aT P T)(h:R w0 lab0 oo n V E a w){o:Oper}{pin:Option cR}(hd:∀d,o.dst=some d->d<n)(hpin:o.guard=none->fI V E a w pin){c:Bool}{s:SV}(hv:bW T V o.op=some (c,s))(hc:c=true)
  {v:Value} (h1:(execOp a.eval o).run P w=.ok (.value v) w):fI (dZ V o.dst s) E (a.put o.dst v) w (t9 T V o pin):=by
 have nopin:∀{V:St}{E:aH}{a:Act}{w:World},fI V E a w none:=λp hp=>by cases hp
 have same:∀{v'},(execOp a.eval o).run P w=.ok (.value v') w->v'=v:=λ{v'} h2=>by rw[h1]at h2;injection h2 with h2;injection h2 with h2;exact h2.symm
 unfold t9;split;·rename_i p hp;obtain⟨_,v',k1,_,k2⟩:=yF hT h hp hd hv hc;obtain rfl:=same k1;exact k2
 ·split
  ·rename_i p hg;have hpin:=hpin hg;split;·rename_i p' hp';obtain⟨v',k1,_,k2⟩:=yH hT h hp' hd hpin hv hc;obtain rfl:=same k1;exact k2
   ·cases hq:(gy p.d o.dst&&iW p o.dst);·exact nopin
    ·simp only[Bool.and_eq_true]at hq;intro p' hp' hlt;injection hp' with hp';subst hp';obtain⟨⟨row,k1,k2,k3,k4,k5⟩,hE⟩:=hpin p rfl hlt;have keep:∀z,gy z o.dst=true->(a.put o.dst v).eval (.tmp z)=a.eval (.tmp z):=by
      intro z hz;cases hdst:o.dst with
      |none=>rfl
      |some e =>
       have he:=hd e hdst;rw[hdst]at hz;show(a.tmps.setIfInBounds e v).getD z undef=a.tmps.getD z undef;rw[oJ _ _ _ _ (by rw[h.size];exact he),if_neg];rintro rfl
       simp[gy]at hz
     refine⟨⟨row,⟨?_,k2,k3,k4, ?_⟩⟩,λe k he=>?_⟩;·cases hdst:o.dst<;>exact k1
     ·rw[keep _ hq.1];exact k5
     ·obtain⟨q1,g,m,c,q2,q3,q4⟩:=hE e k he;refine⟨q1,g,m,c,by rw[keep _ hq.1];exact q2,q3, ?_⟩;rw[keep _ (by have:=hq.2;unfold iW at this;rw[he]at this;exact this)];exact q4
  ·exact nopin
def iZ(hT:aT P T)(hΓ:kw P w0 lab0 Γ)(hops:ku n ops=true)(hsel:Region.noSelect ops=true){Q:Exit->Act->World->Prop}(hQ:NP Q){K:St->Option J}{r:J}
  (hK:∀V' E' a' w',K V'=some r->R w0 lab0 oo n V' E' a' w'->Q .normal a' w') :
  ∀(fuel:Nat) (listed:Array Bool) {pin:Option cR}{V:St}{E:aH}{a:Act}{w:World},gr ops listed->R w0 lab0 oo n V E a w->fI V E a w pin->im Γ T N ops fuel listed pin V K=some r->fa P ops (iY Γ ops) Q fuel listed a w
 |0,listed,pin,V,E,a,w,hcl,h,hpin,hr=>by
  simp only[im]at hr;cases hq:(Region.ready .any ops listed).isEmpty;·rw[hq]at hr;cases hr
  ·rw[hq]at hr;exact⟨by simpa using hq,hK V E a w hr h⟩
 |fuel+1,listed,pin,V,E,a,w,hcl,h,hpin,hr=>by
  have nopin:∀{V:St}{E:aH}{a:Act}{w:World},fI V E a w none:=λp hp=>by cases hp
  simp only[im]at hr;split at hr;·rename_i hre;exact FK hre (hK V E a w hr h) _
  ·rename_i i0 rs hre;split at hr
   ·rename_i i hi;obtain⟨hmem,hfs⟩:=uf hi;rw[<-hre]at hmem;split at hr
    ·rename_i o ho;obtain⟨hfree,hH⟩:Region.free .any ops listed i=true/\iY Γ ops i=false:=by unfold yB at hfs;rw[ho]at hfs;simp only[Bool.and_eq_true,Bool.not_eq_true']at hfs;exact⟨hfs.2.1,hfs.2.2⟩
     refine F5 h hops ho hr (λV' h' hsame hF hw=>?_) (λV' h' hr' hw=>?_)
     ·unfold yA at hF;split at hF
      ·rename_i c s hv;rw[tY,tZ]at hF;cases hso:tb o.op s;·rw[hso]at hF;cases hF
       ·rw[hso]at hF;cases c;·cases hF
        ·cases hpo:j0 o.op;·obtain⟨v,h1,h2⟩:=FF hT h' hv rfl hso;exact xQ hH ho hpo hsel hcl hfree hmem (λc a' w' hq=>hQ c _ _ _ hq) (.inl ⟨hw,h1⟩) (iZ hT hΓ hops hsel hQ hK fuel _ (hcl.put hmem) (h'.iput (fH hops ho) h2) (yI hT h' (fH hops ho) (λhg=>by have:=hsame hg;subst this;exact hpin) hv rfl (h1 w (bE.refl w))) hF)
         ·obtain⟨v,h1,h2⟩:=FG hT h' hv rfl hpo;exact xR ho hsel hfree hmem (λc a' w' hq=>hQ c _ _ _ hq) (.inl ⟨hw,λw' _=>h1 w'⟩) (iZ hT hΓ hops hsel hQ hK fuel _ (hcl.put hmem) (h'.iput (fH hops ho) h2) (yI hT h' (fH hops ho) (λhg=>by have:=hsame hg;subst this;exact hpin) hv rfl (h1 w)) hF)
      ·cases hF
     ·cases hpo:j0 o.op;·exact xQ hH ho hpo hsel hcl hfree hmem (λc a' w' hq=>hQ c _ _ _ hq) (.inr ⟨hw,rfl⟩) (iZ hT hΓ hops hsel hQ hK fuel _ (hcl.put hmem) h' nopin hr')
      ·exact xR ho hsel hfree hmem (λc a' w' hq=>hQ c _ _ _ hq) (.inr ⟨hw,rfl⟩) (iZ hT hΓ hops hsel hQ hK fuel _ (hcl.put hmem) h' nopin hr')
    ·cases hr
   ·refine⟨(λhe=>by rw[hre]at he;cases he),λi hi=>?_⟩;rw[hre]at hi;have hr:=yv hr i hi;split at hr
    ·rename_i o ho;cases hq:(fh Γ o||gQ ops (iY Γ ops) i);·rw[hq]at hr;cases hr
     ·rw[hq]at hr;simp only[cond_true]at hr;have hext:∀{w'},(fh Γ o=true->bE w w')->gQ ops (iY Γ ops) i=false->bE w w':=λh1 h2=>h1 (by simpa[h2]using hq);split at hr
      ·rename_i p e k t x hput;cases hlb:gQ ops (iY Γ ops) i;·rw[hlb]at hr;cases hr
       rw[hlb]at hr;simp only[cond_true]at hr;unfold yC at hput;split at hput
       ·rename_i p' hg;split at hput;·rename_i y hy;injection hput with hput;injection hput with q1 q2;subst q1 q2;refine lC ho (by simp[Region.wanted,hg]) ?_;exact yG hT h hy hpin hr λV' E' v w' hr' h'=>⟨(λhlf=>by cases hlf),iZ hT hΓ hops hsel hQ hK fuel _ (hcl.put (by rw[hre];exact hi)) h' nopin hr'⟩
        ·cases hput
       ·cases hput
      refine ue h hops ho hr (λV' h' hF hw=>lC ho hw ?_) (λV' h' hr' hw=>yE ho hw ⟨λ_=>bE.refl w,iZ hT hΓ hops hsel hQ hK fuel _ (hcl.put (by rw[hre];exact hi)) h' nopin hr'⟩);exact yD hT hΓ h' (fH hops ho) hF λσ2 E2 v w2 hr2 h2 h3=>⟨hext h3,iZ hT hΓ hops hsel hQ hK fuel _ (hcl.put (by rw[hre];exact hi)) h2 nopin hr2⟩
    ·cases hr
def F9(hT:aT P T)(hΓ:kw P w0 lab0 Γ)(hm:P.follows .mixedOrders=true)(hops:ku n ops=true){Q:Exit->Act->World->Prop}(hQ:NP Q){K:St->Option J}{r:J}{id:Nat}{draw:Bool}
  (hK:∀V' E' a' w',K V'=some r->R w0 lab0 oo n V' E' a' w'->Q .normal a' w') (h:R w0 lab0 oo n V E a w) (hr:ua Γ T N ops draw V K=some r):(Code.region id ops draw).wp P Q a w:=by
 unfold ua at hr;cases draw;·exact wp_region (lD hT hΓ hops hK _ h (λp hp=>by cases hp) hr)
 ·simp only[cond_true]at hr;cases hsel:Region.noSelect ops;·rw[hsel]at hr;cases hr
  ·rw[hsel]at hr;refine wp_region_any hm (xO _ _ _ _ (iZ hT hΓ hops hsel hQ hK _ _ gr.none (h.ext ?_) (λp hp=>by cases hp) hr));exact⟨rfl,⟨rfl,λ_=>Nat.le_succ _⟩,rfl,Nat.le_refl _,λ_ _=>rfl⟩
end
def ay{α:Type}:List (Nat×α)->Nat->Option α
 |[],_=>none
 | (k,v)::l,t=>cond (Nat.beq t k) (some v) (ay l t)
structure ek where
 bx:Bool
 k:Nat
 i:Nat
structure m9 where
 loc:ek
 nm:Nat
 e:Nat
 t:Ty
 deep:Bool
structure aa where
 slots:List Nat
 boxes:List Nat
 nils:List m9
 frz:List (ek×Nat×Ty)
 rows:List (ek×Nat)
def ky(V:St)(l:ek):Option ae :=
 cond l.bx (match V.box l.k with
  |some (_,cs)=>cs[l.i]?
  |none=>none)
 (match V.slot l.k with
  |.c x=>cond (Nat.beq l.i 0) (some x) none
  |.agg cs=>cs[l.i]?
  |.tup _=>none)
def pI(V:St)(l:ek)(c:ae):St :=
 cond l.bx (match V.box l.k with
  |some (te,cs)=>⟨V.slot,am V.box l.k (some (te,cs.set l.i c)),V.row⟩
  |none=>V)
 (match V.slot l.k with
  |.c _=>V.put l.k (.c c)
  |.agg cs=>V.put l.k (.agg (cs.set l.i c))
  |.tup _=>V)
def ug(V:St)(d:m9):Option St:=match ky V d.loc with
 |some .nil=>match V.row d.nm with
  |none=>some (pI (V.withRow (am V.row d.nm (some ⟨d.e,d.t,[],d.deep,true⟩))) d.loc (.own d.nm))
  |some _=>none
 |some (.own r)=>match V.row r with
  |some row=>match o7 row d.deep with
   |some row'=>some { V with row:=am V.row r (some row') }
   |none=>some V
  |none=>some V
 |_=>some V
def pJ:List m9->St->Option St
 |[],V=>some V
 |d::ds,V=>match ug V d with
  |some V'=>pJ ds V'
  |none=>none
def uh(V:St)(d:ek×Nat×Ty):Option St:=match ky V d.1 with
 |some (.own r)=>absorb r none V
 |some .nil=>some (pI V d.1 (.sn d.2.1 d.2.2 [] none))
 |_=>some V
def pL:List (ek×Nat×Ty)->St->Option St
 |[],V=>some V
 |d::ds,V=>match uh V d with
  |some V'=>pL ds V'
  |none=>none
def yJ(V:St):List (ek×Nat)->Option (List (Nat×Nat))
 |[]=>some []
 | (l,q)::ls=>match ky V l,yJ V ls with
  |some (.own r),some m=>some ((r,q)::m)
  |_,_=>none
def fW(m:List (Nat×Nat))(f:Nat->ae)(r:Nat):ae:=match ay m r with
 |some q=>f q
 |none=>.undef
def eF(m:List (Nat×Nat))(bs:List Nat):ae->ae
 |.own r=>fW m .own r
 |.part r lo n=>fW m (λq=>.part q lo n) r
 |.elt r i f=>fW m (λq=>.elt q i f) r
 |.sn e t xs (some r)=>fW m (λq=>.sn e t xs (some q)) r
 |.full e t xs (some r)=>fW m (λq=>.full e t xs (some q)) r
 |.selt t x (some r) f=>fW m (λq=>.selt t x (some q) f) r
 |.box b f=>cond (bk b bs) (.box b f) .undef
 |.mp b=>cond (bk b bs) (.mp b) .undef
 |.fn f caps=>cond (caps.all λp=>bk p.1 bs) (.fn f caps) .undef
 |c=>c
def ui(q:Nat):Bool:=Nat.ble 1000000000 q
def kz(q:Nat)(row:ac):ac:=⟨row.e,row.t,row.xs,row.deep,ui q&&row.nilE⟩
def pM(V:St)(f:ae->ae):List Nat->Option (List (Nat×(Nat×List ae)))
 |[]=>some []
 |b::bs=>match V.box b,pM V f bs with
  |some (te,cs),some l=>some ((b,(te,cs.map f))::l)
  |_,_=>none
def lE(V:St):List (Nat×Nat)->Option (List (Nat×ac))
 |[]=>some []
 | (r,q)::m=>match V.row r,lE V m with
  |some row,some l=>some ((q,kz q row)::l)
  |_,_=>none
def eG(sl:List (Nat×SV))(t:Nat):SV:=match ay sl t with
 |some s=>s
 |none=>.c .undef
def ah(sl:List (Nat×SV))(bx:List (Nat×(Nat×List ae)))(rw:List (Nat×ac)):St:=⟨eG sl,ay bx,ay rw⟩
def na(V:St)(f:ae->ae):List Nat->List (Nat×SV)
 |[]=>[]
 |t::ts=>(t,(V.slot t).map f)::na V f ts
def fJ(cl:aa)(V:St):Option St:=match(pJ cl.nils V).bind (pL cl.frz)with
 |some σ1=>match yJ σ1 cl.rows with
  |some m=>cond (cY (m.map (·.1))&&cY (m.map (·.2))) (match pM σ1 (eF m cl.boxes) cl.boxes,lE σ1 m with
   |some bx,some rw=>some (ah (na σ1 (eF m cl.boxes) cl.slots) bx rw)
   |_,_=>none) none
  |none=>none
 |none=>none
section
variable {P : Program} {V V' : St} {E E' : aH} {w w' : World} {w0 : World} {lab0 : Nat → aw} {oo : Nat → Value} {n : Nat} {a : Act} [DC]
def R.reslot(h:R w0 lab0 oo n V E a w){t:Nat}{s:SV}(hs:∀v,aF V E w (V.slot t) v->aF V E w s v):R w0 lab0 oo n (V.put t s) E a w:=by
 have m:b8 V E w (V.put t s) E w:=b8.same rfl rfl;refine⟨h.bound,h.size,h.defers,λt'=>?_,λb te cs hb=>?_,h.rows,h.same⟩
 ·by_cases e:t'=t;·subst e;show aF _ _ _ (am V.slot t' s t') _;rw[aQ];exact(hs _ (h.slots t')).move m
  ·show aF _ _ _ (am V.slot t s t') _;rw[aX _ _ e];exact(h.slots t').move m
 ·obtain⟨arr,h1,h2,h3,h4⟩:=h.boxes b te cs hb;exact⟨arr,h1,h2,h3.imp λ_ _ h=>h.move m,h4⟩
def R.rebox(h:R w0 lab0 oo n V E a w){b te:Nat}{cs cs':List ae}(hb:V.box b=some (te,cs))(hl:cs'.length=cs.length)(hs:∀vs,ai (aj V E w) cs vs->ai (aj V E w) cs' vs) :
  R w0 lab0 oo n ⟨V.slot,am V.box b (some (te,cs')),V.row⟩ E a w:=by
 have m:b8 V E w ⟨V.slot,am V.box b (some (te,cs')),V.row⟩ E w:=by
  refine⟨λr row h=>⟨row,h,rfl,rfl,Nat.le_refl _⟩,λb' te' cs0 hb'=>?_,λ_ _ _ h1 h2=>⟨h1,h2⟩,λ_ _ _ _ h=>h⟩;by_cases e:b'=b;·subst e;rw[hb]at hb';injection hb' with hb';injection hb' with e1 e2;subst e1 e2;exact⟨te,cs',aQ _ _ _,rfl,hl⟩
  ·exact⟨te',cs0,(aX _ _ e).trans hb',rfl,rfl⟩
 refine⟨h.bound,h.size,h.defers,λt'=>(h.slots t').move m,λb' te' cs0 hb'=>?_,h.rows,h.same⟩;by_cases e:b'=b;·subst e;have hb':am V.box b' (some (te,cs')) b'=some (te',cs0):=hb';rw[aQ]at hb';injection hb' with hb';injection hb' with e1 e2;subst e1 e2;obtain⟨arr,h1,h2,h3,h4⟩:=h.boxes b' te cs hb;exact⟨arr,h1,h2,(hs _ h3).imp λ_ _ h=>h.move m,h4⟩
 ·have hb':am V.box b (some (te,cs')) b'=some (te',cs0):=hb';rw[aX _ _ e]at hb';obtain⟨arr,h1,h2,h3,h4⟩:=h.boxes b' te' cs0 hb';exact⟨arr,h1,h2,h3.imp λ_ _ h=>h.move m,h4⟩
def ai.reset{Q:ae->Value->Prop}{c c':ae}(hs:∀v,Q c v->Q c' v):∀{cs:List ae}{vs:List Value}{i:Nat},cs[i]? = some c->ai Q cs vs->ai Q (cs.set i c') vs
 |[],_,_,h,_=>by simp at h
 |x::cs,[],_,_,h=>h.elim
 |x::cs,v::vs,0,h,h2=>by simp at h;subst h;exact⟨hs _ h2.1,h2.2⟩
 |x::cs,v::vs,i+1,h,h2=>⟨h2.1,ai.reset hs (by simpa using h) h2.2⟩
def R.resetAt(h:R w0 lab0 oo n V E a w){l:ek}{c c':ae}(hc:ky V l=some c)(hs:∀v,aj V E w c v->aj V E w c' v):R w0 lab0 oo n (pI V l c') E a w:=by
 obtain⟨bx,k,i⟩:=l;unfold ky at hc;unfold pI;cases bx
 ·simp only[cond_false]at hc ⊢;split at hc
  ·rename_i x hx;cases hi:Nat.beq i 0;·rw[hi]at hc;cases hc
   ·rw[hi]at hc;injection hc with hc;subst hc;exact h.reslot λv hv=>by rw[hx]at hv;exact hs v hv
  ·rename_i cs hx;refine h.reslot λv hv=>?_;rw[hx]at hv;obtain⟨arr,e,hv⟩:=hv;exact⟨arr,e,hv.reset hs hc⟩
  ·cases hc
 ·simp only[cond_true]at hc ⊢;split at hc;·rename_i te cs hx;exact h.rebox hx (by simp) λvs hv=>hv.reset hs hc
  ·cases hc
def Ga(h:R w0 lab0 oo n V E a w){d:m9}(hr:ug V d=some V'):∃E',R w0 lab0 oo n V' E' a w:=by
 unfold ug at hr;split at hr
 ·rename_i hc;split at hr
  ·rename_i hfree;injection hr with hr;subst hr;have G:=h.nilRow (r:=d.nm) (e:=d.e) (t:=d.t) (deep:=d.deep) hfree;refine⟨_,R.resetAt (c:=.nil) G ?_ λv hv=>?_⟩;·exact hc
   ·obtain rfl:v=_:=hv;exact⟨(aQ _ _ _).symm,by show(am V.row d.nm _ d.nm).isSome=true;rw[aQ];rfl,none,0,0,rfl⟩
  ·cases hr
 ·split at hr
  ·rename_i row hrow;split at hr;·rename_i row' hsh;injection hr with hr;subst hr;exact⟨E,(h.shal hrow hsh).2.2.2⟩
   ·injection hr with hr;subst hr;exact⟨E,h⟩
  ·injection hr with hr;subst hr;exact⟨E,h⟩
 ·injection hr with hr;subst hr;exact⟨E,h⟩
def yK:∀{ds:List m9}{V V':St}{E:aH},R w0 lab0 oo n V E a w->pJ ds V=some V'->∃E',R w0 lab0 oo n V' E' a w
 |[],V,V',E,h,hr=>by injection hr with hr;subst hr;exact⟨E,h⟩
 |d::ds,V,V',E,h,hr=>by
  simp only[pJ]at hr;split at hr;·rename_i σ1 h1;obtain⟨E1,g1⟩:=Ga h h1;exact yK g1 hr
  ·cases hr
def Gb(h:R w0 lab0 oo n V E a w){d:ek×Nat×Ty}(hr:uh V d=some V'):∃E',R w0 lab0 oo n V' E' a w:=by
 unfold uh at hr;split at hr;·rename_i r hc;obtain⟨lab',g,_⟩:=R.absorbs (p:=none) (qs:=[r]) (V':=V') h (by simp[Fw.absorbs,hr]) (λ_ h=>by cases h);exact⟨_,g⟩
 ·rename_i hc;injection hr with hr;subst hr;exact⟨E,h.resetAt hc λv hv=>by obtain rfl:v=_:=hv;exact⟨none,0,0,rfl,rfl,Nat.le_refl _,Nat.zero_le _,.inl rfl⟩⟩
 ·injection hr with hr;subst hr;exact⟨E,h⟩
def yL:∀{ds:List (ek×Nat×Ty)}{V V':St}{E:aH},R w0 lab0 oo n V E a w->pL ds V=some V'->∃E',R w0 lab0 oo n V' E' a w
 |[],V,V',E,h,hr=>by injection hr with hr;subst hr;exact⟨E,h⟩
 |d::ds,V,V',E,h,hr=>by
  simp only[pL]at hr;split at hr;·rename_i σ1 h1;obtain⟨E1,g1⟩:=Gb h h1;exact yL g1 hr
  ·cases hr
def lF(m:List (Nat×Nat)):aw->aw
 |.row r=>match ay m r with
  |some q=>.row q
  |none=>.dead
 |.inn r=>match ay m r with
  |some q=>.inn q
  |none=>.dead
 |l=>l
def yM{m:List (Nat×Nat)}{p p':Option Nat}(h:(p=none/\p'=none)\/∃r q,p=some r/\p'=some q/\ay m r=some q):lF m (bh p)=bh p':=by
 rcases h with⟨rfl,rfl⟩|⟨r,q,rfl,rfl,h⟩;·rfl
 ·simp[bh,lF,h]
def R.ren(h:R w0 lab0 oo n V E a w){m:List (Nat×Nat)}{bs:List Nat}(hslot:∀t,V'.slot t=(V.slot t).map (eF m bs)\/V'.slot t=.c .undef)
  (hbox:∀b te cs,V'.box b=some (te,cs)->∃cs0,V.box b=some (te,cs0)/\cs=cs0.map (eF m bs))
  (hbox':∀b te cs,bk b bs=true->V.box b=some (te,cs)->V'.box b=some (te,cs.map (eF m bs)))
  (hrow:∀q row',V'.row q=some row'->∃r row,ay m r=some q/\V.row r=some row/\row'=kz q row)
  (hrow':∀r q row,ay m r=some q->V.row r=some row->V'.row q=some (kz q row))
  (inj:∀r r' q,ay m r=some q->ay m r'=some q->r=r'):∃E',R w0 lab0 oo n V' E' a w:=by
 classical
 let E':aH:=⟨λk=>lF m (E.lab k),λq=>if hq:∃r,ay m r=some q then E.rv hq.choose else undef,E.bb⟩;have hrv:∀r q,ay m r=some q->E'.rv q=E.rv r:=by intro r q hq;have hex:∃r,ay m r=some q:=⟨r,hq⟩;show(if hq:∃r,ay m r=some q then E.rv hq.choose else undef)=_;rw[dif_pos hex,inj _ _ _ hex.choose_spec hq]
 have hlab:∀k,E'.lab k=lF m (E.lab k):=λk=>rfl;have rd:∀{p p':Option Nat}{t:Ty}{cs:List Value}{x:t.den},((p=none/\p'=none)\/∃r q,p=some r/\p'=some q/\ay m r=some q)->Rd w (λk=>E.lab k=bh p) t cs x->Rd w (λk=>E'.lab k=bh p') t cs x:=by intro p p' t cs x hp hr;refine hr.mono λk hk=>?_;rw[hlab,hk];exact yM hp
 have selt:∀{p p':Option Nat}{t:Ty}{x:t.den}{f:Nat}{v:Value},((p=none/\p'=none)\/∃r q,p=some r/\p'=some q/\ay m r=some q)->aj V E w (.selt t x p f) v->aj V' E' w (.selt t x p' f) v:=by intro p p' t x f v hp hr;obtain⟨ad,cs,h1,h2,h3,h4,h5⟩:=hr;exact⟨ad,cs,h1,h2,by rw[hlab,h3];exact yM hp,rd hp h4,h5⟩
 have hc:∀c v,aj V E w c v->aj V' E' w (eF m bs c) v:=by
  intro c v hv;cases c with
  |undef=>trivial
  |int _ _=>exact hv
  |bool _=>exact hv
  |str _=>exact hv
  |err _=>exact hv
  |bor v0 e t xs=>exact⟨hv.1,rd (p:=none) (p':=none) (.inl ⟨rfl,rfl⟩) hv.2⟩
  |nil=>exact hv
  |sn e t xs p =>
   cases p with
   |none=>exact rd (p:=none) (p':=none) (.inl ⟨rfl,rfl⟩) hv
   |some r =>
    simp only[eF,fW];split;·rename_i q hq;exact rd (p:=some r) (p':=some q) (.inr ⟨r,q,rfl,rfl,hq⟩) hv
    ·trivial
  |full e t xs p =>
   cases p with
   |none=>exact⟨rd (p:=none) (p':=none) (.inl ⟨rfl,rfl⟩) hv.1,hv.2⟩
   |some r =>
    simp only[eF,fW];split;·rename_i q hq;exact⟨rd (p:=some r) (p':=some q) (.inr ⟨r,q,rfl,rfl,hq⟩) hv.1,hv.2⟩
    ·trivial
  |own r =>
   simp only[eF,fW];split;·rename_i q hq;obtain⟨rfl,h1,h2⟩:=hv;obtain⟨row,hr⟩:=Option.isSome_iff_exists.1 h1;exact⟨(hrv r q hq).symm,by rw[hrow' r q row hq hr];rfl,h2⟩
   ·trivial
  |part r lo n =>
   simp only[eF,fW];split;·rename_i q hq;obtain⟨row,A,c,h1,h2,h3,h4,h5,h6,h7,h8⟩:=hv;refine⟨kz q row,A,c,hrow' r q row hq h1,h2,h3,h4,h5,h6,h7,λhn=>?_⟩;rw[hrv r q hq];exact h8 hn
   ·trivial
  |box b f =>
   simp only[eF];cases hb:bk b bs;·trivial
   ·obtain⟨rfl,te,cs,h1,h2⟩:=hv;exact⟨rfl,te,_,hbox' b te cs hb h1,by simpa using h2⟩
  |mp b =>
   simp only[eF];cases hb:bk b bs;·trivial
   ·obtain⟨rfl,te,cs,h1⟩:=hv;exact⟨rfl,te,_,hbox' b te cs hb h1⟩
  |mset t xs=>exact hv
  |elt r i f =>
   simp only[eF,fW];split;·rename_i q hq;obtain⟨row,g,n,c,h1,h2,h3,h4,h5,h6⟩:=hv;exact⟨kz q row,g,n,c,hrow' r q row hq h1,by rw[hrv r q hq];exact h2,h3,h4,h5,h6⟩
   ·trivial
  |selt t x p f =>
   cases p with
   |none=>exact selt (p:=none) (p':=none) (.inl ⟨rfl,rfl⟩) hv
   |some r =>
    simp only[eF,fW];split;·rename_i q hq;exact selt (p:=some r) (p':=some q) (.inr ⟨r,q,rfl,rfl,hq⟩) hv
    ·trivial
  |fn f caps =>
   simp only[eF];cases hb:caps.all λp=>bk p.1 bs;·trivial
   ·obtain⟨rfl,hv⟩:=hv;refine⟨rfl,λp hp=>?_⟩;obtain⟨te,cs,h1,h2⟩:=hv p hp;exact⟨te,_,hbox' p.1 te cs (List.all_eq_true.1 hb p hp) h1,by simpa using h2⟩
 refine⟨E',h.bound,h.size,h.defers,λt=>?_,λb te cs hb=>?_,λq row' hq=>?_, ?_⟩
 ·rcases hslot t with e|e;·rw[e];exact(h.slots t).mapl hc
  ·rw[e];show aF V' E' w (.c .undef) (cI oo a t);exact True.intro
 ·obtain⟨cs0,h1,rfl⟩:=hbox b te cs hb;obtain⟨arr,k1,k2,k3,k4⟩:=h.boxes b te cs0 h1;exact⟨arr,k1,by rw[hlab,k2];rfl,k3.mapl hc,k4⟩
 ·obtain⟨r,row,h1,h2,rfl⟩:=hrow q row' hq;obtain⟨css,k1,k2,k3,k4⟩:=h.rows r row h2;rw[hrv r q h1];refine⟨css,k1,λk hk=>by rw[hlab,k2 k hk];simp[lF,h1], ?_,λh=>k4 (Bool.and_eq_true_iff.1 h).2⟩;show cond row.deep _ _;cases hd:row.deep;·rw[hd]at k3;exact ai.imp (λc y hy=>Rd.mono (λk hk=>(by rw[hlab,hk];rfl)) hy) (show ai (λc y=>Rd w (λk=>E.lab k=.st) row.t c y) css row.xs from k3)
  ·rw[hd]at k3;obtain⟨Ls,j1,j2,j3⟩:=k3;exact⟨Ls,j1,j2,λk hk=>by rw[hlab,j3 k hk];simp[lF,h1]⟩
 ·refine⟨h.same.os,h.same.tape,h.same.output,h.same.size,λk hk hl=>?_,λk hk hl=>?_⟩;·obtain⟨g1,g2⟩:=h.same.old k hk hl;exact⟨by rw[hlab,g1];rfl,g2⟩
  ·obtain⟨g1,g2⟩:=h.same.gone k hk hl;exact⟨by rw[hlab,g1];rfl,g2⟩
def lG{a b:Nat}:Nat.beq a b=true↔a=b:=⟨Nat.eq_of_beq_eq_true,λe=>by subst e;exact Nat.beq_refl a⟩
def d8{α:Type}:∀{l:List (Nat×α)}{t:Nat}{v:α},ay l t=some v->(t,v)∈l
 |[],_,_,h=>by cases h
 | (k,u)::l,t,v,h=>by
  simp only[ay]at h;cases hb:Nat.beq t k;·rw[hb]at h;exact List.mem_cons_of_mem _ (d8 h)
  ·rw[hb]at h;injection h with h;rw[<-h,lG.1 hb];exact List.mem_cons_self
def yN{f:ae->ae}(t:Nat):∀ts:List Nat,ay (na V f ts) t=some ((V.slot t).map f)\/ay (na V f ts) t=none
 |[]=>.inr rfl
 |t'::ts=>by
  simp only[na,ay];cases hb:Nat.beq t t';·exact yN t ts
  ·rw[lG.1 hb];exact .inl rfl
def uj{f:ae->ae}(b:Nat):∀{bs:List Nat}{l:List (Nat×(Nat×List ae))},pM V f bs=some l ->
  (∀te cs,ay l b=some (te,cs)->∃cs0,V.box b=some (te,cs0)/\cs=cs0.map f)/\(∀te cs,bk b bs=true->V.box b=some (te,cs)->ay l b=some (te,cs.map f))
 |[],l,h=>by injection h with h;subst h;exact⟨(λte cs h=>by cases h),λte cs h=>by cases h⟩
 |b'::bs,l,h=>by
  simp only[pM]at h;split at h
  ·rename_i te cs l' hb hl;injection h with h;subst h;obtain⟨g1,g2⟩:=uj b hl;simp only[ay,bk];cases hq:Nat.beq b b';·exact⟨g1,λte cs hm=>g2 te cs (by simpa using hm)⟩
   ·obtain rfl:=lG.1 hq;refine⟨λte' cs' h'=>?_,λte' cs' _ h'=>?_⟩;·simp only[cond_true,Option.some.injEq,Prod.mk.injEq]at h';obtain⟨rfl,rfl⟩:=h';exact⟨cs,hb,rfl⟩
    ·rw[hb]at h';injection h' with h';injection h' with e1 e2;rw[e1,e2];rfl
  ·cases h
def yO(q:Nat):∀{m:List (Nat×Nat)}{l:List (Nat×ac)},lE V m=some l->∀row',ay l q=some row'->∃r row,(r,q)∈m/\V.row r=some row/\row'=kz q row
 |[],l,h,row',h'=>by injection h with h;subst h;cases h'
 | (r,q')::m,l,h,row',h'=>by
  simp only[lE]at h;split at h
  ·rename_i row l' hr hl;injection h with h;subst h;simp only[ay]at h';cases hb:Nat.beq q q';·rw[hb]at h';obtain⟨r',row2,k1,k2,k3⟩:=yO q hl row' h';exact⟨r',row2,List.mem_cons_of_mem _ k1,k2,k3⟩
   ·rw[hb]at h';injection h' with h';obtain rfl:=lG.1 hb;exact⟨r,row,List.mem_cons_self,hr,h'.symm⟩
  ·cases h
def yP{r q:Nat}{row:ac}(hrow:V.row r=some row):∀{m:List (Nat×Nat)}{l:List (Nat×ac)},lE V m=some l->(m.map (·.2)).Nodup->(r,q)∈m->ay l q=some (kz q row)
 |[],l,h,_,hm=>by cases hm
 | (r',q')::m,l,h,hn,hm=>by
  simp only[lE]at h;split at h
  ·rename_i row' l' hr hl;injection h with h;subst h;simp only[ay];simp only[List.map_cons,List.nodup_cons]at hn;rcases List.mem_cons.1 hm with e|hm;·injection e with e1 e2;subst e1 e2;rw[hr]at hrow;injection hrow with hrow;rw[Nat.beq_refl,hrow];rfl
   ·have hne:Nat.beq q q'=false:=by
     cases hb:Nat.beq q q';·rfl
     ·exact absurd (List.mem_map.2 ⟨(r,q),hm,lG.1 hb⟩) hn.1
    rw[hne];exact yP hrow hl hn.2 hm
  ·cases h
def Gc{m:List (Nat×Nat)}(h:(m.map (·.2)).Nodup){r r' q:Nat}(h1:(r,q)∈m)(h2:(r',q)∈m):r=r':=by
 induction m with
 |nil=>cases h1
 |cons p m ih =>
  simp only[List.map_cons,List.nodup_cons]at h;rcases List.mem_cons.1 h1 with e|h1
  ·rcases List.mem_cons.1 h2 with e'|h2;·rw[<-e]at e';injection e' with e' _;exact e'.symm
   ·exact absurd (List.mem_map.2 ⟨_,h2,by rw[<-e]⟩) h.1
  ·rcases List.mem_cons.1 h2 with e'|h2;·exact absurd (List.mem_map.2 ⟨_,h1,by rw[<-e']⟩) h.1
   ·exact ih h.2 h1 h2
def Gd{m:List (Nat×Nat)}{r q:Nat}(h:(r,q)∈m)(hn:(m.map (·.1)).Nodup):ay m r=some q:=by
 induction m with
 |nil=>cases h
 |cons p m ih =>
  obtain⟨k,u⟩:=p;simp only[List.map_cons,List.nodup_cons]at hn;simp only[ay];rcases List.mem_cons.1 h with e|h;·injection e with e1 e2;subst e1 e2;rw[Nat.beq_refl];rfl
  ·cases hb:Nat.beq r k;·exact ih h hn.2
   ·exact absurd (List.mem_map.2 ⟨_,h,lG.1 hb⟩) hn.1
def uk(h:R w0 lab0 oo n V E a w){cl:aa}(hr:fJ cl V=some V'):∃E',R w0 lab0 oo n V' E' a w:=by
 unfold fJ at hr;split at hr
 ·rename_i σ1 h1;obtain⟨σ2,h1,h2⟩:=Option.bind_eq_some_iff.1 h1;obtain⟨E2,G2⟩:=yK h h1;obtain⟨E1,G⟩:=yL G2 h2;split at hr
  ·rename_i m hm;cases hq:(cY (m.map (·.1))&&cY (m.map (·.2)))
   ·rw[hq]at hr;cases hr
   ·rw[hq]at hr;simp only[Bool.and_eq_true]at hq;simp only[cond_true]at hr;have n1:=gq hq.1;have n2:=gq hq.2;split at hr
    ·rename_i bx rw' hbx hrw;injection hr with hr;subst hr;refine G.ren (m:=m) (bs:=cl.boxes) (λt=>?_) (λb te cs hb=>?_) (λb te cs hm hb=>?_) (λq row' hq=>?_) (λr q row hl hrow=>?_) (λr r' q hl hl'=>?_)
     ·show eG _ t=_\/eG _ t=_;unfold eG;rcases yN (V:=σ1) (f:=eF m cl.boxes) t cl.slots with e|e;·rw[e];exact .inl rfl
      ·rw[e];exact .inr rfl
     ·exact(uj b hbx).1 te cs hb
     ·exact(uj b hbx).2 te cs hm hb
     ·obtain⟨r,row,k1,k2,k3⟩:=yO q hrw row' hq;exact⟨r,row,Gd k1 n1,k2,k3⟩
     ·exact yP hrow hrw n2 (d8 hl)
     ·exact Gc n2 (d8 hl) (d8 hl')
    ·cases hr
  ·cases hr
 ·cases hr
end
inductive Ex where
 |nrm
 |exit (id:Nat)
 |ret
def Ge:Ex->Exit
 |.nrm=>.normal
 |.exit id=>.exit id
 |.ret=>.ret
inductive cr where
 |n
 |mk (join:Option aa) (lp:Option aa) (a b:cr)
def cr.fst:cr->cr
 |.n=>.n
 |.mk _ _ a _=>a
def cr.snd:cr->cr
 |.n=>.n
 |.mk _ _ _ b=>b
def cr.join:cr->Option aa
 |.n=>none
 |.mk j _ _ _=>j
def cr.lp:cr->Option aa
 |.n=>none
 |.mk _ l _ _=>l
def pN:Option aa->St->Option St
 |none,V=>some V
 |some cl,V=>fJ cl V
def pO(V:St)(l:ek):Bool:=match ky V l with
 |some (.own r)=>match V.row r with
  |some row=>row.nilE||Nat.blt 0 row.xs.length
  |none=>true
 |_=>true
def ul(V:St)(l:ek):St:=match ky V l with
 |some (.own r)=>match V.row r with
  |some row=>⟨V.slot,V.box,am V.row r (some ⟨row.e,row.t,row.xs,row.deep,true⟩)⟩
  |none=>V
 |_=>V
def Gf:Option aa->List (ek×Nat)
 |none=>[]
 |some cl=>cl.rows
section
variable {J : Type}
def nb(F:St->Option J):List (ek×Nat)->St->Option J
 |[],V=>F V
 | (l,q)::ls,V=>cond (ui q) (cond (pO V l) (nb F ls (ul V l)) none) (nb F ls V)
abbrev av(j:Option aa)(K:Ex->St->Option J):Ex->St->Option J
 |.nrm,V=>(pN j V).bind (K .nrm)
 |.exit i,V=>K (.exit i) V
 |.ret,V=>K .ret V
abbrev bX(F:St->Option J)(K:Ex->St->Option J):Ex->St->Option J
 |.nrm,V=>F V
 |.exit i,V=>K (.exit i) V
 |.ret,V=>K .ret V
abbrev nh(id:Nat)(K:Ex->St->Option J):Ex->St->Option J
 |.nrm,V=>K .nrm V
 |.exit i,V=>cond (Nat.beq i id) (K .nrm V) (K (.exit i) V)
 |.ret,V=>K .ret V
def bN(f:St->(Ex->St->Option J)->Option J)(cl:aa):Nat->St->(Ex->St->Option J)->Option J
 |0,_,_=>none
 |N+1,V,K=>f V (av (some cl) (bX (λV''=>bN f cl N V'' K) K))
noncomputable def ak(Γ:Gm)(T:aY)(B:Nat->Option aa)(N:Nat):Code->cr->St->(Ex->St->Option J)->Option J
 |.skip,_,V,K=>K .nrm V
 |.label _,_,V,K=>K .nrm V
 |.region _ ops draw,_,V,K=>ua Γ T N ops draw V (K .nrm)
 |.seq a b,pl,V,K=>ak Γ T B N a pl.fst V (av pl.join (bX (λV'=>ak Γ T B N b pl.snd V' K) K))
 |.cond c a b,pl,V,K=>match ev V c with
  |.c (.bool t)=>cond t (ak Γ T B N a pl.fst V K) (ak Γ T B N b pl.snd V K)
  |_=>none
 |.block id c,pl,V,K=>ak Γ T B N c pl.fst V (av pl.join (nh id K))
 |.loop c,pl,V,K=>match pl.lp with
  |some cl=>match pl.join with
   |none=>(fJ cl V).bind λσ0=>bN (λV K=>ak Γ T B N c pl.fst V K) cl N σ0 K
   |some cl1=>(fJ cl1 V).bind λσ0=>ak Γ T B N c pl.snd σ0 (av (some cl) (bX (λV''=>bN (λV K=>ak Γ T B N c pl.fst V K) cl N V'' K) K))
  |none=>none
 |.exit id,_,V,K=>(pN (B id) V).bind (K (.exit id))
 |.ret,_,V,K=>nb (λV=>(pN (B 1000000) V).bind (K .ret)) (Gf (B 1000000)) V
 |_,_,_,_=>none
end
def dN(n:Nat):Code->Bool
 |.region _ ops _=>ku n ops
 |.seq a b=>dN n a&&dN n b
 |.cond _ a b=>dN n a&&dN n b
 |.block _ c=>dN n c
 |.loop c=>dN n c
 |_=>true
section
variable {P : Program} {V V' : St} {E E' : aH} {w w' : World} {w0 : World} {lab0 : Nat → aw} {oo : Nat → Value} {n : Nat} {a : Act} {T : aY} {Γ : Gm} {J : Type} {B : Nat → Option aa} {N : Nat} [DC]
def um{p:Nat->Prop}(h:∃n,p n):∃n,p n/\∀m,p m->n<=m:=by
 classical
 obtain⟨n,hn⟩:=h;induction n using Nat.strongRecOn with
 |_ n ih =>
  by_cases hex:∃m,m<n/\p m;·obtain⟨m,h1,h2⟩:=hex;exact ih m h1 h2
  ·exact⟨n,hn,λm hm=>Nat.le_of_not_lt λhlt=>hex ⟨m,hlt,hm⟩⟩
noncomputable def gA{p:Nat->Prop}(h:∃n,p n):Nat:=(um h).choose
def Gg{p:Nat->Prop}(h:∃n,p n):p (gA h):=(um h).choose_spec.1
def Gh{p:Nat->Prop}(h:∃n,p n){m:Nat}(hm:p m):gA h<=m:=(um h).choose_spec.2 m hm
def un(h:R w0 lab0 oo n V E a w){cl:Option aa}(hr:pN cl V=some V'):∃E',R w0 lab0 oo n V' E' a w:=by
 cases cl with
 |none =>injection hr with hr;subst hr;exact⟨E,h⟩
 |some cl=>exact uk h hr
def Gi(h:R w0 lab0 oo n V E a w){l:ek}(hc:pO V l=true):R w0 lab0 oo n (ul V l) E a w:=by
 have key:∀r row,V.row r=some row->(row.nilE||Nat.blt 0 row.xs.length)=true->R w0 lab0 oo n ⟨V.slot,V.box,am V.row r (some ⟨row.e,row.t,row.xs,row.deep,true⟩)⟩ E a w:=by
  intro r row hrow' hc;have m:b8 V E w ⟨V.slot,V.box,am V.row r (some ⟨row.e,row.t,row.xs,row.deep,true⟩)⟩ E w:=by
   refine⟨λr' row1 h1=>?_,λb te cs hb=>⟨te,cs,hb,rfl,rfl⟩,λ_ _ _ h1 h2=>⟨h1,h2⟩,λ_ _ _ _ h=>h⟩;by_cases e:r'=r;·subst e;rw[hrow']at h1;injection h1 with h1;subst h1;exact⟨_,aQ _ _ _,rfl,rfl,Nat.le_refl _⟩
   ·exact⟨row1,(aX _ _ e).trans h1,rfl,rfl,Nat.le_refl _⟩
  refine⟨h.bound,h.size,h.defers,λt=>(h.slots t).move m,λb te cs hb=>?_,λr' row1 h1=>?_,h.same⟩;·obtain⟨arr,h1,h2,h3,h4⟩:=h.boxes b te cs hb;exact⟨arr,h1,h2,h3.imp λ_ _ h=>h.move m,h4⟩
  ·by_cases e:r'=r
   ·subst e;have h1':am V.row r' (some ⟨row.e,row.t,row.xs,row.deep,true⟩) r'=some row1:=h1;rw[aQ]at h1';injection h1' with h1';subst h1';obtain⟨css,k1,k2,k3,k4⟩:=h.rows r' row hrow';refine⟨css,k1,k2,k3,λ_ hl=>?_⟩;have hl':row.xs.length=0:=hl;cases hn:row.nilE;·rw[hn,hl']at hc;cases hc
    ·exact k4 hn hl'
   ·have h1':am V.row r (some ⟨row.e,row.t,row.xs,row.deep,true⟩) r'=some row1:=h1;rw[aX _ _ e]at h1';exact h.rows r' row1 h1'
 unfold ul;split
 ·rename_i r hr;split;·rename_i row hrow;refine key r row hrow ?_;unfold pO at hc;rw[hr]at hc;simp only[hrow]at hc;exact hc
  ·exact h
 ·exact h
def uo{F:St->Option J}{r:J}:∀{ls:List (ek×Nat)}{V:St}{E:aH},R w0 lab0 oo n V E a w->nb F ls V=some r->∃V',R w0 lab0 oo n V' E a w/\F V'=some r
 |[],V,E,h,hr=>⟨V,h,hr⟩
 | (l,q)::ls,V,E,h,hr=>by
  simp only[nb]at hr;cases hq:ui q;·rw[hq]at hr;exact uo h hr
  ·rw[hq]at hr;cases hc:pO V l;·rw[hc]at hr;cases hr
   ·rw[hc]at hr;exact uo (Gi h hc) hr
def NP.then{Q:Exit->Act->World->Prop}(h:NP Q)(next:Act->World->Prop):NP (Exit.then next Q):=λc a a' w hq=>h c a a' w hq
def NP.block{Q:Exit->Act->World->Prop}(h:NP Q)(id:Nat):NP (Exit.inBlock id Q):=λc a a' w hq=>h c a a' w hq
def fK(w0:World)(lab0:Nat->aw)(oo:Nat->Value)(n:Nat)(K:Ex->St->Option J)(r:J)(Q:Exit->Act->World->Prop):Prop :=
 ∀e V' E' a' w',K e V'=some r->R w0 lab0 oo n V' E' a' w'->Q (Ge e) a' w'
def fK.join{K:Ex->St->Option J}{r:J}{Q:Exit->Act->World->Prop}(h:fK w0 lab0 oo n K r Q)(j:Option aa):fK w0 lab0 oo n (av j K) r Q:=by
 intro e V' E' a' w' hr hR;cases e with
 |nrm =>obtain⟨σ2,h1,h2⟩:=Option.bind_eq_some_iff.1 hr;obtain⟨E2,g⟩:=un hR h1;exact h .nrm σ2 E2 a' w' h2 g
 |exit i=>exact h (.exit i) V' E' a' w' hr hR
 |ret=>exact h .ret V' E' a' w' hr hR
def fX(hT:aT P T)(hΓ:kw P w0 lab0 Γ)(hm:P.follows .mixedOrders=true):∀(c:Code) (pl:cr) {V:St}{E:aH}{a:Act}{w:World}{K:Ex->St->Option J}{r:J}{Q:Exit->Act->World->Prop},
  dN n c=true->R w0 lab0 oo n V E a w->ak Γ T B N c pl V K=some r->NP Q->fK w0 lab0 oo n K r Q->c.wp P Q a w
 |.skip,pl,V,E,a,w,K,r,Q,_,h,hr,_,hK=>wp_skip (hK .nrm V E a w hr h)
 |.label l,pl,V,E,a,w,K,r,Q,_,h,hr,_,hK=>wp_label (hK .nrm V E a w hr h)
 |.region id ops draw,pl,V,E,a,w,K,r,Q,hc,h,hr,hQ,hK=>F9 hT hΓ hm hc hQ (λV' E' a' w' hr' h'=>hK .nrm V' E' a' w' hr' h') h hr
 |.seq x y,pl,V,E,a,w,K,r,Q,hc,h,hr,hQ,hK=>by
  simp only[dN,Bool.and_eq_true]at hc;refine wp_seq (fX hT hΓ hm x pl.fst hc.1 h hr (hQ.then _) (fK.join ?_ _));intro e V' E' a' w' hr' h';cases e with
  |nrm=>exact fX hT hΓ hm y pl.snd hc.2 h' hr' hQ hK
  |exit i=>exact hK (.exit i) V' E' a' w' hr' h'
  |ret=>exact hK .ret V' E' a' w' hr' h'
 |.cond c x y,pl,V,E,a,w,K,r,Q,hc,h,hr,hQ,hK=>by
  simp only[dN,Bool.and_eq_true]at hc;simp only[ak]at hr;split at hr
  ·rename_i t ht;have hv:=aZ h c;rw[ht]at hv;cases t;·exact wp_cond_false hv (fX hT hΓ hm y pl.snd hc.2 h hr hQ hK)
   ·exact wp_cond_true hv (fX hT hΓ hm x pl.fst hc.1 h hr hQ hK)
  ·cases hr
 |.block id c,pl,V,E,a,w,K,r,Q,hc,h,hr,hQ,hK=>by
  refine wp_block (fX hT hΓ hm c pl.fst hc h hr (hQ.block id) (fK.join ?_ _));intro e V' E' a' w' hr' h';cases e with
  |nrm=>exact hK .nrm V' E' a' w' hr' h'
  |exit i =>
   show if i=id then Q .normal a' w' else Q (.exit i) a' w'
   simp only[nh]at hr';cases hb:Nat.beq i id;·rw[hb]at hr';rw[if_neg λe=>by subst e;rw[Nat.beq_refl]at hb;cases hb];exact hK (.exit i) V' E' a' w' hr' h'
   ·rw[hb]at hr';rw[if_pos (Nat.eq_of_beq_eq_true hb)];exact hK .nrm V' E' a' w' hr' h'
  |ret=>exact hK .ret V' E' a' w' hr' h'
 |.loop c,pl,V,E,a,w,K,r,Q,hc,h,hr,hQ,hK=>by
  simp only[ak]at hr;split at hr
  ·rename_i cl hcl
   classical
   let F:Nat->St->Option J:=λM V=>bN (λV K=>ak Γ T B N c pl.fst V K) cl M V K;let At:Nat->Act->World->Prop:=λM a w=>(∃V E,R w0 lab0 oo n V E a w/\F M V=some r) \/
    (M=N+1/\∃V E,R w0 lab0 oo n V E a w/\ak Γ T B N c pl.snd V (av (some cl) (bX (F N) K))=some r)
   have hstart:∃M,At M a w:=by
    split at hr;·obtain⟨σ0,h1,h2⟩:=Option.bind_eq_some_iff.1 hr;obtain⟨E0,g⟩:=uk h h1;exact⟨N,.inl ⟨σ0,E0,g,h2⟩⟩
    ·obtain⟨σ0,h1,h2⟩:=Option.bind_eq_some_iff.1 hr;obtain⟨E0,g⟩:=uk h h1;exact⟨N+1,.inr ⟨rfl,σ0,E0,g,h2⟩⟩
   refine wp_loop (I:=λa w=>∃M,At M a w) (μ:=λa w=>if hex:∃M,At M a w then gA hex else 0) hstart ?_;intro a w hI;have hμ:(if hex:∃M,At M a w then gA hex else 0)=gA hI:=dif_pos hI;simp only[hμ];have next:∀M V' E' a' w',M<gA hI->F M V'=some r->R w0 lab0 oo n V' E' a' w'->(∃M,At M a' w')/\(if hex:∃M,At M a' w' then gA hex else 0)<gA hI:=by intro M V' E' a' w' hM hr' h';have hA:At M a' w':=.inl ⟨V',E',h',hr'⟩;refine⟨⟨M,hA⟩, ?_⟩;have hμ':(if hex:∃M,At M a' w' then gA hex else 0)=gA (⟨M,hA⟩:∃M,At M a' w'):=dif_pos ⟨M,hA⟩;rw[hμ'];have:=Gh (⟨M,hA⟩:∃M,At M a' w') hA;omega
   rcases Gg hI with⟨σ1,E1,g1,hr1⟩|⟨hM,σ1,E1,g1,hr1⟩
   ·generalize hM:gA hI=M at hr1 next
    cases M with
    |zero=>cases hr1
    |succ M =>
     simp only[F,bN]at hr1;refine fX hT hΓ hm c pl.fst hc g1 hr1 (hQ.then _) (fK.join ?_ _);intro e V' E' a' w' hr' h';cases e with
     |nrm=>exact next M V' E' a' w' (Nat.lt_succ_self M) hr' h'
     |exit i=>exact hK (.exit i) V' E' a' w' hr' h'
     |ret=>exact hK .ret V' E' a' w' hr' h'
   ·refine fX hT hΓ hm c pl.snd hc g1 hr1 (hQ.then _) (fK.join ?_ _);intro e V' E' a' w' hr' h';cases e with
    |nrm=>exact next N V' E' a' w' (by omega) hr' h'
    |exit i=>exact hK (.exit i) V' E' a' w' hr' h'
    |ret=>exact hK .ret V' E' a' w' hr' h'
  ·cases hr
 |.exit id,pl,V,E,a,w,K,r,Q,_,h,hr,_,hK=>by obtain⟨σ2,h1,h2⟩:=Option.bind_eq_some_iff.1 hr;obtain⟨E2,g⟩:=un h h1;exact wp_exit (hK (.exit id) σ2 E2 a w h2 g)
 |.ret,pl,V,E,a,w,K,r,Q,_,h,hr,_,hK=>by obtain⟨σ1,h,hr⟩:=uo h hr;obtain⟨σ2,h1,h2⟩:=Option.bind_eq_some_iff.1 hr;obtain⟨E2,g⟩:=un h h1;exact wp_ret (hK .ret σ2 E2 a w h2 g)
 |.rangeFunc _ _ _ _,_,_,_,_,_,_,_,_,_,_,hr,_,_=>by cases hr
 |.scope _,_,_,_,_,_,_,_,_,_,_,hr,_,_=>by cases hr
 |.goto _,_,_,_,_,_,_,_,_,_,_,hr,_,_=>by cases hr
 |.refuse _,_,_,_,_,_,_,_,_,_,_,hr,_,_=>by cases hr
end
def jd(agg:Bool)(cs:List ae):SV:=match agg,cs with
 |true,cs=>.agg cs
 |false,[c]=>.c c
 |false,_=>.c .undef
def eU:(ps:List PT)->an ps->Nat->List (Nat×SV)×List (Nat×ac)
 |[],_,_=>([],[])
 |⟨t,agg,io⟩::ps,X,i=>match io with
  |false=>((i,jd agg (dm t X.1 none))::(eU ps X.2 (i+1)).1,(eU ps X.2 (i+1)).2)
  |true=>match aE (100000+i) t X.1 0 with
   | (cs,rows,_)=>((i,jd agg cs)::(100000+i,jd agg cs)::(eU ps X.2 (i+1)).1,rows)
def bz(ps:List PT)(X:an ps):St:=ah (eU ps X 0).1 [] (eU ps X 0).2
def gR(T:aY)(V:St):List ResultVar->Option (List SV)
 |[]=>some []
 |.tmp t::rs=>match gR T V rs with
  |some l=>some (ev V (.tmp t)::l)
  |none=>none
 |.cell x ty::rs=>match ev V (.tmp x),T ty,gR T V rs with
  |.c c,some i,some l=>match mB V c i.agg i.zero.length with
   |some s=>some (s::l)
   |none=>none
  |_,_,_=>none
def lH(look:Nat->Option ac):(rs:List PT)->List SV->Option (an rs)
 |[],[]=>some ()
 |p::ps,s::ss=>match fc p.agg s with
  |some cs=>dw (cW look p.t cs) (lH look ps ss)
  |none=>none
 |[],_::_=>none
 |_::_,[]=>none
def fY:List PT->List SV->List ae
 |p::ps,s::ss=>(match fc p.agg s with|some cs=>cs|none=>[])++fY ps ss
 |_,_=>[]
def ni(V:St):(ps:List PT)->Nat->Option (cA ps)
 |[],_=>some ()
 |⟨t,agg,false⟩::ps,i=>ni V ps (i+1)
 |⟨t,agg,true⟩::ps,i=>match fc agg (V.slot (100000+i))with
  |some cs=>cW V.row t cs
  |none=>none
def kA(V:St):(ps:List PT)->Nat->List ae
 |[],_=>[]
 |⟨t,agg,false⟩::ps,i=>kA V ps (i+1)
 |⟨t,agg,true⟩::ps,i=>match fc agg (V.slot (100000+i))with
  |some cs=>cs
  |none=>[]
def nj(look:Nat->Option ac):List ae->Bool
 |[.nil]=>true
 |[.own r]=>match look r with
  |some row=>row.nilE||Nat.blt 0 row.xs.length
  |none=>false
 |_=>false
def fZ{α:Type}(look:Nat->Option ac):List PT->List SV->Option α->Option α
 |p::ps,s::ss,X=>cond p.io (match fc p.agg s with
  |some cs=>cond (nj look cs) (fZ look ps ss X) none
  |none=>none) (fZ look ps ss X)
 |[],_,X=>X
 |_::_,[],X=>X
def up(look:Nat->Option ac):List PT->List SV->Prop
 |p::ps,s::ss=>(p.io=true->∀cs,fc p.agg s=some cs->nj look cs=true)/\up look ps ss
 |[],_=>True
 |_::_,[]=>True
def nk{α:Type}{look:Nat->Option ac}{r:α}:∀{rs:List PT}{ss:List SV}{X:Option α},fZ look rs ss X=some r->up look rs ss/\X=some r
 |[],_,_,h=>⟨trivial,h⟩
 |_::_,[],_,h=>⟨trivial,h⟩
 |p::ps,s::ss,X,h=>by
  simp only[fZ]at h;cases hio:p.io;·rw[hio]at h;obtain⟨h1,h2⟩:=nk (show fZ look ps ss X=some r from h);exact⟨⟨(λhq=>by rw[hio]at hq;cases hq),h1⟩,h2⟩
  ·rw[hio]at h;simp only[cond_true]at h;split at h
   ·rename_i cs hcs;cases hq:nj look cs;·rw[hq]at h;cases h
    rw[hq]at h;obtain⟨h1,h2⟩:=nk (show fZ look ps ss X=some r from h);exact⟨⟨λ_ cs' hcs'=>by rw[hcs]at hcs';injection hcs' with hcs';subst hcs';exact hq,h1⟩,h2⟩
   ·cases h
def pP(T:aY)(sig:bv)(rv:List ResultVar)(V:St):Option (cA sig.ps×an sig.rs) :=
 match gR T V rv with
 |some ss=>cond (cY (aA (fY sig.rs ss++kA V sig.ps 0))) (fZ V.row sig.rs ss (dw (ni V sig.ps 0) (lH V.row sig.rs ss))) none
 |none=>none
def uq(T:aY)(sig:bv)(rv:List ResultVar):Ex->St->Option (cA sig.ps×an sig.rs)
 |.nrm,V=>pP T sig rv V
 |.ret,V=>pP T sig rv V
 |.exit _,_=>none
section
variable {P : Program} {V V' : St} {E E' : aH} {w w' : World} {w0 : World} {lab0 : Nat → aw} {oo : Nat → Value} {n : Nat} {a : Act} {T : aY} {Γ : Gm} {B : Nat → Option aa} {N : Nat} [DC]
def nn{agg:Bool}{cs:List ae}{us:List Value}{v:Value}(hc:eT agg v us)(h:ai (aj V E w) cs us):aF V E w (jd agg cs) v:=by
 cases agg
 ·obtain rfl:us=[v]:=hc;cases cs with
  |nil=>exact True.intro
  |cons c cs=>cases cs with
   |nil=>exact h.1
   |cons _ _=>exact True.intro
 ·obtain⟨arr,rfl,rfl⟩:=hc;exact⟨arr,rfl,h⟩
def np{α:Type}:∀{l l':List (Nat×α)}{t:Nat},ay (l++l') t=match ay l t with|some v=>some v|none=>ay l' t
 |[],_,_=>rfl
 | (k,v)::l,l',t=>by
  simp only[List.cons_append,ay];cases Nat.beq t k;·exact np
  ·rfl
def ur(d:Nat)(t:Ty):∀(y:t.den) (j:Nat),∀p∈(aE d t y j).2.1,ay (aE d t y j).2.1 p.1=some p.2:=by
 induction t with
 |int k=>intro y j p hp;simp[aE]at hp
 |bool=>intro y j p hp;simp[aE]at hp
 |fnc g=>intro y j p hp;simp[aE]at hp
 |str=>intro y j p hp;simp[aE]at hp
 |err=>intro y j p hp;simp[aE]at hp
 |sl e t _ =>intro y j p hp;simp only[aE,List.mem_singleton]at hp;subst hp;simp[aE,ay]
 |pair t1 t2 ih1 ih2 =>
  intro y j p hp;simp only[aE,List.mem_append]at hp ⊢;rw[np];rcases hp with hp|hp;·rw[ih1 _ _ p hp]
  ·cases hl:ay (aE d t1 y.1 j).2.1 p.1 with
   |none=>exact ih2 _ _ p hp
   |some v =>have h1:=(fC d).2 _ (d8 hl);have h2:=(fC d).2 p hp;obtain⟨i1,_,a1,b1⟩:=h1;obtain⟨i2,a2,_,b2⟩:=h2;have:=kc (b1.symm.trans b2);exact absurd (Nat.lt_of_lt_of_le a1 a2) (by rw[this];exact Nat.lt_irrefl _)
def Gj{L:List Nat}:∀{ps:List PT}{vs:List Value}{X:an ps}{i:Nat},dG w L ps vs X->(bQ ps=true->L=[])->de ps=true->L.Nodup ->
  ∃(f:Nat->aw) (rvf:Nat->Value),(∀k∈L,f k≠.st) /\
   ∀(V:St) (E:aH),(∀k,k∈L->E.lab k=f k)->(∀k,k∉L->E.lab k=.st)->E.rv=rvf->(∀r row,ay (eU ps X i).2 r=some row->V.row r=some row) ->
    (∀p∈(eU ps X i).1,∃j v,vs[j]? = some v/\(p.1=i+j\/p.1=100000+(i+j))/\aF V E w p.2 v) /\
    (∀r row,ay (eU ps X i).2 r=some row->bJ w E.lab r row (E.rv r)):=by
 intro ps;have ro:∀{p:PT}{v:Value}{x:p.t.den}{V:St}{E:aH},(∃cs,eT p.agg v cs/\Rd w (λk=>k∉L) p.t cs x)->(∀k,k∉L->E.lab k=.st)->aF V E w (jd p.agg (dm p.t x none)) v:=by
  rintro p v x V E ⟨cs,h1,h2⟩ hl
  exact nn h1 (jP (p:=none) (h2.mono λk hk=>hl k hk))
 have ros:∀{ps:List PT}{vs:List Value}{X:an ps}{i:Nat},bQ ps=true->dG w L ps vs X->(eU ps X i).2=[]/\∀(V:St) (E:aH),(∀k,k∉L->E.lab k=.st)->∀p∈(eU ps X i).1,∃j v,vs[j]? = some v/\(p.1=i+j\/p.1=100000+(i+j))/\aF V E w p.2 v:=by
  intro ps;induction ps with
  |nil=>intro vs X i _ _;exact⟨rfl,λV E _ p hp=>by simp[eU]at hp⟩
  |cons p ps ih =>
   intro vs X i hn ha;cases vs with
   |nil=>exact ha.elim
   |cons v vs =>
    obtain⟨t,agg,io⟩:=p;simp only[bQ,List.all_cons,Bool.and_eq_true,Bool.not_eq_true']at hn;obtain⟨hio,hn⟩:=hn;subst hio;obtain⟨h1,h2⟩:=ha;obtain⟨g1,g2⟩:=ih (i:=i+1) hn h2;refine⟨g1,λV E hl p hp=>?_⟩;rcases List.mem_cons.1 hp with rfl|hp;·exact⟨0,v,rfl,.inl rfl,ro (p:=⟨t,agg,false⟩) h1 hl⟩
    ·obtain⟨j,v',k1,k2,k3⟩:=g2 V E hl p hp;exact⟨j+1,v',(by simpa using k1),k2.elim (λe=>.inl (by omega)) (λe=>.inr (by omega)),k3⟩
 induction ps with
 |nil =>intro vs X i ha hn ho hL;have hL0:=hn rfl;subst hL0;refine⟨λ_=>.dead,λ_=>undef,(λk hk=>by cases hk),λV E _ _ _ _=>⟨λp hp=>by simp[eU]at hp,λr row hr=>by simp[eU,ay]at hr⟩⟩
 |cons p ps ih =>
  intro vs X i ha hn ho hL;cases vs with
  |nil=>exact ha.elim
  |cons v vs =>
   obtain⟨t,agg,io⟩:=p;obtain⟨h1,h2⟩:=ha;cases io
   ·obtain⟨f,rvf,k1,k2⟩:=ih (i:=i+1) h2 (λhq=>hn (by simpa[bQ]using hq)) ho hL;refine⟨f,rvf,k1,λV E e1 e2 e3 e4=>?_⟩;obtain⟨g1,g2⟩:=k2 V E e1 e2 e3 e4;refine⟨λp hp=>?_,g2⟩;rcases List.mem_cons.1 hp with rfl|hp;·exact⟨0,v,rfl,.inl rfl,ro (p:=⟨t,agg,false⟩) h1 e2⟩
    ·obtain⟨j,v',k1,k2,k3⟩:=g1 p hp;exact⟨j+1,v',(by simpa using k1),k2.elim (λe=>.inl (by omega)) (λe=>.inr (by omega)),k3⟩
   ·obtain⟨cs,hcv,hown⟩:=h1;have hown:az w t L cs X.1:=hown;obtain⟨f,rvf,k1,k2⟩:=ke (100000+i) (j:=0) hown hL;obtain⟨r1,r2⟩:=ros (i:=i+1) ho h2;have hrows:(eU (⟨t,agg,true⟩::ps) X i).2=(aE (100000+i) t X.1 0).2.1:=rfl;refine⟨f,rvf,λk hk=>?_,λV E e1 e2 e3 e4=>?_⟩;·obtain⟨i',_,_,hf⟩:=k1 k hk;rcases hf with hf|hf<;>rw[hf]<;>simp
    ·rw[hrows]at e4;have hmem:∀p∈(aE (100000+i) t X.1 0).2.1,ay (aE (100000+i) t X.1 0).2.1 p.1=some p.2:=ur _ _ _ _;obtain⟨g1,g2⟩:=k2 V E e1 (λp hp=>by rw[e3]) (λp hp=>e4 _ _ (hmem p hp));refine⟨λp hp=>?_,λr row hr=>?_⟩
     ·rcases List.mem_cons.1 hp with rfl|hp;·exact⟨0,v,rfl,.inl rfl,nn hcv g1⟩
      rcases List.mem_cons.1 hp with rfl|hp;·exact⟨0,v,rfl,.inr rfl,nn hcv g1⟩
      ·obtain⟨j,v',k1,k2,k3⟩:=r2 V E e2 p hp;exact⟨j+1,v',(by simpa using k1),k2.elim (λe=>.inl (by omega)) (λe=>.inr (by omega)),k3⟩
     ·rw[hrows]at hr;exact g2 (r,row) (d8 hr)
def ut{sl:List (Nat×SV)}{σ0:St}{v:Value}{t:Nat}(h:∀p∈sl,p.1=t->aF σ0 E w p.2 v):aF σ0 E w (eG sl t) v:=by
 unfold eG;split;·rename_i s hs;exact h _ (d8 hs) rfl
 ·exact(show aj σ0 E w .undef v from True.intro)
def ip(ts:Array Value):ResultVar->Sem Value
 |.tmp t=>pure (ts.getD t undef)
 |.cell x t=>do loadVar t (<-asAddr (ts.getD x undef))
def Gk(fn:Func)(ts:Array Value):results fn ts=(do let vs <-fn.results.mapM (ip ts);pure (if h:vs.size=1 then vs[0]else .tuple vs)):=by
 unfold results;have:(λx:ResultVar=>match x with
  |.tmp t=>pure (ts.getD t undef)
  |.cell x t=>do loadVar t (<-asAddr (ts.getD x undef)))=ip ts:=by
  funext x;cases x<;>rfl
 rw[<-this];rfl
def nq(hT:aT P T)(h:R w0 lab0 oo n V E a w):∀{rv:List ResultVar}{ss:List SV},gR T V rv=some ss ->
  ∃vs:List Value,ai (aF V E w) ss vs/\(rv.mapM (ip a.tmps)).run P w=.ok vs w:=by
 intro rv;induction rv with
 |nil =>intro ss hr;injection hr with hr;subst hr;exact⟨[],trivial,by simp⟩
 |cons r rv ih =>
  intro ss hr;cases r with
  |tmp t =>
   simp only[gR]at hr;split at hr;·rename_i l hl;injection hr with hr;subst hr;obtain⟨vs,h1,h3⟩:=ih hl;refine⟨a.eval (.tmp t)::vs,⟨aZ h (.tmp t),h1⟩, ?_⟩;have h0:(ip a.tmps (.tmp t)).run P w=.ok (a.eval (.tmp t)) w:=rfl;rw[List.mapM_cons,Sem.run_bind,h0];show((do let bs <-rv.mapM (ip a.tmps);pure (a.eval (.tmp t)::bs)):Sem (List Value)).run P w=_;rw[Sem.run_bind,h3];rfl
   ·cases hr
  |cell x ty =>
   simp only[gR]at hr;split at hr
   ·rename_i c i l hc hi hl;split at hr
    ·rename_i s hs;injection hr with hr;subst hr;obtain⟨vs,h1,h3⟩:=ih hl;have hx:=aZ h (.tmp x);rw[hc]at hx;obtain⟨v,g1,g2⟩:=sA hT h hi hs hx;have g1:=g1 w (bE.refl w);have hx2:a.eval (.tmp x)=a.tmps.getD x undef:=rfl;rw[hx2]at g1;refine⟨v::vs,⟨g2,h1⟩, ?_⟩;have h0:(ip a.tmps (.cell x ty)).run P w=.ok v w:=by
      have ha:∃ad,a.tmps.getD x undef=.pointer (some ad):=by
       obtain⟨cs,hl',_⟩:∃cs,iN V c i.zero.length=some cs/\True:=by
        unfold mB at hs;split at hs;·rename_i cs hcs;exact⟨cs,hcs,trivial⟩
        ·cases hs
       obtain⟨ad,vs',f,e,_⟩:=sy h hl' (show aj V E w c (a.tmps.getD x undef)from hx);exact⟨_,e⟩
      obtain⟨ad,ha⟩:=ha;show((do loadVar ty (<-asAddr (a.tmps.getD x undef)):Sem Value)).run P w=_;rw[ha]at g1 ⊢;exact g1
     rw[List.mapM_cons,Sem.run_bind,h0];show((do let bs <-rv.mapM (ip a.tmps);pure (v::bs)):Sem (List Value)).run P w=_;rw[Sem.run_bind,h3];rfl
    ·cases hr
   ·cases hr
def nr{fn:Func}{vs:List Value}(h:(fn.results.toList.mapM (ip a.tmps)).run P w=.ok vs w):∃v,(results fn a.tmps).run P w=.ok v w/\j9 vs v:=by
 have h2:(fn.results.mapM (ip a.tmps)).run P w=.ok vs.toArray w:=by rw[show fn.results=fn.results.toList.toArray from by simp,List.mapM_toArray];simp[h]
 rw[Gk,Sem.run_bind,h2];match vs with
 |[]=>exact⟨.tuple #[],by simp,rfl⟩
 |[u]=>exact⟨u,by simp,rfl⟩
 |u::u'::vs=>exact⟨.tuple (u::u'::vs).toArray,by simp,rfl⟩
def Gl(h:R w0 lab0 oo n V E a w){io:Bool}{t:Ty}{cs:List ae}{us:List Value}{y:t.den}(hz:io=true->nj V.row cs=true)(hp:cW V.row t cs=some y)(hc:ai (aj V E w) cs us):tf io t us y:=by
 cases t with
 |sl e t =>
  intro hio hl;have hz:=hz hio;rcases sF (show gl V.row e t cs=some y from hp)with⟨rfl,rfl⟩|⟨r,row,rfl,hr,rfl,hd,rfl,rfl⟩;·obtain⟨u,rfl,hu⟩:=bT hc;obtain rfl:u=_:=hu;rfl
  ·obtain⟨u,rfl,hu⟩:=bT hc;obtain⟨rfl,_⟩:=hu;obtain⟨css,_,_,_,h4⟩:=h.rows r row hr;have hl:row.xs.length=0:=hl;simp only[nj,hr,hl]at hz;rw[h4 (by simpa using hz) hl]
 |int k=>trivial
 |bool=>trivial
 |str=>trivial
 |err=>trivial
 |fnc g=>trivial
 |pair a b=>trivial
def pQ(h:R w0 lab0 oo n V E a w):∀{rs:List PT}{ss:List SV}{vs:List Value}{Y:an rs},lH V.row rs ss=some Y->up V.row rs ss->ai (aF V E w) ss vs->(aA (fY rs ss)).Nodup ->
  ∃Lr,j8 w rs vs Y Lr/\Lr.Nodup/\∀k∈Lr,∃q∈aA (fY rs ss),cZ E.lab q k
 |[],[],[],Y,_,_,_,_=>⟨[],rfl,List.nodup_nil,λk hk=>by cases hk⟩
 |p::ps,s::ss,v::vs,Y,hp,hz,hs,hn=>by
  simp only[lH]at hp;split at hp
  ·rename_i cs hcs;obtain⟨h1,h2⟩:=dx hp;obtain⟨us,k1,k2⟩:=kg hcs hs.1;have hcells:fY (p::ps) (s::ss)=cs++fY ps ss:=by simp[fY,hcs]
   rw[hcells,fy]at hn ⊢;obtain⟨n1,n2,n3⟩:=List.nodup_append.1 hn;obtain⟨L1,o1,o2,o3⟩:=fA h h1 k2 n1;obtain⟨L2,g1,g2,g3⟩:=pQ h h2 hz.2 hs.2 n2;refine⟨L1++L2,⟨us,L1,L2,rfl,k1,o1,Gl h (λhio=>hz.1 hio cs hcs) h1 k2,g1⟩,List.nodup_append.2 ⟨o2,g2,λx hx y hy e=>?_⟩,λk hk=>?_⟩;·subst e;obtain⟨q,q1,q2⟩:=o3 x hx;obtain⟨q',q1',q2'⟩:=g3 x hy;exact n3 q q1 q' q1' (ii q2 q2')
   ·rcases List.mem_append.1 hk with hk|hk;·obtain⟨q,q1,q2⟩:=o3 k hk;exact⟨q,List.mem_append_left _ q1,q2⟩
    ·obtain⟨q,q1,q2⟩:=g3 k hk;exact⟨q,List.mem_append_right _ q1,q2⟩
  ·cases hp
 |[],[],_::_,_,_,_,hs,_=>hs.elim
 |[],_::_,_,_,hp,_,_,_=>by cases hp
 |_::_,[],_,_,hp,_,_,_=>by cases hp
 |_::_,_::_,[],_,_,_,hs,_=>hs.elim
def uu(h:R w0 lab0 oo n V E a w):∀{ps:List PT}{i:Nat}{vs:List Value}{y:cA ps},ni V ps i=some y->vs.length=ps.length->(∀j v,vs[j]? = some v->oo (100000+(i+j))=v)->(aA (kA V ps i)).Nodup ->
  ∃L',iR w L' ps vs y/\L'.Nodup/\∀k∈L',∃q∈aA (kA V ps i),cZ E.lab q k
 |[],i,vs,y,_,_,_,_=>⟨[],rfl,List.nodup_nil,λk hk=>by cases hk⟩
 |⟨t,agg,false⟩::ps,i,v::vs,y,hr,hl,hv,hn=>by obtain⟨L',g1,g2,g3⟩:=uu h (ps:=ps) (i:=i+1) (vs:=vs) (y:=y) hr (by simpa using hl) (λj v' hj=>by have:=hv (j+1) v' (by simpa using hj);rwa [show i+1+j=i+(j+1)from by omega]) hn;exact⟨L',g1,g2,g3⟩
 |⟨t,agg,true⟩::ps,i,v::vs,y,hr,hl,hv,hn=>by
  simp only[ni]at hr;simp only[kA]at hn ⊢;split at hr
  ·rename_i cs hcs;rw[hcs]at hn;simp only at hn ⊢;have hs:=h.slots (100000+i);have hval:cI oo a (100000+i)=v:=by unfold cI;rw[if_neg (by omega)];exact hv 0 v rfl
   rw[hval]at hs;obtain⟨us,k1,k2⟩:=kg hcs hs;obtain⟨L,o1,o2,o3⟩:=fA h hr k2 hn;exact⟨L,⟨us,k1,o1⟩,o2,o3⟩
  ·cases hr
 |_::_,_,[],_,_,hl,_,_=>by simp at hl
def dG.len{L:List Nat}:∀{ps:List PT}{vs:List Value}{X:an ps},dG w L ps vs X->vs.length=ps.length
 |[],[],_,_=>rfl
 |p::ps,v::vs,X,h=>by simp[dG.len h.2]
 |[],_::_,_,h=>h.elim
 |_::_,[],_,h=>h.elim
def Ty.bd:(t:Ty)->t.den->Prop
 |.sl _ t,xs=>xs.length<=maxLen/\∀x∈xs,t.bd x
 |.pair a b,x=>a.bd x.1/\b.bd x.2
 |.int _,_=>True
 |.bool,_=>True
 |.str,_=>True
 |.err,_=>True
 |.fnc _,_=>True
def yQ{α β:Type}{Q:α->β->Prop}{p:β->Prop}(hp:∀a b,Q a b->p b):∀{as:List α}{bs:List β},ai Q as bs->∀b∈bs,p b
 |[],[],_,_,hb=>by cases hb
 |_::_,_::_,h,b,hb=>by
  rcases List.mem_cons.1 hb with rfl|hb;·exact hp _ _ h.1
  ·exact yQ hp h.2 b hb
 |[],_::_,h,_,_=>h.elim
 |_::_,[],h,_,_=>h.elim
def Rd.bd{S:Nat->Prop}:∀{t:Ty}{cs:List Value}{x:t.den},Rd w S t cs x->t.bd x
 |.int _,_,_,_=>trivial
 |.bool,_,_,_=>trivial
 |.str,_,_,_=>trivial
 |.err,_,_,_=>trivial
 |.fnc _,_,_,_=>trivial
 |.pair a b,_,_,h=>by obtain⟨c1,c2,_,h1,h2⟩:=h;exact⟨h1.bd,h2.bd⟩
 |.sl e t,_,xs,h=>by
  obtain⟨A,n,c,_,h1,h2,h3,h4⟩:=h;refine⟨by omega,λx hx=>?_⟩;rcases h4 with rfl|⟨ad,css,_,_,h5,_⟩;·rw[List.eq_nil_of_length_eq_zero h1]at hx;cases hx
  ·exact yQ (p:=λx=>t.bd x) (λ_ _ hr=>hr.bd) h5 x hx
def az.bd:∀{t:Ty}{L:List Nat}{cs:List Value}{x:t.den},az w t L cs x->t.bd x:=λh=>(h.rd (S:=λ_=>True) λ_ _=>trivial).bd
def fi:(ps:List PT)->an ps->Prop
 |[],_=>True
 |p::ps,X=>p.t.bd X.1/\fi ps X.2
def dG.bd{L:List Nat}:∀{ps:List PT}{vs:List Value}{X:an ps},dG w L ps vs X->fi ps X
 |[],[],_,_=>trivial
 |p::ps,v::vs,X,h=>by
  refine⟨?_,h.2.bd⟩;obtain⟨cs,_,h1⟩:=h.1;cases hio:p.io;·rw[hio]at h1;exact Rd.bd h1
  ·rw[hio]at h1;exact az.bd h1
 |[],_::_,_,h=>h.elim
 |_::_,[],_,h=>h.elim
theorem Gp [Inv P] {f : Nat} {fn : Func} {c : Code} {sig : bv} {pre : Option (an sig.ps → Bool)} {val : an sig.ps → cA sig.ps × an sig.rs} {pl : cr} {je : Option aa} (hf : P.funcs[f]? = some fn) (hb : fn.body = some c) (hname : (fn.name == "runtime.NumGoroutine") = false)
  (hm:P.follows .mixedOrders=true) (hT:aT P T) (hΓ:aq P Γ) (hc:dN fn.ntmps c=true) (hn:Nat.ble sig.ps.length fn.ntmps=true) (hn2:Nat.ble fn.ntmps 100000=true) (hone:de sig.ps=true)
  (hG:∀X,fi sig.ps X->bS pre X=true->∃N,ak Γ T B N c pl (bz sig.ps X) (av je (uq T sig fn.results.toList))=some (val X)):aB P f ⟨sig,pre,val⟩:=by
 intro w args L X y Y ha hno hL hlt hg hI hBL;have hg:cond (bS pre X) (some (val X)) none=some (y,Y):=hg;obtain⟨N,hr⟩:∃N,ak Γ T B N c pl (bz sig.ps X) (av je (uq T sig fn.results.toList))=some (y,Y):=by
  cases hp:bS pre X;·rw[hp]at hg;cases hg
  ·rw[hp]at hg;rw[<-hg];exact hG X ha.bd hp
 have hn:=Nat.le_of_ble_eq_true hn;have hn2:=Nat.le_of_ble_eq_true hn2;have hlen:args.size=sig.ps.length:=by have:=dG.len ha;simpa using this
 refine .inl ⟨?_, ?_⟩
 ·have h1 : ¬ fn.name = "runtime.NumGoroutine" := by simpa using hname
  have h2:¬ fn.body=none:=by rw[hb];simp
  simp[callFunc,hf,h1,h2]
 obtain⟨f0,rvf,k1,k2⟩:=Gj (i:=0) ha hno hone hL
 classical
 let lab0:Nat->aw:=λk=>if k∈L then f0 k else .st
 let E:aH:=⟨lab0,rvf,λ_=>0⟩;let oo:Nat->Value:=λt=>args.getD (t-100000) undef;have hlab1:∀k,k∈L->E.lab k=f0 k:=λk hk=>if_pos hk;have hlab2:∀k,k∉L->E.lab k=.st:=λk hk=>if_neg hk;obtain⟨g1,g2⟩:=k2 (bz sig.ps X) E hlab1 hlab2 rfl (λr row h=>h);have hsz:(args++Array.replicate (fn.ntmps-args.size) undef).size=fn.ntmps:=by rw[Array.size_append,Array.size_replicate];omega
 have hR:R w lab0 oo fn.ntmps (bz sig.ps X) E { tmps:=args++Array.replicate (fn.ntmps-args.size) undef,defers:=[] } w:=by
  refine⟨hn2,hsz,rfl,λt=>?_,λb te cs hb=>?_,λr row hr=>g2 r row hr,⟨rfl,⟨rfl,λ_=>Nat.le_refl _⟩,rfl,Nat.le_refl _,λk hk hl=>⟨hl,rfl⟩,λk hk hl=>⟨hl,rfl⟩⟩⟩
  ·show aF _ E w (eG (eU sig.ps X 0).1 t) _;refine ut λp hp e=>?_;obtain⟨j,v,j1,j2,j3⟩:=g1 p hp;have hj:j<args.size:=by have:=(List.getElem?_eq_some_iff.1 j1).1;simpa using this
   have hval:cI oo { tmps:=args++Array.replicate (fn.ntmps-args.size) undef,defers:=[] } t=v:=by
    subst e;unfold cI;rcases j2 with j2|j2
    ·rw[if_pos (by omega),j2];simp only[Nat.zero_add,Array.getD_eq_getD_getElem?];rw[Array.getElem?_append_left hj];have:args[j]? = some v:=by simpa using j1
     rw[this];rfl
    ·rw[if_neg (by omega),j2];show args.getD (100000+(0+j)-100000) undef=v;rw[show 100000+(0+j)-100000=j from by omega,Array.getD_eq_getD_getElem?];have:args[j]? = some v:=by simpa using j1
     rw[this];rfl
   rw[hval];exact j3
  ·cases hb
 have hend:∀V' E' a' w',pP T sig fn.results.toList V'=some (y,Y)->R w lab0 oo fn.ntmps V' E' a' w'->a'.defers=[]/\∃v,(results fn a'.tmps).run P w'=.ok v w' /\
   ∃vs L' Lr,Ending.returned v=Ending.returned v/\tg w sig args.toList L y Y v w' vs L' Lr:=by
  intro V' E' a' w' hfin h';refine⟨h'.defers, ?_⟩;unfold pP at hfin;split at hfin
  ·rename_i ss hss;cases hq:cY (aA (fY sig.rs ss++kA V' sig.ps 0));·rw[hq]at hfin;cases hfin
   rw[hq]at hfin;obtain⟨hz,hfin⟩:=nk (show fZ V'.row sig.rs ss _=some (y,Y)from hfin);obtain⟨p1,p2⟩:=dx (z:=(y,Y)) hfin;have hnd:=gq hq;rw[fy]at hnd;obtain⟨n1,n2,n3⟩:=List.nodup_append.1 hnd;obtain⟨vs,v1,v2⟩:=nq hT h' hss;obtain⟨v,r1,r2⟩:=nr v2;obtain⟨Lr,l1,l2,l3⟩:=pQ h' p2 hz v1 n1;obtain⟨L',m1,m2,m3⟩:=uu h' (vs:=args.toList) p1 (dG.len ha) (λj u hu=>by
    show args.getD (100000+(0+j)-100000) undef=u;rw[show 100000+(0+j)-100000=j from by omega,Array.getD_eq_getD_getElem?];have:args[j]? = some u:=by simpa using hu
    rw[this];rfl) n2
   have hold:∀k q,cZ E'.lab q k->k∈L\/w.heap.size<=k:=by
    intro k q hk;by_cases h1:k∈L;·exact .inl h1
    ·refine .inr (Nat.le_of_not_lt λhlt=>?_);have:=(h'.same.old k hlt (hlab2 k h1)).1;rcases hk with hk|hk<;>rw[this]at hk<;>cases hk
   refine⟨v,r1,vs,L',Lr,rfl,r2,l1,m1,List.nodup_append.2 ⟨l2,m2,λx hx z hz e=>?_⟩,λk hk=>?_,λk hk=>?_,h'.same.os,h'.same.tape,h'.same.output,h'.same.size,λk hk hkL=>(h'.same.old k hk (hlab2 k hkL)).2⟩;·subst e;obtain⟨q,q1,q2⟩:=l3 x hx;obtain⟨q',q1',q2'⟩:=m3 x hz;exact n3 q q1 q' q1' (ii q2 q2')
   ·obtain⟨q,q1,q2⟩:=l3 k hk;exact hold k q q2
   ·obtain⟨q,q1,q2⟩:=m3 k hk;exact hold k q q2
  ·cases hfin
 refine calls_of_wp hf hb (fX hT (hΓ.at hI λk hk=>hlab2 k λhl=>hBL k hl hk) hm c pl hc hR hr ?_ (fK.join ?_ _));·intro ch a a' w' hq;obtain⟨_,v,vs,L',Lr,he,_⟩:=hq;cases he
 ·intro e V' E' a' w' hr' h';cases e with
  |nrm =>obtain⟨d1,v,d2,vs,L',Lr,d3,d4⟩:=hend V' E' a' w' hr' h';exact⟨d1,v,d2,v,vs,L',Lr,rfl,d4⟩
  |ret =>obtain⟨d1,v,d2,vs,L',Lr,d3,d4⟩:=hend V' E' a' w' hr' h';exact⟨d1,v,d2,v,vs,L',Lr,rfl,d4⟩
  |exit i=>cases hr'
end
def bK:(ps:List PT)->an ps->Nat->Nat->List (Nat×SV)×List (Nat×ac)
 |[],_,_,_=>([],[])
 |⟨t,agg,false⟩::ps,X,i,j=>((i,jd agg (dm t X.1 none))::(bK ps X.2 (i+1) j).1,(bK ps X.2 (i+1) j).2)
 |⟨t,agg,true⟩::ps,X,i,j=>match aE 100000 t X.1 j with
  | (cs,rows,j1)=>((i,jd agg cs)::(bK ps X.2 (i+1) j1).1,rows++(bK ps X.2 (i+1) j1).2)
def dO:(rf:Rf)->(ps:List PT)->cg rf×an ps->St
 |none,ps,X=>ah (bK ps X.2 0 0).1 [] (bK ps X.2 0 0).2
 |some p,ps,X=>match aE 100000 p.2 X.1 0 with
  | (cs,rows,j1)=>ah ((0,.c (.box 100000 0))::(100000,.c (.box 100000 0))::(bK ps X.2 1 j1).1) [(100000,(p.1,cs))] (rows++(bK ps X.2 1 j1).2)
def pR(V:St):Rf->Option (List ae)
 |none=>some []
 |some p=>match V.box 100000 with
  |some (te,cs)=>cond (Nat.beq te p.1) (some cs) none
  |none=>none
def lI(V:St):Rf->Bool
 |none=>true
 |some _=>match V.slot 100000 with
  |.c (.box 100000 0)=>true
  |_=>false
def pS(T:aY)(rf:Rf)(rs:List PT)(rv:List ResultVar)(V:St):Option (cg rf×an rs) :=
 match gR T V rv,pR V rf with
 |some ss,some cs=>cond (lI V rf&&cY (aA (fY rs ss++cs))) (fZ V.row rs ss (dw (yf V.row rf cs) (lH V.row rs ss))) none
 |_,_=>none
def yR(T:aY)(rf:Rf)(rs:List PT)(rv:List ResultVar):Ex->St->Option (cg rf×an rs)
 |.nrm,V=>pS T rf rs rv V
 |.ret,V=>pS T rf rs rv V
 |.exit _,_=>none
def jf:Rf->List PT->Nat
 |none,ps=>ps.length
 |some _,ps=>ps.length+1
def uv:(rf:Rf)->cg rf->Prop
 |none,_=>True
 |some p,x=>p.2.bd x
section
variable {P : Program} {V V' : St} {E E' : aH} {w w' : World} {w0 : World} {lab0 : Nat → aw} {oo : Nat → Value} {n : Nat} {a : Act} {T : aY} {Γ : Gm} {B : Nat → Option aa} {N : Nat} [DC]
def da.len{S:Nat->Prop}:∀{ps:List PT}{vs:List Value}{X:an ps}{L:List Nat},da w S ps vs X L->vs.length=ps.length
 |[],[],_,_,_=>rfl
 |p::ps,v::vs,X,L,h=>by obtain⟨_,_,_,_,_,_,h⟩:=h;simp[da.len h]
 |[],_::_,_,_,h=>h.elim
 |_::_,[],_,_,h=>h.elim
def da.bd{S:Nat->Prop}:∀{ps:List PT}{vs:List Value}{X:an ps}{L:List Nat},da w S ps vs X L->fi ps X
 |[],[],_,_,_=>trivial
 |p::ps,v::vs,X,L,h=>by
  obtain⟨cs,L1,L2,_,_,h1,h2⟩:=h;refine⟨?_,h2.bd⟩;cases hio:p.io;·rw[hio]at h1;exact Rd.bd h1.2
  ·rw[hio]at h1;exact az.bd h1
 |[],_::_,_,_,h=>h.elim
 |_::_,[],_,_,h=>h.elim
def uw{ps:List PT}:∀{X:an ps}{i j:Nat},∀p∈(bK ps X i j).2,∃q,j<=q/\p.1=aN 100000 q:=by
 induction ps with
 |nil=>intro X i j p hp;simp[bK]at hp
 |cons p0 ps ih =>
  intro X i j p hp;obtain⟨t,agg,io⟩:=p0;cases io;·exact ih (X:=X.2) p hp
  ·simp only[bK,List.mem_append]at hp;rcases hp with hp|hp;·obtain⟨q,q1,_,q2⟩:=(fC 100000).2 p hp;exact⟨q,q1,q2⟩
   ·obtain⟨q,q1,q2⟩:=ih (X:=X.2) p hp;exact⟨q,Nat.le_trans (fC 100000).1 q1,q2⟩
def yS{l1 l2:List (Nat×ac)}{j1:Nat}(h1:∀p∈l1,ay l1 p.1=some p.2)(h2:∀p∈l2,ay l2 p.1=some p.2)(m1:∀p∈l1,∃q,q<j1/\p.1=aN 100000 q)(m2:∀p∈l2,∃q,j1<=q/\p.1=aN 100000 q):∀p∈l1++l2,ay (l1++l2) p.1=some p.2:=by
 intro p hp;rw[np];rcases List.mem_append.1 hp with hp|hp;·rw[h1 p hp]
 ·cases hl:ay l1 p.1 with
  |none=>exact h2 p hp
  |some v =>obtain⟨q,q1,q2⟩:=m1 _ (d8 hl);obtain⟨q',q3,q4⟩:=m2 p hp;have:=kc (q2.symm.trans q4);omega
def ux{t:Ty}{y:t.den}{j:Nat}:∀p∈(aE 100000 t y j).2.1,∃q,q<(aE 100000 t y j).2.2/\p.1=aN 100000 q:=λp hp=>by obtain⟨q,_,q1,q2⟩:=(fC 100000).2 p hp;exact⟨q,q1,q2⟩
def uy{ps:List PT}:∀{X:an ps}{i j:Nat},∀p∈(bK ps X i j).2,ay (bK ps X i j).2 p.1=some p.2:=by
 induction ps with
 |nil=>intro X i j p hp;simp[bK]at hp
 |cons p0 ps ih =>
  intro X i j;obtain⟨t,agg,io⟩:=p0;cases io;·exact ih (X:=X.2)
  ·exact yS (ur 100000 t X.1 j) (ih (X:=X.2)) ux uw
def ns{S:Nat->Prop}:∀{ps:List PT}{vs:List Value}{X:an ps}{L:List Nat}{i j:Nat},da w S ps vs X L->L.Nodup ->
  ∃(f:Nat->aw) (rvf:Nat->Value),(∀k∈L,∃q,f k=.row (aN 100000 q)\/f k=.inn (aN 100000 q)) /\
   ∀(V:St) (E:aH),(∀k∈L,E.lab k=f k)->(∀k,S k->E.lab k=.st)->(∀p∈(bK ps X i j).2,E.rv p.1=rvf p.1)->(∀p∈(bK ps X i j).2,V.row p.1=some p.2) ->
    (∀p∈(bK ps X i j).1,∃m v,vs[m]? = some v/\p.1=i+m/\aF V E w p.2 v)/\∀p∈(bK ps X i j).2,bJ w E.lab p.1 p.2 (E.rv p.1):=by
 intro ps;induction ps with
 |nil =>
  intro vs X L i j ha hn;cases vs with
  |cons _ _=>exact ha.elim
  |nil =>obtain rfl:L=[]:=ha;exact⟨λ_=>.st,λ_=>undef,(λk hk=>by cases hk),λV E _ _ _ _=>⟨λp hp=>by simp[bK]at hp,λp hp=>by simp[bK]at hp⟩⟩
 |cons p0 ps ih =>
  intro vs X L i j ha hn;cases vs with
  |nil=>exact ha.elim
  |cons v vs =>
   obtain⟨cs,L1,L2,rfl,hcv,h1,h2⟩:=ha;obtain⟨n1,n2,n3⟩:=List.nodup_append.1 hn;obtain⟨t,agg,io⟩:=p0;cases io
   ·obtain⟨rfl,hrd⟩:=h1;obtain⟨f,rvf,k1,k2⟩:=ih (i:=i+1) (j:=j) h2 n2;refine⟨f,rvf,k1,λV E e1 e2 e3 e4=>?_⟩;obtain⟨g1,g2⟩:=k2 V E e1 e2 e3 e4;refine⟨λp hp=>?_,g2⟩;rcases List.mem_cons.1 hp with rfl|hp;·exact⟨0,v,rfl,rfl,nn hcv (jP (p:=none) (hrd.mono λk hk=>e2 k hk))⟩
    ·obtain⟨m,v',q1,q2,q3⟩:=g1 p hp;exact⟨m+1,v',by simpa using q1,by omega,q3⟩
   ·have hown:az w t L1 cs X.1:=h1;obtain⟨f1,v1,a1,b1⟩:=ke 100000 (j:=j) hown n1;obtain⟨f2,v2,a2,b2⟩:=ih (i:=i+1) (j:=(aE 100000 t X.1 j).2.2) h2 n2;have m1:∀p∈(aE 100000 t X.1 j).2.1,∃q,q<(aE 100000 t X.1 j).2.2/\p.1=aN 100000 q:=ux;have m2:∀p∈(bK ps X.2 (i+1) (aE 100000 t X.1 j).2.2).2,∃q,(aE 100000 t X.1 j).2.2<=q/\p.1=aN 100000 q:=uw;refine⟨λk=>if k∈L1 then f1 k else f2 k,λq=>if ∃p∈(aE 100000 t X.1 j).2.1,p.1=q then v1 q else v2 q,λk hk=>?_,λV E e1 e2 e3 e4=>?_⟩
    ·by_cases hk1:k∈L1;·obtain⟨q,_,_,hq⟩:=a1 k hk1;exact⟨q,by simpa[hk1]using hq⟩
     ·obtain⟨q,hq⟩:=a2 k ((List.mem_append.1 hk).resolve_left hk1);exact⟨q,by simpa[hk1]using hq⟩
    ·have hm:(bK (⟨t,agg,true⟩::ps) X i j)=((i,jd agg (aE 100000 t X.1 j).1)::(bK ps X.2 (i+1) (aE 100000 t X.1 j).2.2).1,(aE 100000 t X.1 j).2.1++(bK ps X.2 (i+1) (aE 100000 t X.1 j).2.2).2):=rfl;rw[hm]at e3 e4 ⊢;obtain⟨g1,g2⟩:=b1 V E (λk hk=>(e1 k (List.mem_append_left _ hk)).trans (if_pos hk)) (λp hp=>(e3 p (List.mem_append_left _ hp)).trans (if_pos ⟨p,hp,rfl⟩)) (λp hp=>e4 p (List.mem_append_left _ hp));obtain⟨g3,g4⟩:=b2 V E (λk hk=>(e1 k (List.mem_append_right _ hk)).trans (if_neg λh'=>n3 k h' k hk rfl)) e2 (λp hp=>(e3 p (List.mem_append_right _ hp)).trans (if_neg λ⟨p',hp',e⟩=>by obtain⟨q,q1,q2⟩:=m1 p' hp';obtain⟨q',q3,q4⟩:=m2 p hp;have:=kc (q2.symm.trans (e.trans q4));omega)) (λp hp=>e4 p (List.mem_append_right _ hp));refine⟨λp hp=>?_,λp hp=>?_⟩
     ·rcases List.mem_cons.1 hp with rfl|hp;·exact⟨0,v,rfl,rfl,nn hcv g1⟩
      ·obtain⟨m,v',q1,q2,q3⟩:=g3 p hp;exact⟨m+1,v',by simpa using q1,by omega,q3⟩
     ·rcases List.mem_append.1 hp with hp|hp;·exact g2 p hp
      ·exact g4 p hp
structure Gq(P:Program)(w:World)(rf:Rf)(ps:List PT)(args:Array Value)(X:cg rf×an ps)(L:List Nat)(E:aH):Prop where
 inl:∀k∈L,E.lab k≠.st
 out:∀k,k∉L->E.lab k=.st
 slots:∀t s,ay (match rf,X with|none,X=>(bK ps X.2 0 0).1|some p,X=>(0,.c (.box 100000 0))::(100000,.c (.box 100000 0))::(bK ps X.2 1 (aE 100000 p.2 X.1 0).2.2).1) t=some s ->
  aF (dO rf ps X) E w s (if t<100000 then args.getD t undef else args.getD (t-100000) undef)
 boxes:∀b te cs,(dO rf ps X).box b=some (te,cs)->gO (dO rf ps X) E w b te cs
 rows:∀r row,(dO rf ps X).row r=some row->bJ w E.lab r row (E.rv r)
def jg{args:Array Value}{m:Nat}{v:Value}(h:args.toList[m]? = some v):args.getD m undef=v:=by
 rw[Array.getD_eq_getD_getElem?];have:args[m]? = some v:=by simpa using h
 rw[this];rfl
def nu:Rf->Bool
 |none=>true
 |some p=>Nat.blt p.1 bM
def Gr{rf:Rf}{ps:List PT}{args:Array Value}{X:cg rf×an ps}{L:List Nat}(ha:il w (λk=>k∉L) rf ps args.toList X.1 X.2 L)(hn:L.Nodup)(hlen:jf rf ps<=100000)(hrf:nu rf=true):∃E,Gq P w rf ps args X L E:=by
 classical
 cases rf with
 |none =>
  have ha:da w (λk=>k∉L) ps args.toList X.2 L:=ha;obtain⟨f,rvf,k1,k2⟩:=ns (i:=0) (j:=0) ha hn;have hl:=ha.len;have hlen:ps.length<=100000:=hlen;let E:aH:=⟨λk=>if k∈L then f k else .st,rvf,λ_=>0⟩;have e1:∀k∈L,E.lab k=f k:=λk hk=>if_pos hk;have e2:∀k,k∉L->E.lab k=.st:=λk hk=>if_neg hk;obtain⟨g1,g2⟩:=k2 (dO none ps X) E e1 e2 (λp hp=>rfl) (λp hp=>uy p hp);refine⟨E,⟨λk hk=>?_,e2,λt s hs=>?_,λb te cs hb=>(by cases hb),λr row hr=>g2 (r,row) (d8 hr)⟩⟩;·obtain⟨q,hq⟩:=k1 k hk;rw[e1 k hk];rcases hq with hq|hq<;>rw[hq]<;>simp
  ·obtain⟨m,v,q1,q2,q3⟩:=g1 _ (d8 hs);have hm:m<args.toList.length:=(List.getElem?_eq_some_iff.1 q1).1;simp only at q2;rw[if_pos (by omega),show t=m by omega,jg q1];exact q3
 |some p =>
  match hal:args.toList,ha with
  |[],ha=>exact ha.elim
  |v0::vs0,ha =>
  obtain⟨g,L1,L2,rfl,⟨hv0,arr,m1,m2,m3⟩,ha⟩:=ha;obtain⟨ng,hn12⟩:=List.nodup_cons.1 hn;obtain⟨n1,n2,n3⟩:=List.nodup_append.1 hn12;obtain⟨f1,v1,a1,b1⟩:=ke 100000 (j:=0) m3 n1;obtain⟨f2,v2,a2,b2⟩:=ns (i:=1) (j:=(aE 100000 p.2 X.1 0).2.2) ha n2;have hl:=ha.len;have hlen:ps.length+1<=100000:=hlen;have h1:∀q∈(aE 100000 p.2 X.1 0).2.1,∃i,i<(aE 100000 p.2 X.1 0).2.2/\q.1=aN 100000 i:=ux;have h2:∀q∈(bK ps X.2 1 (aE 100000 p.2 X.1 0).2.2).2,∃i,(aE 100000 p.2 X.1 0).2.2<=i/\q.1=aN 100000 i:=uw;let E:aH:=⟨λk=>if k=g then .box 100000 else if k∈L1 then f1 k else if k∈L2 then f2 k else .st,λq=>if ∃p'∈(aE 100000 p.2 X.1 0).2.1,p'.1=q then v1 q else v2 q,λ_=>g⟩;have lg:E.lab g=.box 100000:=if_pos rfl;have l1:∀k∈L1,E.lab k=f1 k:=λk hk=>(if_neg λ(e:k=g)=>ng (by rw[<-e];exact List.mem_append_left _ hk)).trans (if_pos hk);have l2:∀k∈L2,E.lab k=f2 k:=λk hk=>(if_neg λ(e:k=g)=>ng (by rw[<-e];exact List.mem_append_right _ hk)).trans ((if_neg λh'=>n3 k h' k hk rfl).trans (if_pos hk));have lo:∀k,k∉g::(L1++L2)->E.lab k=.st:=λk hk=>(if_neg λe=>hk (by simp[e])).trans ((if_neg λh'=>hk (by simp[h'])).trans (if_neg λh'=>hk (by simp[h'])));have hall:∀q∈(aE 100000 p.2 X.1 0).2.1++(bK ps X.2 1 (aE 100000 p.2 X.1 0).2.2).2,(dO (some p) ps X).row q.1=some q.2:=yS (ur 100000 p.2 X.1 0) uy h1 h2;obtain⟨g1,g2⟩:=b1 (dO (some p) ps X) E l1 (λq hq=>if_pos ⟨q,hq,rfl⟩) (λq hq=>hall q (List.mem_append_left _ hq));obtain⟨g3,g4⟩:=b2 (dO (some p) ps X) E l2 lo (λq hq=>if_neg λ⟨p',hp',e⟩=>by obtain⟨i,i1,i2⟩:=h1 p' hp';obtain⟨i',i3,i4⟩:=h2 q hq;have:=kc (i2.symm.trans (e.trans i4));omega) (λq hq=>hall q (List.mem_append_right _ hq));have hbox:(dO (some p) ps X).box 100000=some (p.1,(aE 100000 p.2 X.1 0).1):=rfl;have hcs:0<(aE 100000 p.2 X.1 0).1.length:=by rw[mO];exact p.2.nc_pos
  have h0:args.getD 0 undef=v0:=jg (by rw[hal];rfl);have hptr:aF (dO (some p) ps X) E w (.c (.box 100000 0)) v0:=⟨hv0,_,_,hbox,hcs⟩;refine⟨E,⟨λk hk=>?_,lo,λt s hs=>?_,λb te cs hb=>?_,λr row hr=>?_⟩⟩
  ·rcases List.mem_cons.1 hk with rfl|hk;·rw[lg];simp
   rcases List.mem_append.1 hk with hk|hk;·obtain⟨q,_,_,hq⟩:=a1 k hk;rw[l1 k hk];rcases hq with hq|hq<;>rw[hq]<;>simp
   ·obtain⟨q,hq⟩:=a2 k hk;rw[l2 k hk];rcases hq with hq|hq<;>rw[hq]<;>simp
  ·rcases List.mem_cons.1 (d8 hs)with e|hm;·injection e with e1 e2;subst e1 e2;rw[if_pos (by omega),h0];exact hptr
   rcases List.mem_cons.1 hm with e|hm;·injection e with e1 e2;subst e1 e2;rw[if_neg (by omega),Nat.sub_self,h0];exact hptr
   ·obtain⟨m,v,q1,q2,q3⟩:=g3 _ hm;have hm':m<vs0.length:=(List.getElem?_eq_some_iff.1 q1).1;simp only at q2;rw[if_pos (by omega),show t=m+1 by omega,jg (by rw[hal];simpa using q1)];exact q3
  ·have hb':ay [(100000,(p.1,(aE 100000 p.2 X.1 0).1))] b=some (te,cs):=hb;have:=d8 hb';simp only[List.mem_singleton,Prod.mk.injEq]at this;obtain⟨rfl,rfl,rfl⟩:=this;exact⟨arr,.inl ⟨by simpa[nu]using hrf,m1⟩,lg,g1,m2⟩
  ·have hr':ay ((aE 100000 p.2 X.1 0).2.1++(bK ps X.2 1 (aE 100000 p.2 X.1 0).2.2).2) r=some row:=hr;rcases List.mem_append.1 (d8 hr')with hm|hm;·exact g2 (r,row) hm
   ·exact g4 (r,row) hm
def il.len{S:Nat->Prop}{rf:Rf}{ps:List PT}{vs:List Value}{x:cg rf}{X:an ps}{L:List Nat}(h:il w S rf ps vs x X L):vs.length=jf rf ps:=by
 cases rf with
 |none=>exact da.len h
 |some p =>
  cases vs with
  |nil=>exact h.elim
  |cons v vs =>obtain⟨g,L1,L2,_,_,h⟩:=h;simp[jf,h.len]
def il.bd{S:Nat->Prop}{rf:Rf}{ps:List PT}{vs:List Value}{x:cg rf}{X:an ps}{L:List Nat}(h:il w S rf ps vs x X L):uv rf x/\fi ps X:=by
 cases rf with
 |none=>exact⟨trivial,da.bd h⟩
 |some p =>
  cases vs with
  |nil=>exact h.elim
  |cons v vs =>obtain⟨g,L1,L2,_,⟨_,arr,_,_,h1⟩,h⟩:=h;exact⟨h1.bd,h.bd⟩
theorem Gs [Inv P] {f : Nat} {fn : Func} {c : Code} {rf : Rf} {ps rs : List PT} {pre : Option (cg rf × an ps → Bool)} {val : cg rf × an ps → cg rf × an rs} {pl : cr} {je : Option aa} (hf : P.funcs[f]? = some fn) (hb : fn.body = some c) (hname : (fn.name == "runtime.NumGoroutine") = false)
  (hm:P.follows .mixedOrders=true) (hT:aT P T) (hΓ:aq P Γ) (hc:dN fn.ntmps c=true) (hn:Nat.ble (jf rf ps) fn.ntmps=true) (hn2:Nat.ble fn.ntmps 100000=true)
  (hG:∀X,uv rf X.1->fi ps X.2->bS pre X=true->∃N,ak Γ T B N c pl (dO rf ps X) (av je (yR T rf rs fn.results.toList))=some (val X)) (hsm:nu rf=true:=by rfl):dL P f ⟨rf,ps,rs,pre,val⟩:=by
 intro w args L X ha hL hlt hpre hI hBL;obtain⟨hb1,hb2⟩:=il.bd ha;obtain⟨N,hr⟩:=hG X hb1 hb2 hpre;have hn:=Nat.le_of_ble_eq_true hn;have hn2:=Nat.le_of_ble_eq_true hn2;have hlen:args.size=jf rf ps:=by have:=il.len ha;simpa using this
 refine .inl ⟨?_, ?_⟩
 ·have h1 : ¬ fn.name = "runtime.NumGoroutine" := by simpa using hname
  have h2:¬ fn.body=none:=by rw[hb];simp
  simp[callFunc,hf,h1,h2]
 obtain⟨E,st⟩:=Gr (P:=P) ha hL (show jf rf ps<=100000 by omega) hsm;let oo:Nat->Value:=λt=>args.getD (t-100000) undef;have hsz:(args++Array.replicate (fn.ntmps-args.size) undef).size=fn.ntmps:=by rw[Array.size_append,Array.size_replicate];omega
 have hund:∀t,args.size<=t->(args++Array.replicate (fn.ntmps-args.size) undef).getD t undef=undef:=by
  intro t ht;rw[Array.getD_eq_getD_getElem?,Array.getElem?_append_right ht];by_cases h:t-args.size<fn.ntmps-args.size;·simp[Array.getElem?_replicate,h]
  ·simp[Array.getElem?_replicate,h]
 have hR:R w E.lab oo fn.ntmps (dO rf ps X) E { tmps:=args++Array.replicate (fn.ntmps-args.size) undef,defers:=[] } w:=by
  refine⟨hn2,hsz,rfl,λt=>?_,st.boxes,st.rows,⟨rfl,⟨rfl,λ_=>Nat.le_refl _⟩,rfl,Nat.le_refl _,λk hk hl=>⟨hl,rfl⟩,λk hk hl=>⟨hl,rfl⟩⟩⟩;have hval:cI oo { tmps:=args++Array.replicate (fn.ntmps-args.size) undef,defers:=[] } t=if t<100000 then args.getD t undef else args.getD (t-100000) undef:=by
   unfold cI;by_cases ht:t<100000
   ·rw[if_pos ht,if_pos ht];by_cases hlt:t<args.size;·simp only[Array.getD_eq_getD_getElem?];rw[Array.getElem?_append_left hlt]
    ·rw[hund t (by omega),Array.getD_eq_getD_getElem?,Array.getElem?_eq_none (by omega)];rfl
   ·rw[if_neg ht,if_neg ht]
  rw[hval];have key:∀l:List (Nat×SV),(dO rf ps X).slot t=eG l t->(∀s,ay l t=some s->aF (dO rf ps X) E w s (if t<100000 then args.getD t undef else args.getD (t-100000) undef))->aF (dO rf ps X) E w ((dO rf ps X).slot t) (if t<100000 then args.getD t undef else args.getD (t-100000) undef):=by
   intro l hl hh;rw[hl];unfold eG;split;·rename_i s hs;exact hh s hs
   ·show True;trivial
  cases rf with
  |none=>exact key _ rfl λs hs=>st.slots t s hs
  |some p=>exact key _ rfl λs hs=>st.slots t s hs
 have hend:∀V' E' a' w',pS T rf rs fn.results.toList V'=some (val X)->R w E.lab oo fn.ntmps V' E' a' w'->a'.defers=[]/\∃v,(results fn a'.tmps).run P w'=.ok v w' /\
   ∃vs Lf Lr,Ending.returned v=Ending.returned v/\tx w ⟨rf,ps,rs,pre,val⟩ args.toList L (val X) v w' vs Lf Lr:=by
  intro V' E' a' w' hfin h';refine⟨h'.defers, ?_⟩;unfold pS at hfin;split at hfin
  ·rename_i ss cs hss hrf;cases hq:(lI V' rf&&cY (aA (fY rs ss++cs)));·rw[hq]at hfin;cases hfin
   rw[hq]at hfin;simp only[Bool.and_eq_true]at hq;obtain⟨hz,hfin⟩:=nk (show fZ V'.row rs ss _=some (val X)from hfin);obtain⟨p1,p2⟩:=dx (z:=val X) hfin;have hnd:=gq hq.2;rw[fy]at hnd;obtain⟨n1,n2,n3⟩:=List.nodup_append.1 hnd;obtain⟨vs,v1,v2⟩:=nq hT h' hss;obtain⟨v,r1,r2⟩:=nr v2;obtain⟨Lr,l1,l2,l3⟩:=pQ h' p2 hz v1 n1;have hold:∀k q,cZ E'.lab q k->k∈L\/w.heap.size<=k:=by
    intro k q hk;by_cases h1:k∈L;·exact .inl h1
    ·refine .inr (Nat.le_of_not_lt λhlt=>?_);have:=(h'.same.old k hlt (st.out k h1)).1;rcases hk with hk|hk<;>rw[this]at hk<;>cases hk
   obtain⟨Lf,m1,m2,m3,m4⟩:∃Lf,ye w' rf args.toList (val X).1 Lf/\Lf.Nodup/\(∀k∈Lf,∃q∈aA cs,cZ E'.lab q k)/\∀g p,rf=some p->args.toList.head? = some (.pointer (some ⟨g,0,none⟩))->E'.lab g=.box 100000:=by
    cases rf with
    |none=>exact⟨[],rfl,List.nodup_nil,(λk hk=>by cases hk),λg p hp=>by cases hp⟩
    |some p =>
     simp only[pR]at hrf;split at hrf
     ·rename_i te cs' hbx;cases hte:Nat.beq te p.1;·rw[hte]at hrf;cases hrf
      rw[hte]at hrf;injection hrf with hrf;subst hrf;obtain rfl:=Nat.eq_of_beq_eq_true hte;obtain⟨arr,k1,k2,k3,k4⟩:=h'.boxes 100000 _ _ hbx;have k1:=k1.cells (by simpa[nu]using hsm);obtain⟨Lf,o1,o2,o3⟩:=fA h' p1 k3 n2;have hs0:aF V' E' w' (V'.slot 100000) (cI oo a' 100000):=h'.slots 100000;have hk:=hq.1;simp only[lI]at hk;split at hk
      ·rename_i hsl;rw[hsl]at hs0;obtain⟨hp,_⟩:=(show aj V' E' w' (.box 100000 0) _ from hs0);match hal:args.toList,hlen with
       |[],hlen=>
        have:args.size=0:=by simpa using congrArg List.length hal
        rw[this]at hlen;simp[jf]at hlen
       |u::us,hlen =>
       have hu:cI oo a' 100000=u:=by unfold cI;rw[if_neg (by omega)];exact jg (by rw[hal];rfl)
       rw[hu]at hp;refine⟨Lf,⟨E'.bb 100000,⟨hp,arr,k1,k4,o1⟩,λhm=>?_⟩,o2,o3,λg p' _ hg=>?_⟩;·obtain⟨q,_,hq'⟩:=o3 _ hm;rcases hq' with hq'|hq'<;>rw[k2]at hq'<;>cases hq'
       ·simp only[List.head?_cons,Option.some.injEq]at hg;rw[hp]at hg;injection hg with hg;injection hg with hg;injection hg with hg;rw[<-hg];exact k2
      ·cases hk
     ·cases hrf
   refine⟨v,r1,vs,Lf,Lr,rfl,r2,l1,m1,List.nodup_append.2 ⟨l2,m2,λx hx z hz e=>?_⟩,λk hk=>?_,λg p hp hg hm=>?_,h'.same.os,h'.same.tape,h'.same.output,h'.same.size,λk hk hkL=>(h'.same.old k hk (st.out k hkL)).2⟩;·subst e;obtain⟨q,q1,q2⟩:=l3 x hx;obtain⟨q',q1',q2'⟩:=m3 x hz;exact n3 q q1 q' q1' (ii q2 q2')
   ·rcases List.mem_append.1 hk with hk|hk;·obtain⟨q,q1,q2⟩:=l3 k hk;exact hold k q q2
    ·obtain⟨q,q1,q2⟩:=m3 k hk;exact hold k q q2
   ·have hlg:=m4 g p hp hg;rcases List.mem_append.1 hm with hm|hm;·obtain⟨q,_,hq'⟩:=l3 _ hm;rcases hq' with hq'|hq'<;>rw[hlg]at hq'<;>cases hq'
    ·obtain⟨q,_,hq'⟩:=m3 _ hm;rcases hq' with hq'|hq'<;>rw[hlg]at hq'<;>cases hq'
  ·cases hfin
 refine calls_of_wp hf hb (fX hT (hΓ.at hI λk hk=>st.out k λhl=>hBL k hl hk) hm c pl hc hR hr ?_ (fK.join ?_ _));·intro ch a a' w' hq;obtain⟨_,v,vs,L',Lr,he,_⟩:=hq;cases he
 ·intro e V' E' a' w' hr' h';cases e with
  |nrm =>obtain⟨d1,v,d2,vs,L',Lr,d3,d4⟩:=hend V' E' a' w' hr' h';exact⟨d1,v,d2,v,vs,L',Lr,rfl,d4⟩
  |ret =>obtain⟨d1,v,d2,vs,L',Lr,d3,d4⟩:=hend V' E' a' w' hr' h';exact⟨d1,v,d2,v,vs,L',Lr,rfl,d4⟩
  |exit i=>cases hr'
end
def ba:Gm:=⟨λ_=>none,λ_=>none,λ_=>none,λ_=>none,λ_=>none⟩
def aq.nil[DC]{P:Program}[Inv P]:aq P ba:=⟨λf en h=>(by cases h),λf en h=>(by cases h),λf en h=>(by cases h),λf en h=>(by cases h),λf en h=>(by cases h)⟩
def aR(Γ:Gm)(f:Nat)(en:aW):Gm:=⟨λk=>cond (Nat.beq k f) (some en) (Γ.g k),Γ.m,Γ.v,Γ.n,Γ.s⟩
def addM(Γ:Gm)(f:Nat)(en:fe):Gm:=⟨Γ.g,λk=>cond (Nat.beq k f) (some en) (Γ.m k),Γ.v,Γ.n,Γ.s⟩
def addV(Γ:Gm)(f:Nat)(en:dM):Gm:=⟨Γ.g,Γ.m,λk=>cond (Nat.beq k f) (some en) (Γ.v k),Γ.n,Γ.s⟩
def addN(Γ:Gm)(f:Nat)(en:gw):Gm:=⟨Γ.g,Γ.m,Γ.v,λk=>cond (Nat.beq k f) (some en) (Γ.n k),Γ.s⟩
def pT(rs:List PT):Bool:=rs.all λp=>p.agg||Nat.beq p.t.nc 1
def uz{rs:List PT}(hf:pT rs=true):∀p∈rs,p.agg=false->p.t.nc=1:=λp hp ha=>by have:=List.all_eq_true.1 hf p hp;rw[ha]at this;exact Nat.eq_of_beq_eq_true (by simpa using this)
def aq.add[DC]{P:Program}[Inv P]{Γ:Gm}(h:aq P Γ){f:Nat}{en:aW}(he:aB P f en)(hf:pT en.sig.rs=true):aq P (aR Γ f en):=by
 refine⟨λk en' hk=>?_,h.m,h.v,h.n,h.s⟩;simp only[aR]at hk;cases hb:Nat.beq k f;·rw[hb]at hk;exact h.g k en' hk
 ·rw[hb]at hk;injection hk with hk;subst hk;obtain rfl:=Nat.eq_of_beq_eq_true hb;exact⟨he,uz hf⟩
def aq.addM[DC]{P:Program}[Inv P]{Γ:Gm}(h:aq P Γ){f:Nat}{en:fe}(he:dL P f en)(hf:pT en.rs=true):aq P (addM Γ f en):=by
 refine⟨h.g,λk en' hk=>?_,h.v,h.n,h.s⟩;simp only[Fw.addM]at hk;cases hb:Nat.beq k f;·rw[hb]at hk;exact h.m k en' hk
 ·rw[hb]at hk;injection hk with hk;subst hk;obtain rfl:=Nat.eq_of_beq_eq_true hb;exact⟨he,uz hf⟩
def aq.addV[DC]{P:Program}[Inv P]{Γ:Gm}(h:aq P Γ){f:Nat}{en:dM}(he:db P f en)(hf:pT en.rs=true):aq P (addV Γ f en):=by
 refine⟨h.g,h.m,λk en' hk=>?_,h.n,h.s⟩;simp only[Fw.addV]at hk;cases hb:Nat.beq k f;·rw[hb]at hk;exact h.v k en' hk
 ·rw[hb]at hk;injection hk with hk;subst hk;obtain rfl:=Nat.eq_of_beq_eq_true hb;exact⟨he,uz hf⟩
def aq.addN[DC]{P:Program}[Inv P]{Γ:Gm}(h:aq P Γ){f:Nat}{en:gw}(he:iT P f en):aq P (addN Γ f en):=by
 refine⟨h.g,h.m,h.v,λk en' hk=>?_,h.s⟩;simp only[Fw.addN]at hk;cases hb:Nat.beq k f;·rw[hb]at hk;exact h.n k en' hk
 ·rw[hb]at hk;injection hk with hk;subst hk;obtain rfl:=Nat.eq_of_beq_eq_true hb;exact he
def bf(f:Func):Code:=match f.body with|some c=>c|none=>.skip
def ab(n:Int):Int:=IntKind.i64.wrap n
def w8(n:Int):Int:=IntKind.u8.wrap n
def au(n:Int)(m:Nat):Bool:=decide (0<=n)&&decide (n<(m:Int))
def lK:(l:List (Nat×Ty))->List Value->cP l->List ae
 |[],_,_=>[]
 |p::l,v::vs,x=>.bor v p.1 p.2 x.1::lK l vs x.2
 |_::_,[],_=>[]
def pU:List PT->Nat->List Nat
 |[],_=>[]
 |p::ps,i=>cond p.io (i::pU ps (i+1)) (pU ps (i+1))
def pV(l:List (Nat×SV)):List Nat->List (Nat×SV)
 |[]=>[]
 |i::is=>(100000+i,eG l i)::pV l is
def pW(ps:List PT)(X:an ps):List (Nat×SV):=(0,.c (.box 100000 0))::(100000,.c (.box 100000 0))::((bK ps X 1 0).1++pV (bK ps X 1 0).1 (pU ps 1))
def dr(k:cO)(ps:List PT)(lit:List Value)(X:(cP k.fx×k.t.den)×an ps):St :=
 ah (pW ps X.2) [(100000,(k.te,lK k.fx lit X.1.1++dm k.t X.1.2 none))] (bK ps X.2 1 0).2
def nv:List ae->Option (List Value)
 |[]=>some []
 |.bor v _ _ _::cs=>match nv cs with
  |some l=>some (v::l)
  |none=>none
 |_=>none
def yT(V:St):(back:Bool)->(ps:List PT)->Option (fG back ps)
 |true,ps=>ni V ps 1
 |false,_=>some ()
def nw(V:St):Bool->List PT->List ae
 |true,ps=>kA V ps 1
 |false,_=>[]
def pX(T:aY)(k:cO)(ps:List PT)(back:Bool)(rs:List PT)(rv:List ResultVar)(V:St):Option (List Value×(k.t.den×(fG back ps×an rs))) :=
 match gR T V rv,pR V (some (k.te,k.t))with
 |some ss,some cs=>cond (lI V (some (k.te,k.t))&&(cY (aA (fY rs ss++nw V back ps))&&(aA (cs.drop k.fx.length)).isEmpty))
  (fZ V.row rs ss (dw (nv (cs.take k.fx.length)) (dw (cW V.row k.t (cs.drop k.fx.length)) (dw (yT V back ps) (lH V.row rs ss))))) none
 |_,_=>none
def yU(T:aY)(k:cO)(ps:List PT)(back:Bool)(rs:List PT)(rv:List ResultVar):Ex->St->Option (List Value×(k.t.den×(fG back ps×an rs)))
 |.nrm,V=>pX T k ps back rs rv V
 |.ret,V=>pX T k ps back rs rv V
 |.exit _,_=>none
def pY:(l:List (Nat×Ty))->cP l->Prop
 |[],_=>True
 |p::l,x=>(Ty.sl p.1 p.2).bd x.1/\pY l x.2
section
variable {P : Program} {V V' : St} {E E' : aH} {w w' : World} {w0 : World} {lab0 : Nat → aw} {oo : Nat → Value} {n : Nat} {a : Act} {T : aY} {Γ : Gm} {B : Nat → Option aa} {N : Nat} [DC]
def gv.bd{S:Nat->Prop}:∀{l:List (Nat×Ty)}{vs:List Value}{x:cP l},gv w S l vs x->pY l x
 |[],[],_,_=>trivial
 |p::l,v::vs,x,h=>⟨Rd.bd (t:=.sl p.1 p.2) h.1,h.2.bd⟩
 |[],_::_,_,h=>h.elim
 |_::_,[],_,h=>h.elim
def yV:∀{l:List (Nat×Ty)}{vs:List Value}{x:cP l},gv w (λk=>E.lab k=.st) l vs x->ai (aj V E w) (lK l vs x) vs
 |[],[],_,_=>trivial
 |p::l,v::vs,x,h=>⟨⟨rfl,h.1⟩,yV h.2⟩
 |[],_::_,_,h=>h.elim
 |_::_,[],_,h=>h.elim
def uA:∀{cs:List ae}{l us:List Value},nv cs=some l->ai (aj V E w) cs us->us=l
 |[],l,[],h,_=>by injection h with h
 |[],l,_::_,h,hc=>hc.elim
 |c::cs,l,[],h,hc=>hc.elim
 |c::cs,l,u::us,h,hc=>by
  cases c with
  |bor v e t xs =>
   simp only[nv]at h;split at h;·rename_i l' hl;injection h with h;subst h;rw[uA hl hc.2,show u=v from hc.1.1]
   ·cases h
  |_=>cases h
def yW{l:List (Nat×SV)}:∀{is:List Nat}{p:Nat×SV},p∈pV l is->∃i∈is,p=(100000+i,eG l i)
 |i::is,p,h=>by
  rcases List.mem_cons.1 h with rfl|h;·exact⟨i,List.mem_cons_self,rfl⟩
  ·obtain⟨j,h1,h2⟩:=yW h;exact⟨j,List.mem_cons_of_mem _ h1,h2⟩
structure Gt(w:World)(k:cO)(ps:List PT)(args:Array Value)(lit:List Value)(X:(cP k.fx×k.t.den)×an ps)(g:Nat)(L:List Nat)(E:aH):Prop where
 out:∀k,k∉g::L->E.lab k=.st
 slots:∀t s,ay (pW ps X.2) t=some s->aF (dr k ps lit X) E w s (if t<100000 then args.getD t undef else args.getD (t-100000) undef)
 boxes:∀b te cs,(dr k ps lit X).box b=some (te,cs)->gO (dr k ps lit X) E w b te cs
 rows:∀r row,(dr k ps lit X).row r=some row->bJ w E.lab r row (E.rv r)
def Gu{k:cO}{ps:List PT}{args:Array Value}{lit:List Value}{X:(cP k.fx×k.t.den)×an ps}{g:Nat}{L:List Nat}(ha:tG w (λk=>k∉g::L) k ps args.toList X lit g L)(hn:(g::L).Nodup)(hlen:ps.length+1<=100000)(hsm:Nat.blt k.te bM=true):∃E,Gt w k ps args lit X g L E:=by
 classical
 obtain⟨v0,vs0,hal,⟨hv0,arr,cm,m1,m2,m3,m4,m5⟩,ha⟩:=ha;obtain⟨ng,hnL⟩:=List.nodup_cons.1 hn;obtain⟨f2,v2,a2,b2⟩:=ns (i:=1) (j:=0) ha hnL;have hl:=ha.len;let E:aH:=⟨λk=>if k=g then .box 100000 else if k∈L then f2 k else .st,v2,λ_=>g⟩;have lg:E.lab g=.box 100000:=if_pos rfl;have l2:∀k∈L,E.lab k=f2 k:=λk hk=>(if_neg λ(e:k=g)=>ng (by rw[<-e];exact hk)).trans (if_pos hk);have lo:∀k,k∉g::L->E.lab k=.st:=λk hk=>(if_neg λe=>hk (by simp[e])).trans (if_neg λh'=>hk (by simp[h']));obtain⟨g3,g4⟩:=b2 (dr k ps lit X) E l2 lo (λq hq=>rfl) (λq hq=>uy q hq);have hbox:(dr k ps lit X).box 100000=some (k.te,lK k.fx lit X.1.1++dm k.t X.1.2 none):=rfl;have hflat:ai (aj (dr k ps lit X) E w) (dm k.t X.1.2 none) cm:=mR m5;have hcs:0<(lK k.fx lit X.1.1++dm k.t X.1.2 none).length:=by have e1:=hflat.len;have e2:=m5.len;have:=k.t.nc_pos;rw[List.length_append];omega
 have h0:args.getD 0 undef=v0:=jg (by rw[hal];rfl);have hptr:aF (dr k ps lit X) E w (.c (.box 100000 0)) v0:=⟨hv0,_,_,hbox,hcs⟩;have hsl:∀t s,ay (bK ps X.2 1 0).1 t=some s->1<=t/\t<100000/\aF (dr k ps lit X) E w s (args.getD t undef):=λt s hs=>by obtain⟨m,v,q1,q2,q3⟩:=g3 _ (d8 hs);have hm':m<vs0.length:=(List.getElem?_eq_some_iff.1 q1).1;simp only at q2;refine⟨by omega,by omega, ?_⟩;rw[show t=m+1 by omega,jg (by rw[hal];simpa using q1)];exact q3
 refine⟨E,⟨lo,λt s hs=>?_,λb te cs hb=>?_,λr row hr=>g4 (r,row) (d8 hr)⟩⟩
 ·unfold pW at hs;have hs2:ay ([(0,.c (.box 100000 0)),(100000,.c (.box 100000 0))]++((bK ps X.2 1 0).1++pV (bK ps X.2 1 0).1 (pU ps 1))) t=some s:=hs;rw[np]at hs2;split at hs2
  ·rename_i s' hs';injection hs2 with hs2;subst hs2;rcases List.mem_cons.1 (d8 hs')with e|hm;·injection e with e1 e2;subst e1 e2;rw[if_pos (by omega),h0];exact hptr
   rcases List.mem_cons.1 hm with e|hm;·injection e with e1 e2;subst e1 e2;rw[if_neg (by omega),Nat.sub_self,h0];exact hptr
   ·cases hm
  ·rw[np]at hs2;split at hs2;·rename_i s' hs';injection hs2 with hs2;subst hs2;obtain⟨q1,q2,q3⟩:=hsl t _ hs';rw[if_pos q2];exact q3
   ·obtain⟨i,_,e⟩:=yW (d8 hs2);injection e with e1 e2;subst e1 e2;rw[if_neg (by omega),show 100000+i-100000=i by omega];unfold eG;split;·rename_i s' hs';exact(hsl i _ hs').2.2
    ·show True;trivial
 ·have hb':ay [(100000,(k.te,lK k.fx lit X.1.1++dm k.t X.1.2 none))] b=some (te,cs):=hb;have:=d8 hb';simp only[List.mem_singleton,Prod.mk.injEq]at this;obtain⟨rfl,rfl,rfl⟩:=this;refine⟨arr,.inl ⟨by simpa using hsm,m1⟩,lg, ?_,m2⟩;rw[m3];exact ai.app (yV (m4.mono lo)) hflat
def Gv(h:R w0 lab0 oo n V E a w):∀{back:Bool}{ps:List PT}{vs:List Value}{y:fG back ps},yT V back ps=some y->vs.length=ps.length->(∀j v,vs[j]? = some v->oo (100000+(1+j))=v)->(aA (nw V back ps)).Nodup ->
  ∃Lb,px w Lb back ps vs y/\Lb.Nodup/\∀q∈Lb,∃r∈aA (nw V back ps),cZ E.lab r q
 |false,ps,vs,y,_,_,_,_=>⟨[],rfl,List.nodup_nil,λq hq=>by cases hq⟩
 |true,ps,vs,y,hr,hl,hv,hn=>uu h (i:=1) (vs:=vs) hr hl hv hn
theorem Gw [Inv P] {f : Nat} {fn : Func} {c : Code} {k : cO} {ps rs : List PT} {back : Bool} {pre : Option ((cP k.fx × k.t.den) × an ps → Bool)} {val : (cP k.fx × k.t.den) × an ps → k.t.den × (fG back ps × an rs)} {pl : cr} {je : Option aa} (hf : P.funcs[f]? = some fn) (hb : fn.body = some c) (hname : (fn.name == "runtime.NumGoroutine") = false)
  (hm:P.follows .mixedOrders=true) (hT:aT P T) (hΓ:aq P Γ) (hc:dN fn.ntmps c=true) (hn:Nat.ble (ps.length+1) fn.ntmps=true) (hn2:Nat.ble fn.ntmps 100000=true)
  (hG:∀lit X,lit.length=k.fx.length->pY k.fx X.1.1->fi ps X.2->bS pre X=true->∃N,ak Γ T B N c pl (dr k ps lit X) (av je (yU T k ps back rs fn.results.toList))=some (lit,val X)) (hsm:Nat.blt k.te bM=true:=by rfl):db P f ⟨k,ps,back,rs,pre,val⟩:=by
 intro w args L g lit X ha hL hlt hpre hI hBL;have ha0:=ha;obtain⟨v0,vs0,hal,⟨hv0,arr0,cm0,m1,m2,m3,m4,m5⟩,hag⟩:=ha0;obtain⟨N,hr⟩:=hG lit X m4.len m4.bd hag.bd hpre;have hn:=Nat.le_of_ble_eq_true hn;have hn2:=Nat.le_of_ble_eq_true hn2;have hlen:args.size=ps.length+1:=by have hl0:vs0.length=ps.length:=hag.len;have e:=congrArg List.length hal;simp at e;omega
 refine .inl ⟨?_, ?_⟩
 ·have h1 : ¬ fn.name = "runtime.NumGoroutine" := by simpa using hname
  have h2:¬ fn.body=none:=by rw[hb];simp
  simp[callFunc,hf,h1,h2]
 obtain⟨E,st⟩:=Gu ha hL (show ps.length+1<=100000 by omega) hsm;let oo:Nat->Value:=λt=>args.getD (t-100000) undef;have hsz:(args++Array.replicate (fn.ntmps-args.size) undef).size=fn.ntmps:=by rw[Array.size_append,Array.size_replicate];omega
 have hund:∀t,args.size<=t->(args++Array.replicate (fn.ntmps-args.size) undef).getD t undef=undef:=by
  intro t ht;rw[Array.getD_eq_getD_getElem?,Array.getElem?_append_right ht];by_cases h:t-args.size<fn.ntmps-args.size;·simp[Array.getElem?_replicate,h]
  ·simp[Array.getElem?_replicate,h]
 have hR:R w E.lab oo fn.ntmps (dr k ps lit X) E { tmps:=args++Array.replicate (fn.ntmps-args.size) undef,defers:=[] } w:=by
  refine⟨hn2,hsz,rfl,λt=>?_,st.boxes,st.rows,⟨rfl,⟨rfl,λ_=>Nat.le_refl _⟩,rfl,Nat.le_refl _,λk hk hl=>⟨hl,rfl⟩,λk hk hl=>⟨hl,rfl⟩⟩⟩;have hval:cI oo { tmps:=args++Array.replicate (fn.ntmps-args.size) undef,defers:=[] } t=if t<100000 then args.getD t undef else args.getD (t-100000) undef:=by
   unfold cI;by_cases ht:t<100000
   ·rw[if_pos ht,if_pos ht];by_cases hlt:t<args.size;·simp only[Array.getD_eq_getD_getElem?];rw[Array.getElem?_append_left hlt]
    ·rw[hund t (by omega),Array.getD_eq_getD_getElem?,Array.getElem?_eq_none (by omega)];rfl
   ·rw[if_neg ht,if_neg ht]
  rw[hval];show aF (dr k ps lit X) E w (eG (pW ps X.2) t) _;unfold eG;split;·rename_i s hs;exact st.slots t s hs
  ·show True;trivial
 have hend:∀V' E' a' w',pX T k ps back rs fn.results.toList V'=some (lit,val X)->R w E.lab oo fn.ntmps V' E' a' w'->a'.defers=[]/\∃v,(results fn a'.tmps).run P w'=.ok v w' /\
   ∃vs Lb Lr,Ending.returned v=Ending.returned v/\tH w ⟨k,ps,back,rs,pre,val⟩ args.toList lit g L (val X) v w' vs Lb Lr:=by
  intro V' E' a' w' hfin h';refine⟨h'.defers, ?_⟩;unfold pX at hfin;split at hfin
  ·rename_i ss cs hss hrf;cases hq:(lI V' (some (k.te,k.t))&&(cY (aA (fY rs ss++nw V' back ps))&&(aA (cs.drop k.fx.length)).isEmpty));·rw[hq]at hfin;cases hfin
   rw[hq]at hfin;simp only[Bool.and_eq_true,List.isEmpty_iff]at hq;obtain⟨hkept,hnd,hnone⟩:=hq;obtain⟨hz,hfin⟩:=nk (show fZ V'.row rs ss _=some (lit,val X)from hfin);obtain⟨p0,p123⟩:=dx (z:=(lit,val X)) hfin;obtain⟨p1,p23⟩:=dx (z:=val X) p123;obtain⟨p2,p3⟩:=dx (z:=(val X).2) p23;have hnd:=gq hnd;rw[fy]at hnd;obtain⟨n1,n2,n3⟩:=List.nodup_append.1 hnd;obtain⟨vs,v1,v2⟩:=nq hT h' hss;obtain⟨v,r1,r2⟩:=nr v2;obtain⟨Lr,l1,l2,l3⟩:=pQ h' p3 hz v1 n1;simp only[pR]at hrf;split at hrf
   ·rename_i te cs' hbx;cases hte:Nat.beq te k.te;·rw[hte]at hrf;cases hrf
    rw[hte]at hrf;injection hrf with hrf;subst hrf;obtain rfl:=Nat.eq_of_beq_eq_true hte;obtain⟨arr,k1,k2,k3,k4⟩:=h'.boxes 100000 _ _ hbx;have k1:=k1.cells (by simpa using hsm);have hs0:aF V' E' w' (V'.slot 100000) (cI oo a' 100000):=h'.slots 100000;simp only[lI]at hkept;split at hkept
    ·rename_i hsl;rw[hsl]at hs0;obtain⟨hp,_⟩:=(show aj V' E' w' (.box 100000 0) _ from hs0);have hu:cI oo a' 100000=v0:=by unfold cI;rw[if_neg (by omega)];exact jg (by rw[hal];rfl)
     rw[hu,hv0]at hp;injection hp with hp;injection hp with hp;injection hp with hp;rw[<-hp]at k1 k2;have e0:arr.toList.take k.fx.length=lit:=uA p0 (k3.take k.fx.length);obtain⟨L1,o1,o2,o3⟩:=fA h' p1 (k3.drop k.fx.length) (by rw[hnone];exact List.nodup_nil);have hL1:L1=[]:=by
      cases L1 with
      |nil=>rfl
      |cons x xs =>obtain⟨q,q1,_⟩:=o3 x List.mem_cons_self;rw[hnone]at q1;cases q1
     subst hL1;obtain⟨Lb,b1,b2,b3⟩:∃Lb,px w' Lb back ps args.toList.tail (val X).2.1/\Lb.Nodup/\∀q∈Lb,∃r∈aA (nw V' back ps),cZ E'.lab r q:=by rw[hal];exact Gv (vs:=vs0) h' p2 hag.len (λj u hu=>by show args.getD (100000+(1+j)-100000) undef=u;rw[show 100000+(1+j)-100000=j+1 from by omega];exact jg (by rw[hal];simpa using hu)) n2
     have hold:∀q r,cZ E'.lab r q->q∈L\/w.heap.size<=q:=by
      intro q r hk;by_cases h1:q∈g::L
      ·rcases List.mem_cons.1 h1 with rfl|h1;·rcases hk with hk|hk<;>rw[k2]at hk<;>cases hk
       ·exact .inl h1
      ·refine .inr (Nat.le_of_not_lt λhlt=>?_);have:=(h'.same.old q hlt (st.out q h1)).1;rcases hk with hk|hk<;>rw[this]at hk<;>cases hk
     refine⟨v,r1,vs,Lb,Lr,rfl,r2,l1,⟨arr,_,k1,k4, ?_,o1⟩,b1,List.nodup_append.2 ⟨l2,b2,λx hx z hz e=>?_⟩,λq hq=>?_,h'.same.os,h'.same.tape,h'.same.output,h'.same.size,λq hq hqL=>(h'.same.old q hq (st.out q hqL)).2⟩;·rw[<-e0];exact(List.take_append_drop _ _).symm
     ·subst e;obtain⟨q,q1,q2⟩:=l3 x hx;obtain⟨q',q1',q2'⟩:=b3 x hz;exact n3 q q1 q' q1' (ii q2 q2')
     ·rcases List.mem_append.1 hq with hq|hq;·obtain⟨r,q1,q2⟩:=l3 q hq;exact hold q r q2
      ·obtain⟨r,q1,q2⟩:=b3 q hq;exact hold q r q2
    ·cases hkept
   ·cases hrf
  ·cases hfin
 refine calls_of_wp hf hb (fX hT (hΓ.at hI λk hk=>st.out k λhl=>hBL k hl hk) hm c pl hc hR hr ?_ (fK.join ?_ _));·intro ch a a' w' hq;obtain⟨_,v,vs,L',Lr,he,_⟩:=hq;cases he
 ·intro e V' E' a' w' hr' h';cases e with
  |nrm =>obtain⟨d1,v,d2,vs,L',Lr,d3,d4⟩:=hend V' E' a' w' hr' h';exact⟨d1,v,d2,v,vs,L',Lr,rfl,d4⟩
  |ret =>obtain⟨d1,v,d2,vs,L',Lr,d3,d4⟩:=hend V' E' a' w' hr' h';exact⟨d1,v,d2,v,vs,L',Lr,rfl,d4⟩
  |exit i=>cases hr'
def kB(e:Nat)(t0:Ty)(ps:List PT)(v0:Value)(X:List t0.den×an ps):St:=ah ((0,.c (.bor v0 e t0 X.1))::(bK ps X.2 1 0).1) [] []
def pZ(T:aY)(k:cO)(rv:List ResultVar)(V:St):Option (List Value×k.t.den) :=
 match gR T V rv with
 |some [.c (.box b 0)]=>match V.box b with
  |some (te,cs)=>cond (Nat.beq te k.te&&(aA (cs.drop k.fx.length)).isEmpty) (dw (nv (cs.take k.fx.length)) (cW V.row k.t (cs.drop k.fx.length))) none
  |none=>none
 |_=>none
def yX(T:aY)(k:cO)(rv:List ResultVar):Ex->St->Option (List Value×k.t.den)
 |.nrm,V=>pZ T k rv V
 |.ret,V=>pZ T k rv V
 |.exit _,_=>none
theorem Gx [Inv P] {f : Nat} {fn : Func} {c : Code} {te e : Nat} {t0 t : Ty} {ps : List PT} {pre : Option (an (⟨.sl e t0, false, false⟩ :: ps) → Bool)} {val : an (⟨.sl e t0, false, false⟩ :: ps) → t.den} {pl : cr} {je : Option aa} (hf : P.funcs[f]? = some fn) (hb : fn.body = some c) (hname : (fn.name == "runtime.NumGoroutine") = false)
  (hm:P.follows .mixedOrders=true) (hT:aT P T) (hΓ:aq P Γ) (hc:dN fn.ntmps c=true) (hn:Nat.ble (ps.length+1) fn.ntmps=true) (hn2:Nat.ble fn.ntmps 100000=true) (hno:bQ ps=true)
  (hG:∀v0 X,fi (⟨.sl e t0,false,false⟩::ps) X->bS pre X=true->∃N,ak Γ T B N c pl (kB e t0 ps v0 X) (av je (yX T ⟨te,[(e,t0)],t⟩ fn.results.toList))=some ([v0],val X)) (hsm:Nat.blt te bM=true:=by rfl):iT P f ⟨⟨te,[(e,t0)],t⟩,⟨.sl e t0,false,false⟩::ps,pre,val⟩:=by
 intro w args X ha hpre hI;have ha:da w (λ_=>True) (⟨.sl e t0,false,false⟩::ps) args.toList X []:=ha;have hbd:=ha.bd;match hal:args.toList,ha with
 |[],ha=>exact ha.elim
 |v0::vs0,ha =>
 obtain⟨cs0,L1,L2,hLL,hcv,hrd,ha⟩:=ha;have hcv:cs0=[v0]:=hcv;subst hcv;obtain⟨rfl,hrd⟩:L1=[]/\Rd w (λ_=>True) (.sl e t0) [v0] X.1:=hrd;have hL2:L2=[]:=by simpa using hLL.symm
 subst hL2;obtain⟨N,hr⟩:=hG v0 X hbd hpre;have hn:=Nat.le_of_ble_eq_true hn;have hn2:=Nat.le_of_ble_eq_true hn2;have hl:=ha.len;have hlen:args.size=ps.length+1:=by have e:=congrArg List.length hal;simp at e;omega
 refine .inl ⟨?_, ?_⟩
 ·have h1 : ¬ fn.name = "runtime.NumGoroutine" := by simpa using hname
  have h2:¬ fn.body=none:=by rw[hb];simp
  simp[callFunc,hf,h1,h2]
 obtain⟨f2,v2,a2,b2⟩:=ns (i:=1) (j:=0) ha List.nodup_nil;let E:aH:=⟨λ_=>.st,v2,λ_=>0⟩;have hrows:(bK ps X.2 1 0).2=[]:=by
  have:∀{ps:List PT}{X:an ps}{i j:Nat},bQ ps=true->(bK ps X i j).2=[]:=by
   intro ps;induction ps with
   |nil=>intro X i j _;rfl
   |cons p ps ih =>intro X i j h;obtain⟨t,agg,io⟩:=p;simp only[bQ,List.all_cons,Bool.and_eq_true,Bool.not_eq_true']at h;obtain⟨hio,h⟩:=h;subst hio;exact ih h
  exact this hno
 obtain⟨g3,_⟩:=b2 (kB e t0 ps v0 X) E (λk hk=>by cases hk) (λ_ _=>rfl) (λp hp=>rfl) (λp hp=>by rw[hrows]at hp;cases hp);let oo:Nat->Value:=λt=>undef;have hsz:(args++Array.replicate (fn.ntmps-args.size) undef).size=fn.ntmps:=by rw[Array.size_append,Array.size_replicate];omega
 have hget:∀m v,args.toList[m]? = some v->(args++Array.replicate (fn.ntmps-args.size) undef).getD m undef=v:=λm v h=>by
  have hlt:m<args.size:=by have:=(List.getElem?_eq_some_iff.1 h).1;simpa using this
  rw[Array.getD_eq_getD_getElem?,Array.getElem?_append_left hlt];have:args[m]? = some v:=by simpa using h
  rw[this];rfl
 have hR:R w E.lab oo fn.ntmps (kB e t0 ps v0 X) E { tmps:=args++Array.replicate (fn.ntmps-args.size) undef,defers:=[] } w:=by
  refine⟨hn2,hsz,rfl,λt=>?_,λb te cs hb=>(by cases hb),λr row hr=>(by cases hr),⟨rfl,⟨rfl,λ_=>Nat.le_refl _⟩,rfl,Nat.le_refl _,λk hk hl=>⟨hl,rfl⟩,λk hk hl=>⟨hl,rfl⟩⟩⟩;show aF (kB e t0 ps v0 X) E w (eG ((0,.c (.bor v0 e t0 X.1))::(bK ps X.2 1 0).1) t) _;refine ut λp hp ep=>?_;have hv:∀m v,args.toList[m]? = some v->t=m->cI oo { tmps:=args++Array.replicate (fn.ntmps-args.size) undef,defers:=[] } t=v:=λm v h1 h2=>by
   have hlt:m<args.size:=by have:=(List.getElem?_eq_some_iff.1 h1).1;simpa using this
   unfold cI;rw[if_pos (by omega),h2];exact hget m v h1
  rcases List.mem_cons.1 hp with rfl|hp;·rw[hv 0 v0 (by rw[hal];rfl) ep.symm];exact(show aj (kB e t0 ps v0 X) E w (.bor v0 e t0 X.1) v0 from⟨rfl,hrd.mono λ_ _=>rfl⟩)
  ·obtain⟨m,v,q1,q2,q3⟩:=g3 p hp;rw[hv (m+1) v (by rw[hal];simpa using q1) (by omega)];exact q3
 have hend:∀V' E' a' w',pZ T ⟨te,[(e,t0)],t⟩ fn.results.toList V'=some ([v0],val X)->R w E.lab oo fn.ntmps V' E' a' w'->a'.defers=[]/\∃v,(results fn a'.tmps).run P w'=.ok v w' /\
   ∃g,Ending.returned v=Ending.returned v/\tK w ⟨⟨te,[(e,t0)],t⟩,⟨.sl e t0,false,false⟩::ps,pre,val⟩ (v0::vs0) (val X) v w' g:=by
  intro V' E' a' w' hfin h';refine⟨h'.defers, ?_⟩;unfold pZ at hfin;split at hfin
  ·rename_i b hss;split at hfin
   ·rename_i te' cs hbx;simp only at hfin;cases hq:(Nat.beq te' te&&(aA (cs.drop ([(e,t0)]:List (Nat×Ty)).length)).isEmpty);·rw[hq]at hfin;cases hfin
    rw[hq]at hfin;simp only[Bool.and_eq_true,List.isEmpty_iff]at hq;obtain⟨hte,hnone⟩:=hq;obtain rfl:=Nat.eq_of_beq_eq_true hte;obtain⟨p0,p1⟩:=dx (z:=([v0],val X)) hfin;obtain⟨vs,v1,v2⟩:=nq hT h' hss;obtain⟨v,r1,r2⟩:=nr v2;match vs,v1 with
    |[],v1=>exact v1.elim
    |_::_::_,v1=>exact v1.2.elim
    |[u],v1 =>
    obtain rfl:v=u:=r2;obtain⟨hp,_⟩:=(show aj V' E' w' (.box b 0) v from v1.1);obtain⟨arr,k1,k2,k3,k4⟩:=h'.boxes b _ _ hbx;have k1:=k1.cells (by simpa using hsm);have e0:arr.toList.take ([(e,t0)]:List (Nat×Ty)).length=[v0]:=uA p0 (k3.take _);obtain⟨L1,o1,o2,o3⟩:=fA h' p1 (k3.drop _) (by rw[hnone];exact List.nodup_nil);have hL1:L1=[]:=by
     cases L1 with
     |nil=>rfl
     |cons x xs =>obtain⟨q,q1,_⟩:=o3 x List.mem_cons_self;rw[hnone]at q1;cases q1
    subst hL1;refine⟨v,r1,E'.bb b,rfl,hp,Nat.le_of_not_lt λhlt=>?_,⟨arr,_,k1,k4, ?_,o1⟩,h'.same.os,h'.same.tape,h'.same.output,h'.same.size,λq hq=>(h'.same.old q hq rfl).2⟩;·have:=(h'.same.old _ hlt rfl).1;rw[k2]at this;cases this
    ·show arr.toList=(v0::vs0).take 1++_;rw[show(v0::vs0).take 1=[v0]from rfl,<-e0];exact(List.take_append_drop _ _).symm
   ·cases hfin
  ·cases hfin
 refine calls_of_wp hf hb (fX hT (hΓ.at hI λk hk=>rfl) hm c pl hc hR hr ?_ (fK.join ?_ _));·intro ch a a' w' hq;obtain⟨_,v,g,he,_⟩:=hq;cases he
 ·intro ex V' E' a' w' hr' h';cases ex with
  |nrm =>obtain⟨d1,v,d2,g,d3,d4⟩:=hend V' E' a' w' hr' h';exact⟨d1,v,d2,v,g,rfl,d4⟩
  |ret =>obtain⟨d1,v,d2,g,d3,d4⟩:=hend V' E' a' w' hr' h';exact⟨d1,v,d2,v,g,rfl,d4⟩
  |exit i=>cases hr'
end
abbrev KT(J:Type):Type:=Ex->St->Option J
section
variable {J : Type} {Γ : Gm} {T : aY} {B : Nat → Option aa} {N : Nat} {c a b : Code} {p pa pb : cr} {V : St} {K : KT J}
def yZ{x:Operand}{t:Bool}{A A' W:Option J}(hc:c=.cond x a b)(hp:p=.mk none none pa pb)(hx:ev V x=.c (.bool t))
  (h1:ak Γ T B N a pa V K=A) (h2:ak Γ T B N b pb V K=A') (e:cond t A A'=W):ak Γ T B N c p V K=W:=by
 subst hc hp h1 h2;rw[<-e];show(match ev V x with|.c (.bool t)=>cond t (ak Γ T B N a pa V K) (ak Γ T B N b pb V K)|_=>none)=_;rw[hx]
def za{id:Nat}{lm:aa}{Z W:Option J}(hc:c=.block id a)(hp:p=.mk (some lm) none pa .n)
  (h1:ak Γ T B N a pa V (av (some lm) (nh id K))=Z) (e:Z=W):ak Γ T B N c p V K=W:=by
 subst hc hp e;exact h1
def zb{cl:aa}{V':St}{Z W:Option J}(hc:c=.loop a)(hp:p=.mk none (some cl) pa .n)(hs:fJ cl V=some V')
  (h1:bN (λV K=>ak Γ T B N a pa V K) cl N V' K=Z) (e:Z=W):ak Γ T B N c p V K=W:=by
 subst hc hp e;show((fJ cl V).bind λσ0=>bN (λV K=>ak Γ T B N a pa V K) cl N σ0 K)=_;rw[hs];exact h1
end
abbrev I2(α:Type):Type:=Int->Int->α
abbrev I3(α:Type):Type:=Int->Int->Int->α
abbrev I4(α:Type):Type:=Int->Int->Int->Int->α
abbrev I5(α:Type):Type:=Int->Int->Int->Int->Int->α
abbrev I6(α:Type):Type:=Int->Int->Int->Int->Int->Int->α
abbrev I7(α:Type):Type:=Int->Int->Int->Int->Int->Int->Int->α
abbrev I8(α:Type):Type:=Int->Int->Int->Int->Int->Int->Int->Int->α
def a6:Nat->Code->Nat->Code
 |0,c,_=>c
 |F+1,c,n=>cond (Nat.ble n 1) c (match c with
  |.seq a b=>cond (Nat.beq (n%2) 0) (a6 F a (n / 2)) (a6 F b (n / 2))
  |.cond _ a b=>cond (Nat.beq (n%2) 0) (a6 F a (n / 2)) (a6 F b (n / 2))
  |.block _ c=>a6 F c (n / 2)
  |.loop c=>a6 F c (n / 2)
  |c=>c)
abbrev yi(n:Int):ae:=.int .i64 n
abbrev xi(n:Int):SV:=.c (.int .i64 n)
abbrev xo(n:Nat):SV:=.c (.own n)
abbrev xb(n:Nat):SV:=.c (.box n 0)
abbrev xB(b:Bool):SV:=.c (.bool b)
abbrev tI:Ty:=.int .i64
abbrev tM(e:Nat):Ty:=.pair tI (.pair tI (.sl e tI))
abbrev LI:Type:=List Int
abbrev LL:Type:=List (List Int)
abbrev MT:Type:=Int×Int×List Int
abbrev LM:Type:=List MT
def eH{α0 α1 β:Type}{f g:α0->α1->β}(h:∀x0 x1,f x0 x1=g x0 x1):f=g:=funext λx0=>funext λx1=>h x0 x1
def dP{α0 α1 α2 β:Type}{f g:α0->α1->α2->β}(h:∀x0 x1 x2,f x0 x1 x2=g x0 x1 x2):f=g:=funext λx0=>funext λx1=>funext λx2=>h x0 x1 x2
def dQ{α0 α1 α2 α3 β:Type}{f g:α0->α1->α2->α3->β}(h:∀x0 x1 x2 x3,f x0 x1 x2 x3=g x0 x1 x2 x3):f=g:=funext λx0=>funext λx1=>funext λx2=>funext λx3=>h x0 x1 x2 x3
def bZ{α0 α1 α2 α3 α4 β:Type}{f g:α0->α1->α2->α3->α4->β}(h:∀x0 x1 x2 x3 x4,f x0 x1 x2 x3 x4=g x0 x1 x2 x3 x4):f=g:=funext λx0=>funext λx1=>funext λx2=>funext λx3=>funext λx4=>h x0 x1 x2 x3 x4
def dz{α0 α1 α2 α3 α4 α5 β:Type}{f g:α0->α1->α2->α3->α4->α5->β}(h:∀x0 x1 x2 x3 x4 x5,f x0 x1 x2 x3 x4 x5=g x0 x1 x2 x3 x4 x5):f=g:=funext λx0=>funext λx1=>funext λx2=>funext λx3=>funext λx4=>funext λx5=>h x0 x1 x2 x3 x4 x5
def eI{α0 α1 α2 α3 α4 α5 α6 β:Type}{f g:α0->α1->α2->α3->α4->α5->α6->β}(h:∀x0 x1 x2 x3 x4 x5 x6,f x0 x1 x2 x3 x4 x5 x6=g x0 x1 x2 x3 x4 x5 x6):f=g:=funext λx0=>funext λx1=>funext λx2=>funext λx3=>funext λx4=>funext λx5=>funext λx6=>h x0 x1 x2 x3 x4 x5 x6
def dA{α0 α1 α2 α3 α4 α5 α6 α7 β:Type}{f g:α0->α1->α2->α3->α4->α5->α6->α7->β}(h:∀x0 x1 x2 x3 x4 x5 x6 x7,f x0 x1 x2 x3 x4 x5 x6 x7=g x0 x1 x2 x3 x4 x5 x6 x7):f=g:=funext λx0=>funext λx1=>funext λx2=>funext λx3=>funext λx4=>funext λx5=>funext λx6=>funext λx7=>h x0 x1 x2 x3 x4 x5 x6 x7
def dB{α0 α1 α2 α3 α4 α5 α6 α7 α8 β:Type}{f g:α0->α1->α2->α3->α4->α5->α6->α7->α8->β}(h:∀x0 x1 x2 x3 x4 x5 x6 x7 x8,f x0 x1 x2 x3 x4 x5 x6 x7 x8=g x0 x1 x2 x3 x4 x5 x6 x7 x8):f=g:=funext λx0=>funext λx1=>funext λx2=>funext λx3=>funext λx4=>funext λx5=>funext λx6=>funext λx7=>funext λx8=>h x0 x1 x2 x3 x4 x5 x6 x7 x8
def dC{α0 α1 α2 α3 α4 α5 α6 α7 α8 α9 β:Type}{f g:α0->α1->α2->α3->α4->α5->α6->α7->α8->α9->β}(h:∀x0 x1 x2 x3 x4 x5 x6 x7 x8 x9,f x0 x1 x2 x3 x4 x5 x6 x7 x8 x9=g x0 x1 x2 x3 x4 x5 x6 x7 x8 x9):f=g:=funext λx0=>funext λx1=>funext λx2=>funext λx3=>funext λx4=>funext λx5=>funext λx6=>funext λx7=>funext λx8=>funext λx9=>h x0 x1 x2 x3 x4 x5 x6 x7 x8 x9
def gB{α0 α1 α2 α3 α4 α5 α6 α7 α8 α9 α10 β:Type}{f g:α0->α1->α2->α3->α4->α5->α6->α7->α8->α9->α10->β}(h:∀x0 x1 x2 x3 x4 x5 x6 x7 x8 x9 x10,f x0 x1 x2 x3 x4 x5 x6 x7 x8 x9 x10=g x0 x1 x2 x3 x4 x5 x6 x7 x8 x9 x10):f=g:=funext λx0=>funext λx1=>funext λx2=>funext λx3=>funext λx4=>funext λx5=>funext λx6=>funext λx7=>funext λx8=>funext λx9=>funext λx10=>h x0 x1 x2 x3 x4 x5 x6 x7 x8 x9 x10
def nz{α0 α1 α2 α3 α4 α5 α6 α7 α8 α9 α10 α11 β:Type}{f g:α0->α1->α2->α3->α4->α5->α6->α7->α8->α9->α10->α11->β}(h:∀x0 x1 x2 x3 x4 x5 x6 x7 x8 x9 x10 x11,f x0 x1 x2 x3 x4 x5 x6 x7 x8 x9 x10 x11=g x0 x1 x2 x3 x4 x5 x6 x7 x8 x9 x10 x11):f=g:=funext λx0=>funext λx1=>funext λx2=>funext λx3=>funext λx4=>funext λx5=>funext λx6=>funext λx7=>funext λx8=>funext λx9=>funext λx10=>funext λx11=>h x0 x1 x2 x3 x4 x5 x6 x7 x8 x9 x10 x11
def nA{α0 α1 α2 α3 α4 α5 α6 α7 α8 α9 α10 α11 α12 β:Type}{f g:α0->α1->α2->α3->α4->α5->α6->α7->α8->α9->α10->α11->α12->β}(h:∀x0 x1 x2 x3 x4 x5 x6 x7 x8 x9 x10 x11 x12,f x0 x1 x2 x3 x4 x5 x6 x7 x8 x9 x10 x11 x12=g x0 x1 x2 x3 x4 x5 x6 x7 x8 x9 x10 x11 x12):f=g:=funext λx0=>funext λx1=>funext λx2=>funext λx3=>funext λx4=>funext λx5=>funext λx6=>funext λx7=>funext λx8=>funext λx9=>funext λx10=>funext λx11=>funext λx12=>h x0 x1 x2 x3 x4 x5 x6 x7 x8 x9 x10 x11 x12
def p5{α0 α1 α2 α3 α4 α5 α6 α7 α8 α9 α10 α11 α12 α13 β:Type}{f g:α0->α1->α2->α3->α4->α5->α6->α7->α8->α9->α10->α11->α12->α13->β}(h:∀x0 x1 x2 x3 x4 x5 x6 x7 x8 x9 x10 x11 x12 x13,f x0 x1 x2 x3 x4 x5 x6 x7 x8 x9 x10 x11 x12 x13=g x0 x1 x2 x3 x4 x5 x6 x7 x8 x9 x10 x11 x12 x13):f=g:=funext λx0=>funext λx1=>funext λx2=>funext λx3=>funext λx4=>funext λx5=>funext λx6=>funext λx7=>funext λx8=>funext λx9=>funext λx10=>funext λx11=>funext λx12=>funext λx13=>h x0 x1 x2 x3 x4 x5 x6 x7 x8 x9 x10 x11 x12 x13
def GC{α0 α1 α2 α3 α4 α5 α6 α7 α8 α9 α10 α11 α12 α13 α14 β:Type}{f g:α0->α1->α2->α3->α4->α5->α6->α7->α8->α9->α10->α11->α12->α13->α14->β}(h:∀x0 x1 x2 x3 x4 x5 x6 x7 x8 x9 x10 x11 x12 x13 x14,f x0 x1 x2 x3 x4 x5 x6 x7 x8 x9 x10 x11 x12 x13 x14=g x0 x1 x2 x3 x4 x5 x6 x7 x8 x9 x10 x11 x12 x13 x14):f=g:=funext λx0=>funext λx1=>funext λx2=>funext λx3=>funext λx4=>funext λx5=>funext λx6=>funext λx7=>funext λx8=>funext λx9=>funext λx10=>funext λx11=>funext λx12=>funext λx13=>funext λx14=>h x0 x1 x2 x3 x4 x5 x6 x7 x8 x9 x10 x11 x12 x13 x14
def zd{α0 α1 α2 α3 α4 α5 α6 α7 α8 α9 α10 α11 α12 α13 α14 α15 β:Type}{f g:α0->α1->α2->α3->α4->α5->α6->α7->α8->α9->α10->α11->α12->α13->α14->α15->β}(h:∀x0 x1 x2 x3 x4 x5 x6 x7 x8 x9 x10 x11 x12 x13 x14 x15,f x0 x1 x2 x3 x4 x5 x6 x7 x8 x9 x10 x11 x12 x13 x14 x15=g x0 x1 x2 x3 x4 x5 x6 x7 x8 x9 x10 x11 x12 x13 x14 x15):f=g:=funext λx0=>funext λx1=>funext λx2=>funext λx3=>funext λx4=>funext λx5=>funext λx6=>funext λx7=>funext λx8=>funext λx9=>funext λx10=>funext λx11=>funext λx12=>funext λx13=>funext λx14=>funext λx15=>h x0 x1 x2 x3 x4 x5 x6 x7 x8 x9 x10 x11 x12 x13 x14 x15
def eJ{α:Type}(μ:α->Nat)(pre:α->Bool)(m:Nat)(X:α):Bool:=Nat.blt (μ X) m&&pre X
@[reducible] def Inv.triv(P:Program):Inv P:=⟨λ_=>True,λ_=>False,λ_ _ _ h=>h,λ_ _ _ h=>h.elim⟩
def dL.rec[DC]{P:Program}[Inv P]{f:Nat}{rf:Rf}{ps rs:List PT}{pre:cg rf×an ps->Bool}{val:cg rf×an ps->cg rf×an rs}(μ:cg rf×an ps->Nat)
  (step:∀m,dL P f ⟨rf,ps,rs,some (eJ μ pre m),val⟩->dL P f ⟨rf,ps,rs,some (eJ μ pre (m+1)),val⟩):dL P f ⟨rf,ps,rs,some pre,val⟩:=by
 have all:∀m,dL P f ⟨rf,ps,rs,some (eJ μ pre m),val⟩:=by
  intro m;induction m with
  |zero =>
   intro w args L X _ _ _ hG _ _;have:eJ μ pre 0 X=false:=by simp[eJ]
   simp[bS,this]at hG
  |succ m ih=>exact step m ih
 intro w args L X h1 h2 h3 hG hI hB;have hp:pre X=true:=hG;refine cB.mono (all (μ X+1) w args L X h1 h2 h3 (show eJ μ pre (μ X+1) X=true by simp[eJ,hp]) hI hB) ?_;rintro e w' ⟨v,vs,Lf,Lr,he,A⟩
 exact⟨v,vs,Lf,Lr,he,⟨A.ret,A.res,A.ref,A.nodup,A.fresh,A.notg,A.os,A.tape,A.output,A.size,A.old⟩⟩
end Go.Fw
