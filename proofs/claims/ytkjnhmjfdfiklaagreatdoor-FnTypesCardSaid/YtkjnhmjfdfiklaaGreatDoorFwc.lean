/- The framework: what a symbolic run of the model's code tells, proved sound. Nothing is assumed. -/
import Derived.Test.YtkjnhmjfdfiklaaGreatDoorFwb
set_option linter.defProp false
set_option linter.unusedVariables false
set_option linter.unusedSectionVars false
set_option linter.unusedSimpArgs false
namespace Go.Fw
open Go.RowKit
structure Gm where
 g:Nat->Option aQ
 m:Nat->Option jB
 v:Nat->Option eY
 n:Nat->Option jD
 s:Nat->Option mZ
def lu:Op->Option (Operand×Operand×Operand)
 |.pick c x y=>some (c,x,y)
 |_=>none
def qA:Op->Option (Nat×List Operand)
 |.call { callee:=.value (.func f),args:=args,argTypes:=_ }=>some (f,args.toList)
 |_=>none
def qB(V:St):Op->Option (Nat×List Operand)
 |.call { callee:=.value x,args:=args,argTypes:=_ }=>match ev V x with
  |.c (.fn f [])=>some (f,args.toList)
  |_=>none
 |_=>none
noncomputable def cj{J:Type}(a b:Option J):Option J:=by classical exact if a=b then a else none
@[reducible] noncomputable def bo{J:Type}(a:Option J):Option J:=cj a a
def CA{J:Type}{a b:Option J}{r:J}(h:cj a b=some r):a=some r/\b=some r:=by
 unfold cj at h;split at h;·rename_i e;exact⟨h,e▸h⟩
 ·cases h
def gP{J:Type}(a:Option J):cj a a=a:=by unfold cj;exact if_pos rfl
noncomputable def xU{J:Type}(step:Nat->Option J):List Nat->Option J
 |[]=>none
 |[i]=>step i
 |i::j::is=>cj (step i) (xU step (j::is))
def CB{J:Type}{step:Nat->Option J}{r:J}:∀{is:List Nat},xU step is=some r->∀i∈is,step i=some r
 |[],h,_,_=>by cases h
 |[i],h,j,hj=>by obtain rfl:=List.mem_singleton.1 hj;exact h
 |i::j::is,h,k,hk=>by
  obtain⟨h1,h2⟩:=CA h;rcases List.mem_cons.1 hk with rfl|hk;·exact h1
  ·exact CB h2 k hk
def CC:BinOp->Bool
 |.eql=>true
 |.neq=>true
 |_=>false
def qC(T:bi)(V:St):Op->Bool
 |.binOp op t x y _=>CC op&&(match T t,ev V x,ev V y with
  |some ti,.c (.sn _ _ _ _),.c .nil=>ti.el.isSome
  |some ti,.c (.own r),.c .nil=>ti.el.isSome&&(match V.row r with
   |some row=>!row.nilE
   |none=>false)
  |_,_,_=>false)
 |_=>false
structure dF where
 d:Nat
 r:Nat
 i:Int
 f:Nat
 el:Option (Nat×Int)
def tu(T:bi)(V:St)(o:Oper):Option dF:=match o.guard,o.op,o.dst with
 |none,.load t x,some d=>match ev V x with
  |.c (.elt r i f)=>match V.row r,T t with
   |some row,some ti=>cond (row.deep&&(ti.el.isSome&&!ti.agg)) (some ⟨d,r,i,f,none⟩) none
   |_,_=>none
  |_=>none
 |_,_,_=>none
inductive L6 where
 |no
 |still (p:dF)
 |sub (p:dF) (f:Nat) (args:List Operand)
 |put (p:dF) (e:Nat) (k:Int) (t:Nat) (x:Operand)
def qD(d:Nat):Option Operand->Bool
 |some (.tmp e)=>Nat.beq e d&&Nat.blt d 100000
 |_=>false
def jE(d:Nat):Option Nat->Bool
 |some e=>!(Nat.beq e d)
 |none=>true
def xV(T:bi)(V:St)(p:dF)(op:Op)(dst:Option Nat):Option dF:=none
def xW(p:dF)(op:Op)(dst:Option Nat):Option (Nat×Int×Nat×Operand):=match op,dst,p.el with
 |.store t (.tmp e') x,none,some (e,k)=>cond (Nat.beq e' e&&(Nat.blt e 100000&&Nat.blt p.d 100000)) (some (e,k,t,x)) none
 |_,_,_=>none
def lv(p:dF)(dst:Option Nat):Bool:=match p.el with
 |some (e,_)=>jE e dst
 |none=>true
def lk(N:Nat)(b:Bool):Bool:=match N with
 |0=>b
 |_+1=>b
def aD(N:Nat)(b:Bool):lk N b=b:=by cases N<;>rfl
def qE(N:Nat):ai->ai
 |.bool b=>.bool (lk N b)
 |c=>c
def qF(N:Nat):SV->SV
 |.c x=>.c (qE N x)
 |.agg l=>.agg l
 |.tup l=>.tup (l.map λp=>(p.1,p.2.map (qE N)))
def CD(N:Nat)(c:ai):qE N c=c:=by cases c<;>simp[qE,aD]
def CE(N:Nat)(s:SV):qF N s=s:=by have h:qE N=id:=funext (CD N);cases s<;>simp[qF,CD,h]
def qG(N:Nat)(op:Op)(c:Bool):Bool:=match op with
 |.binOp .quo _ _ _ _=>lk N c
 |.binOp .rem _ _ _ _=>lk N c
 |.binOp .shl _ _ _ _=>lk N c
 |.binOp .shr _ _ _ _=>lk N c
 |.indexAddr _ _ _=>lk N c
 |.index _ _ _=>lk N c
 |.slice _ _ _ _ _=>lk N c
 |_=>c
def qH(N:Nat)(op:Op)(s:SV):SV:=match op with
 |.binOp _ _ _ _ _=>qF N s
 |.lookup _ _ _ _=>qF N s
 |_=>s
def xX(N:Nat)(op:Op)(c:Bool):qG N op c=c:=by unfold qG;split<;>first|rfl|exact aD N c
def xY(N:Nat)(op:Op)(s:SV):qH N op s=s:=by unfold qH;split<;>first|rfl|exact CE N s
def m0{α:Type}(N:Nat)(p:Option (α->Bool))(X:α):Bool:=match p with
 |none=>true
 |some f=>lk N (f X)
def qI{α:Type}(N:Nat)(p:Option (α->Bool))(X:α):m0 N p X=ci p X:=by
 unfold m0 ci;split;·rfl
 ·exact aD N _
def qJ(N:Nat)(d:Option Nat)(V:St):St:=match d with
 |some d=>V.put d (qF N (V.slot d))
 |none=>V
def xZ(N:Nat)(d:Option Nat)(V:St):qJ N d V=V:=by
 cases d with
 |none=>rfl
 |some d =>
  unfold qJ;simp only[CE];unfold St.put;congr 1;funext t;unfold ao;cases hb:Nat.beq t d;·rfl
  ·rw[Nat.eq_of_beq_eq_true hb];rfl
def bG.kL{J:Type}(N:Nat):bG->(St->Option J)->Option J
 |.fail,_=>none
 |.ok V,K=>K V
 |.chk c o,K=>cond (lk N c) (o.kL N K) none
 |.br b o1 o2,K=>cond b (o1.kL N K) (o2.kL N K)
 |.call x f,K=>x.bind λb=>(f b).kL N K
def bG.kL_eq{J:Type}(N:Nat)(K:St->Option J):∀o:bG,o.kL N K=o.k K
 |.fail=>rfl
 |.ok V=>rfl
 |.chk c o=>by simp only[bG.kL,bG.k,aD,bG.kL_eq N K o]
 |.br b o1 o2=>by simp only[bG.kL,bG.k,bG.kL_eq N K o1,bG.kL_eq N K o2]
 |.call x f=>by simp only[bG.kL,bG.k];congr 1;funext b;exact bG.kL_eq N K (f b)
section
variable {J : Type}
noncomputable def tv(Γ:Gm)(T:bi)(N:Nat)(o:Oper)(V:St)(K:St->Option J):Option J :=
 match lu o.op with
 |some (c,x,y)=>match ev V c with
  |.c (.bool b)=>cond b (K (fD V o.dst (ev V x))) (K (fD V o.dst (ev V y)))
  |_=>none
 |none=>match qB V o.op with
  |some (f,args)=>match Γ.g f with
   |some en=>match xt en V (args.map (ev V))with
    |some X=>cond (m0 N en.pre X) (match xu en V o.dst (args.map (ev V)) (en.val X)with
     |some V'=>K (qJ N o.dst V')
     |none=>none) none
    |none=>none
   |none=>match Γ.m f with
    |some en=>match xA en V (args.map (ev V))with
     |some (qs,X)=>cond (m0 N en.pre X) (match tj en V o.dst (args.map (ev V)) qs (en.val X)with
      |some V'=>K (qJ N o.dst V')
      |none=>none) none
     |none=>none
    |none=>match Γ.v f with
     |some en=>match xM en V (args.map (ev V))with
      |some (qs,X)=>cond (m0 N en.pre X) (match xN en V o.dst (args.map (ev V)) qs (en.val X)with
       |some V'=>K (qJ N o.dst V')
       |none=>none) none
      |none=>none
     |none=>match Γ.n f with
      |some en=>match xO en V (args.map (ev V))with
       |some X=>cond (m0 N en.pre X) (match xP en V o.dst (args.map (ev V)) (en.val X)with
        |some V'=>K V'
        |none=>none) none
       |none=>none
      |none=>match Γ.s f with
       |some en=>match qz en.ps (args.map (ev V))with
        |some X=>cond (m0 N en.pre X) (match xS en V o.dst (en.val X)with
         |some V'=>K V'
         |none=>none) none
        |none=>none
       |none=>none
  |none=>match cw T V o.op with
   |some (c,s)=>cond (qC T V o.op) (cond (lk N c) (K (fD V o.dst s)) (cj (K (fD V o.dst (.c (.bool true)))) (K (fD V o.dst (.c (.bool false))))))
    (cond (qG N o.op c) (K (fD V o.dst (qH N o.op s))) none)
   |none=>(sZ T V o.dst o.op).kL N K
def ya(ops:Array Oper)(j:Nat):Option Nat:=match ops[j]? with
 |some o=>o.dst
 |none=>none
def m7(ops:Array Oper)(o:Oper)(V:St)(F:St->Option J)(K:St->Option J):Option J :=
 match o.guard with
 |none=>F V
 |some (j,want)=>match ya ops j with
  |some t=>match V.slot t with
   |.c (.bool b)=>cond b
    (cond want (F (V.put t (.c (.bool true)))) (K (fD (V.put t (.c (.bool true))) o.dst (.tup []))))
    (cond want (K (fD (V.put t (.c (.bool false))) o.dst (.tup []))) (F (V.put t (.c (.bool false)))))
   |.tup _=>K (fD V o.dst (.tup []))
   |_=>none
  |none=>none
def jF:Op->Bool
 |.move _=>true
 |.assign _=>true
 |.load _ _=>true
 |.indexAddr _ _ _=>true
 |.fieldAddr _ _ _=>true
 |.binOp _ _ _ _ _=>true
 |.unOp _ _ _=>true
 |.index _ _ _=>true
 |.call { callee:=.builtin .len,args:=_,argTypes:=_ }=>true
 |.call { callee:=.builtin .min,args:=_,argTypes:=_ }=>true
 |.call { callee:=.builtin .max,args:=_,argTypes:=_ }=>true
 |.convert _ _ _=>true
 |.extract _ _=>true
 |.nilCheck _=>true
 |_=>false
noncomputable def CF(Γ:Gm)(N:Nat)(p:dF)(f:Nat)(args:List Operand)(dst:Option Nat)(V:St)(K:St->Option J):Option J:=none
def yb(T:bi)(p:dF)(k:Int)(t:Nat)(x:Operand)(V:St)(K:St->Option J):Option J:=none
def tw(Γ:Gm)(T:bi)(V:St)(o:Oper)(pin:Option dF):L6:=match tu T V o with
 |some p=>.still p
 |none=>match pin with
  |none=>.no
  |some p=>match o.guard with
   |some _=>.no
   |none=>match qB V o.op with
    |some (f,args)=>match Γ.g f with
     |some en=>cond (qD p.d (il en.sig.ps args)&&dW en.sig.ps) (.sub p f args) .no
     |none=>.no
    |none=>match xV T V p o.op o.dst with
     |some p'=>.still p'
     |none=>match xW p o.op o.dst with
      |some (e,k,t,x)=>.put p e k t x
      |none=>cond (jF o.op&&(jE p.d o.dst&&lv p o.dst)) (.still p) .no
noncomputable def lw(Γ:Gm)(T:bi)(N:Nat)(ops:Array Oper):List Nat->Option dF->St->(St->Option J)->Option J
 |[],_,V,K=>K V
 |i::rest,pin,V,K=>match ops[i]? with
  |some o=>match tw Γ T V o pin with
   |.no=>m7 ops o V (λV=>tv Γ T N o V λV'=>lw Γ T N ops rest none V' K) λV'=>lw Γ T N ops rest none V' K
   |.still p=>match cw T V o.op with
    |some (c,s)=>cond (qG N o.op c) (lw Γ T N ops rest (some p) (fD V o.dst (qH N o.op s)) K) none
    |none=>none
   |.sub p f args=>CF Γ N p f args o.dst V λV'=>lw Γ T N ops rest none V' K
   |.put p _ k t x=>yb T p k t x V λV'=>lw Γ T N ops rest none V' K
  |none=>none
def CG(T:bi)(N:Nat)(o:Oper)(V:St)(K:St->Option J):Option J :=
 match cw T V o.op with
 |some (c,s)=>cond (xg o.op s) (cond (qG N o.op c) (K (fD V o.dst (qH N o.op s))) none) none
 |none=>none
def tx(f:Nat->Bool):List Nat->Option Nat
 |[]=>none
 |i::l=>cond (f i) (some i) (tx f l)
def gQ(Γ:Gm)(o:Oper):Bool:=match qA o.op with
 |some (f,_)=>match Γ.g f with
  |some en=>cg en.sig.ps
  |none=>false
 |none=>match lu o.op with
  |some _=>true
  |none=>match o.op with
   |.slice _ _ _ _ _=>true
   |.build _ _=>true
   |.makeSlice _ _ _=>true
   |.alloc _=>true
   |.box _ _=>true
   |.buildSlice _ _ _=>true
   |_=>jF o.op
def lz(Γ:Gm)(ops:Array Oper)(j:Nat):Bool:=match ops[j]? with
 |some oj=>!(mO oj.op)&&(List.range ops.size).any λi=>!(Nat.beq i j)&&(match ops[i]? with
  |some oi=>!(gQ Γ oi)&&!(fF ops 4 i j||fF ops 4 j i)
  |none=>false)
 |none=>false
def CH(Γ:Gm)(ops:Array Oper)(listed:Array Bool)(i:Nat):Bool:=match ops[i]? with
 |some o=>jF o.op&&(Region.free .any ops listed i&&!(lz Γ ops i))
 |none=>false
def yc(T:bi)(V:St)(o:Oper)(pin:Option dF):Option dF:=match tu T V o with
 |some p=>some p
 |none=>match pin,o.guard with
  |some p,none=>match xV T V p o.op o.dst with
   |some p'=>some p'
   |none=>cond (jE p.d o.dst&&lv p o.dst) (some p) none
  |_,_=>none
def CI(o:Oper)(pin:Option dF):Option (dF×Nat×Int×Nat×Operand):=match pin,o.guard with
 |some p,none=>match xW p o.op o.dst with
  |some y=>some (p,y)
  |none=>none
 |_,_=>none
noncomputable def kF(Γ:Gm)(T:bi)(N:Nat)(ops:Array Oper):Nat->Array Bool->Option dF->St->(St->Option J)->Option J
 |0,listed,_,V,K=>cond (Region.ready .any ops listed).isEmpty (K V) none
 |fuel+1,listed,pin,V,K=>match Region.ready .any ops listed with
  |[]=>K V
  |r::rs=>match tx (CH Γ ops listed) (r::rs)with
   |some i=>match ops[i]? with
    |some o=>m7 ops o V (λV=>CG T N o V λV'=>kF Γ T N ops fuel (listed.setIfInBounds i true) (yc T V o pin) V' K) λV'=>kF Γ T N ops fuel (listed.setIfInBounds i true) none V' K
    |none=>none
   |none=>xU (λr=>match ops[r]? with
    |some o=>cond (gQ Γ o||jY ops (lz Γ ops) r) (match CI o pin with
     |some (p,_,k,t,x)=>cond (jY ops (lz Γ ops) r) (yb T p k t x V λV'=>kF Γ T N ops fuel (listed.setIfInBounds r true) none V' K) none
     |none=>m7 ops o V (λV=>tv Γ T N o V λV'=>kF Γ T N ops fuel (listed.setIfInBounds r true) none V' K) λV'=>kF Γ T N ops fuel (listed.setIfInBounds r true) none V' K) none
    |none=>none) (r::rs)
noncomputable def yd(Γ:Gm)(T:bi)(N:Nat)(ops:Array Oper)(draw:Bool)(V:St)(K:St->Option J):Option J :=
 cond draw (cond (Region.noSelect ops) (kF Γ T N ops ops.size (Array.replicate ops.size false) none V K) none) (lw Γ T N ops (List.range ops.size) none V K)
def m8(n:Nat)(ops:Array Oper):Bool:=ops.toList.all λo=>match o.dst with
 |some d=>Nat.blt d n
 |none=>true
end
structure av[DC](P:Program)[Inv P](Γ:Gm):Prop where
 g:∀f en,Γ.g f=some en->ay P f en/\∀p∈en.sig.rs,p.agg=false->p.t.nc=1
 m:∀f en,Γ.m f=some en->gO P f en/\∀p∈en.rs,p.agg=false->p.t.nc=1
 v:∀f en,Γ.v f=some en->dU P f en/\∀p∈en.rs,p.agg=false->p.t.nc=1
 n:∀f en,Γ.n f=some en->lq P f en
 s:∀f en,Γ.s f=some en->False
structure m9[DC](P:Program)(w0:World)(lab0:Nat->aC)(Γ:Gm):Prop where
 g:∀f en,Γ.g f=some en->qr P w0 lab0 f en/\∀p∈en.sig.rs,p.agg=false->p.t.nc=1
 m:∀f en,Γ.m f=some en->xz P w0 lab0 f en/\∀p∈en.rs,p.agg=false->p.t.nc=1
 v:∀f en,Γ.v f=some en->xJ P w0 lab0 f en/\∀p∈en.rs,p.agg=false->p.t.nc=1
 n:∀f en,Γ.n f=some en->xL P w0 lab0 f en
 s:∀f en,Γ.s f=some en->False
def av.at[DC]{P:Program}[Inv P]{Γ:Gm}(h:av P Γ){w0:World}{lab0:Nat->aC}(hI:Inv.I P w0)(hB:∀k,Inv.B P k->lab0 k=.st):m9 P w0 lab0 Γ :=
 ⟨λf en hf=>⟨(h.g f en hf).1.at hI hB,(h.g f en hf).2⟩,λf en hf=>⟨(h.m f en hf).1.at hI hB,(h.m f en hf).2⟩,λf en hf=>⟨(h.v f en hf).1.at hI hB,(h.v f en hf).2⟩,λf en hf=>(h.n f en hf).at hI hB,λf en hf=>h.s f en hf⟩
section
variable {P : Program} {V V' : St} {E E' : aL} {w w' : World} {w0 : World} {lab0 : Nat → aC} {oo : Nat → Value} {n : Nat} {a : Act} {T : bi} {Γ : Gm} {J : Type} {ops : Array Oper} {N : Nat} [DC]
def iq(h:m8 n ops=true){i:Nat}{o:Oper}(ho:ops[i]? = some o):∀d,o.dst=some d->d<n:=by
 intro d hd;have hm:o∈ops.toList:=by have:=Array.mem_of_getElem? ho;simpa using this
 have:=List.all_eq_true.1 h o hm;rw[hd]at this;simpa using this
def tz(h:R w0 lab0 oo n V E a w):∀args:List Operand,aj (aJ V E w) (args.map (ev V)) (args.map a.eval)
 |[]=>trivial
 |x::l=>⟨bj h x,tz h l⟩
def ye{op:Op}{f:Nat}{args:List Operand}(h:qA op=some (f,args)):∃arr ts,op=.call { callee:=.value (.func f),args:=arr,argTypes:=ts }/\arr.toList=args:=by
 unfold qA at h;split at h;·rename_i f' arr ts;injection h with h;injection h with e1 e2;subst e1;exact⟨arr,ts,rfl,e2⟩
 ·cases h
def yf{op:Op}{f:Nat}{args:List Operand}(h:qB V op=some (f,args)):∃x arr ts,op=.call { callee:=.value x,args:=arr,argTypes:=ts }/\arr.toList=args/\ev V x=.c (.fn f []):=by
 unfold qB at h;split at h
 ·rename_i x arr ts;split at h;·rename_i f' hf;injection h with h;injection h with e1 e2;subst e1;exact⟨x,arr,ts,rfl,e2,hf⟩
  ·cases h
 ·cases h
def yg(h:R w0 lab0 oo n V E a w){x:Operand}{f:Nat}(hx:ev V x=.c (.fn f [])):a.eval x=.func (.func f) #[] #[]:=by have:=bj h x;rw[hx]at this;exact this.1
def L7(hT:a6 P T)(h:R w0 lab0 oo n V E a w){o:Oper}(hn:qC T V o.op=true):∃b,(execOp a.eval o).run P w=.ok (.value (.bool b)) w:=by
 obtain⟨dst,op,oty,pos,after,guard⟩:=o;simp only at hn;unfold qC at hn;split at hn
 ·rename_i op t x y t';simp only[Bool.and_eq_true]at hn;obtain⟨hop,hn⟩:=hn;obtain⟨ti,A,m,c,ht,hel,hx,hy⟩:∃(ti:TI) (A:Option Addr) (m c:Nat),T t=some ti/\ti.el.isSome=true/\a.eval x=.slice A m c/\a.eval y=.slice none 0 0:=by
   split at hn;·rename_i ti _ _ _ _ ht hx hy;have rx:=bj h x;have ry:=bj h y;rw[hx]at rx;rw[hy]at ry;obtain⟨A,m,d,e,_⟩:=rx.c_inv;injection e with e;exact⟨ti,A,m,d,ht,hn,e,ry.c_inv⟩
   ·rename_i ti r ht hx hy;have rx:=bj h x;have ry:=bj h y;rw[hx]at rx;rw[hy]at ry;obtain⟨e,_,A,m,d,e'⟩:=rx.c_inv;exact⟨ti,A,m,d,ht,(by simp only[Bool.and_eq_true]at hn;exact hn.1),e.trans (e▸e'),ry.c_inv⟩
   ·cases hn
  obtain⟨e,he⟩:=Option.isSome_iff_exists.1 hel;have hu:=jv hT ht he;have heq:(Op.equal t (.slice A m c) (.slice none 0 0)).run P w=.ok A.isNone w:=by
   have key:∀d,(Op.equalIn (d+1) t (.slice A m c) (.slice none 0 0)).run P w=.ok A.isNone w:=λd=>by cases A<;>simp[Op.equalIn,run_underlying hu]
   exact key 9999
  have hguard:(eqGuard op t x y (.slice A m c) (.slice none 0 0)).run P w=.ok () w:=sL (λu e=>by cases e) (λe=>by cases e);cases op<;>simp only[CC]at hop<;>try contradiction
  ·refine⟨A.isNone, ?_⟩;simp only[execOp,hx,hy];rw[Sem.run_bind,Sem.run_bind,hguard];have:binOp .eql t (.slice A m c) (.slice none 0 0)=(do pure (.bool (<-Op.equal t (.slice A m c) (.slice none 0 0))):Sem Value):=rfl;simp[this,heq]
  ·refine⟨!A.isNone, ?_⟩;simp only[execOp,hx,hy];rw[Sem.run_bind,Sem.run_bind,hguard];have:binOp .neq t (.slice A m c) (.slice none 0 0)=(do pure (.bool (!(<-Op.equal t (.slice A m c) (.slice none 0 0)))):Sem Value):=rfl;simp[this,heq]
 ·cases hn
def CJ(hT:a6 P T)(hΓ:m9 P w0 lab0 Γ)(h:R w0 lab0 oo n V E a w){o:Oper}(hd:∀d,o.dst=some d->d<n){K:St->Option J}{r:J}(hr:tv Γ T N o V K=some r){next:Act->World->Prop}{Q:Exit->Act->World->Prop}
  (hK:∀V' E' v w',K V'=some r->R w0 lab0 oo n V' E' (a.put o.dst v) w'->(gQ Γ o=true->bT w w')->next (a.put o.dst v) w'):o.wp P a w next Q:=by
 unfold tv at hr;split at hr
 ·rename_i c x y hp;have hop:o.op=.pick c x y:=by
   obtain⟨dst,op,oty,pos,after,guard⟩:=o;simp only at hp ⊢;cases op<;>simp only[lu]at hp<;>try contradiction
   injection hp with hp;injection hp with e1 e2;injection e2 with e2 e3;rw[e1,e2,e3]
  split at hr
  ·rename_i b hb;have hc:=bj h c;rw[hb]at hc;have hc:a.eval c=.bool b:=hc;have hrun:(execOp a.eval o).run P w=.ok (.value (if b then a.eval x else a.eval y)) w:=by simp[execOp,hop,hc,asBool]
   unfold Oper.wp;rw[hrun];cases b;·exact hK _ E _ w hr (h.iput hd (bj h y)) λ_=>bT.refl w
   ·exact hK _ E _ w hr (h.iput hd (bj h x)) λ_=>bT.refl w
  ·cases hr
 ·rename_i hnp;split at hr
  ·rename_i f args hcall;split at hr
   ·rename_i en hen;split at hr
    ·rename_i X hX;rw[qI]at hr;cases hpre:ci en.pre X;·rw[hpre]at hr;cases hr
     rw[hpre]at hr;simp only[cond_true,xZ]at hr;have hG:en.G X=some (en.val X):=by unfold aQ.G;rw[hpre];rfl
     split at hr
     ·rename_i V' hout;obtain⟨hE,hfl⟩:=hΓ.g f en hen;obtain⟨x0,arr,ts,hop,harr,hx0⟩:=yf hcall;have hev:a.eval x0=.func (.func f) #[] #[]:=(yg h hx0);have hs:aj (aJ V E w) (args.map (ev V)) (arr.map a.eval).toList:=by rw[Array.toList_map,harr];exact tz h args
      have hq:gQ Γ o=true->cg en.sig.ps=true:=by
       intro hq;unfold gQ at hq;split at hq;·rename_i f' args' hcs;obtain⟨arr',ts',hop',_⟩:=ye hcs;rw[hop]at hop';injection hop' with hop';injection hop' with e1 e2 e3;injection e1 with e1;subst e1;have hx0:SV.c (.fn f' [])=.c (.fn f []):=hx0;injection hx0 with hx0;injection hx0 with hx0;subst hx0;rw[hen]at hq;exact hq
       ·rw[hop]at hq;simp[lu,jF]at hq
      have hrun:(execOp a.eval o).run P w=(callFunc f (arr.map a.eval)).run P w:=by simp[execOp,hop,resolve,hev,Deferred.ofValue,invoke]
      unfold Oper.wp;rw[hrun];rcases LS hE h hs hX hG hd hfl hout with⟨h1,h2⟩|⟨v,w',h1,v',E',he,h2,h3⟩
      ·rw[h1,Oper.upon_enter];refine h2.mono ?_;rintro e w' ⟨v,E',rfl,h3,h4⟩
       exact hK V' E' v w' hr h3 λhqq=>h4 (hq hqq)
      ·injection he with he;subst he;rw[h1];exact hK V' E' v w' hr h2 λhqq=>h3 (hq hqq)
     ·cases hr
    ·cases hr
   ·rename_i hng;split at hr
    ·rename_i en hen;split at hr
     ·rename_i qs X hX;rw[qI]at hr;cases hpre:ci en.pre X;·rw[hpre]at hr;cases hr
      rw[hpre]at hr;simp only[cond_true,xZ]at hr;split at hr
      ·rename_i V' hout;obtain⟨hE,hfl⟩:=hΓ.m f en hen;obtain⟨x0,arr,ts,hop,harr,hx0⟩:=yf hcall;have hev:a.eval x0=.func (.func f) #[] #[]:=(yg h hx0);have hs:aj (aJ V E w) (args.map (ev V)) (arr.map a.eval).toList:=by rw[Array.toList_map,harr];exact tz h args
       have hq:gQ Γ o=true->False:=by
        intro hq;unfold gQ at hq;split at hq;·rename_i f' args' hcs;obtain⟨arr',ts',hop',_⟩:=ye hcs;rw[hop]at hop';injection hop' with hop';injection hop' with e1 e2 e3;injection e1 with e1;subst e1;have hx0:SV.c (.fn f' [])=.c (.fn f []):=hx0;injection hx0 with hx0;injection hx0 with hx0;subst hx0;rw[hng]at hq;cases hq
        ·rw[hop]at hq;simp[lu,jF]at hq
       have hrun:(execOp a.eval o).run P w=(callFunc f (arr.map a.eval)).run P w:=by simp[execOp,hop,resolve,hev,Deferred.ofValue,invoke]
       unfold Oper.wp;rw[hrun];rcases LW hE h hs hX hpre hd hfl hout with⟨h1,h2⟩|⟨v,w',h1,v',E',he,h2⟩
       ·rw[h1,Oper.upon_enter];refine h2.mono ?_;rintro e w' ⟨v,E',rfl,h3⟩
        exact hK V' E' v w' hr h3 λhqq=>(hq hqq).elim
       ·injection he with he;subst he;rw[h1];exact hK V' E' v w' hr h2 λhqq=>(hq hqq).elim
      ·cases hr
     ·cases hr
    ·obtain⟨x0,arr,ts,hop,harr,hx0⟩:=yf hcall;have hev:a.eval x0=.func (.func f) #[] #[]:=(yg h hx0);have hs:aj (aJ V E w) (args.map (ev V)) (arr.map a.eval).toList:=by rw[Array.toList_map,harr];exact tz h args
     have hq:gQ Γ o=true->False:=by
      intro hq;unfold gQ at hq;split at hq;·rename_i f' args' hcs;obtain⟨arr',ts',hop',_⟩:=ye hcs;rw[hop]at hop';injection hop' with hop';injection hop' with e1 e2 e3;injection e1 with e1;subst e1;have hx0:SV.c (.fn f' [])=.c (.fn f []):=hx0;injection hx0 with hx0;injection hx0 with hx0;subst hx0;rw[hng]at hq;cases hq
      ·rw[hop]at hq;simp[lu,jF]at hq
     have hrun:(execOp a.eval o).run P w=(callFunc f (arr.map a.eval)).run P w:=by simp[execOp,hop,resolve,hev,Deferred.ofValue,invoke]
     have fin:∀V',K V'=some r->(dq P f (arr.map a.eval) w λe w'=>∃v E',e=.returned v/\R w0 lab0 oo n V' E' (a.put o.dst v) w')->o.wp P a w next Q:=by
      intro V' hr hcalls;unfold Oper.wp;rw[hrun];rcases hcalls with⟨h1,h2⟩|⟨v,w',h1,v',E',he,h2⟩
      ·rw[h1,Oper.upon_enter];refine h2.mono ?_;rintro e w' ⟨v,E',rfl,h3⟩
       exact hK V' E' v w' hr h3 λhqq=>(hq hqq).elim
      ·injection he with he;subst he;rw[h1];exact hK V' E' v w' hr h2 λhqq=>(hq hqq).elim
     split at hr
     ·rename_i en hen;split at hr
      ·rename_i qs X hX;rw[qI]at hr;cases hpre:ci en.pre X;·rw[hpre]at hr;cases hr
       rw[hpre]at hr;simp only[cond_true,xZ]at hr;split at hr;·rename_i V' hout;obtain⟨hE,hfl⟩:=hΓ.v f en hen;exact fin V' hr (L4 hE h hs hX hpre hd hfl hout)
       ·cases hr
      ·cases hr
     ·split at hr
      ·rename_i en hen;split at hr
       ·rename_i X hX;rw[qI]at hr;cases hpre:ci en.pre X;·rw[hpre]at hr;cases hr
        rw[hpre]at hr;simp only[cond_true]at hr;split at hr;·rename_i V' hout;exact fin V' hr (L5 (hΓ.n f en hen) h hs hX hpre hd hout)
        ·cases hr
       ·cases hr
      ·split at hr
       ·rename_i en hen;split at hr
        ·rename_i X hX;rw[qI]at hr;cases hpre:ci en.pre X;·rw[hpre]at hr;cases hr
         rw[hpre]at hr;simp only[cond_true]at hr;split at hr;·rename_i V' hout;exact(hΓ.s f en hen).elim
         ·cases hr
        ·cases hr
       ·cases hr
  ·rename_i hnc;split at hr
   ·rename_i c s hv;rw[xX,xY,aD]at hr;cases c
    ·cases hne:qC T V o.op;·rw[hne]at hr;cases hr
     ·rw[hne]at hr;obtain⟨q1,q2⟩:=CA (show cj _ _=some r from hr);obtain⟨b,h1⟩:=L7 hT h hne;unfold Oper.wp;rw[h1];cases b;·exact hK _ E _ w q2 (h.iput hd rfl) λ_=>bT.refl w
      ·exact hK _ E _ w q1 (h.iput hd rfl) λ_=>bT.refl w
    ·have hr:K (fD V o.dst s)=some r:=by cases hne:qC T V o.op<;>(rw[hne]at hr;exact hr)
     obtain⟨v,h1,h2⟩:=mL hT h hv rfl;unfold Oper.wp;rw[h1];exact hK _ E v w hr (h.iput hd h2) λ_=>bT.refl w
   ·rename_i hv;rw[bG.kL_eq]at hr;obtain⟨V',h1,h2⟩:=bG.k_run hr;have hnq:gQ Γ o=true->mN o.op=true:=by intro hq;unfold sZ at h1;split at h1;all_goals first | (cases h1;done) | (rename_i he;rw[he];unfold gQ at hq;rw[he]at hq;simp[qA,lu,jF,mN]at hq ⊢;done) | (rename_i he _;rw[he];unfold gQ at hq;rw[he]at hq;simp[qA,lu,jF,mN]at hq ⊢;done)
    rcases Lz hT h hd h1 with⟨v,w',E',g1,gx,g2⟩|⟨w',E',g1,g2⟩;·unfold Oper.wp;rw[g1];exact hK V' E' v w' h2 g2 λhq=>gx (hnq hq)
    ·have hnm:mN o.op=false:=by
      cases hm:mN o.op;·rfl
      ·exfalso;unfold mN at hm;split at hm;·rename_i he;unfold execOp at g1;rw[he]at g1;simp only at g1;rw[Sem.run_bind]at g1;cases hX:(Instr.makeSlice _ _ _).run P w<;>rw[hX]at g1<;>simp[Result.andThen]at g1
       ·rename_i he;unfold execOp at g1;rw[he]at g1;simp only at g1;rw[Sem.run_bind]at g1;cases hX:(Instr.alloc _ _ _).run P w<;>rw[hX]at g1<;>simp[Result.andThen]at g1
       ·rename_i he;unfold execOp at g1;rw[he]at g1;simp only at g1;rw[Sem.run_bind]at g1;cases hX:(Instr.box _ _).run P w<;>rw[hX]at g1<;>simp[Result.andThen]at g1
       ·rename_i he;unfold execOp at g1;rw[he]at g1;simp only at g1;rw[Sem.run_bind]at g1;cases hX:(Instr.buildSlice _ _ _).run P w<;>rw[hX]at g1<;>simp[Result.andThen]at g1
       ·cases hm
     unfold Oper.wp;rw[g1];exact hK V' E' undef w' h2 g2 λhq=>by rw[hnm]at hnq;exact absurd (hnq hq) (by simp)
def R.seen(h:R w0 lab0 oo n V E a w){t:Nat}(ht:t<n){b:Bool}(hb:V.slot t=.c (.bool b)):R w0 lab0 oo n (V.put t (.c (.bool b))) E a w/\a.tmps[t]? = some (.bool b):=by
 have hs:=h.slots t;rw[hb]at hs;have hbd:=h.bound;have hv:dx oo a t=.bool b:=hs;unfold dx at hv;rw[if_pos (by omega)]at hv;have hlt:t<a.tmps.size:=by rw[h.size];exact ht
 have hget:a.tmps[t]? = some (.bool b):=by rw[Array.getD_eq_getD_getElem?,Array.getElem?_eq_getElem hlt]at hv;rw[Array.getElem?_eq_getElem hlt];exact congrArg some hv
 refine⟨?_,hget⟩;have:=h.put (d:=t) (s:=.c (.bool b)) (v:=.bool b) ht rfl;have e:a.put (some t) (.bool b)=a:=by
  unfold Act.put;have:a.tmps.setIfInBounds t (.bool b)=a.tmps:=by
   apply Array.ext_getElem?;intro i;rw[Array.getElem?_setIfInBounds];by_cases e:t=i;·subst e;rw[if_pos rfl,if_pos hlt,hget]
   ·rw[if_neg e]
  simp only[this]
 rwa [e]at this
def yh(h:R w0 lab0 oo n V E a w)(hops:m8 n ops=true){i:Nat}{o:Oper}(ho:ops[i]? = some o){F K:St->Option J}{r:J}(hr:m7 ops o V F K=some r){G:Prop}
  (hF:∀V',R w0 lab0 oo n V' E a w->F V'=some r->Region.wanted o (yielded ops a.tmps)=true->G)
  (hK:∀V',R w0 lab0 oo n V' E (a.put o.dst undef) w->K V'=some r->Region.wanted o (yielded ops a.tmps)=false->G):G:=by
 have hd:=iq hops ho;unfold m7 at hr;split at hr;·rename_i hg;exact hF V h hr (by simp[Region.wanted,hg])
 ·rename_i j want hg;split at hr
  ·rename_i t ht;have htn:t<n:=by
    unfold ya at ht;split at ht;·rename_i oj hoj;exact iq hops hoj t ht
    ·cases ht
   have hbind:(ops[j]?).bind (·.dst)=some t:=by
    unfold ya at ht;split at ht;·rename_i oj hoj;rw[hoj];exact ht
    ·cases ht
   split at hr
   ·rename_i b hb;obtain⟨h1,h2⟩:=h.seen htn hb;have hy:yielded ops a.tmps j=some b:=by unfold yielded;rw[hbind];simp[h2]
    have hw:Region.wanted o (yielded ops a.tmps)=(b == want):=by unfold Region.wanted;rw[hg];simp only[hy];cases b<;>cases want<;>rfl
    cases b<;>cases want
    ·exact hF _ h1 hr (by rw[hw];rfl)
    ·exact hK _ (h1.iput (s:=.tup []) hd ⟨#[],rfl,trivial⟩) hr (by rw[hw];rfl)
    ·exact hK _ (h1.iput (s:=.tup []) hd ⟨#[],rfl,trivial⟩) hr (by rw[hw];rfl)
    ·exact hF _ h1 hr (by rw[hw];rfl)
   ·rename_i l hb;have hs:=h.slots t;rw[hb]at hs;obtain⟨arr,hv,_⟩:=hs;have hbd:=h.bound;unfold dx at hv;rw[if_pos (by omega)]at hv;have hlt:t<a.tmps.size:=by rw[h.size];exact htn
    have hy:yielded ops a.tmps j=none:=by unfold yielded;rw[hbind];rw[Array.getD_eq_getD_getElem?,Array.getElem?_eq_getElem hlt]at hv;have hv:a.tmps[t]=.tuple arr:=hv;simp[Array.getElem?_eq_getElem hlt,hv]
    exact hK _ (h.iput (s:=.tup []) hd ⟨#[],rfl,trivial⟩) hr (by unfold Region.wanted;rw[hg];simp[hy])
   ·cases hr
  ·cases hr
def L8(h:R w0 lab0 oo n V E a w)(hops:m8 n ops=true){i:Nat}{o:Oper}(ho:ops[i]? = some o){F K:St->Option J}{r:J}(hr:m7 ops o V F K=some r){G:Prop}
  (hF:∀V',R w0 lab0 oo n V' E a w->(o.guard=none->V'=V)->F V'=some r->Region.wanted o (yielded ops a.tmps)=true->G)
  (hK:∀V',R w0 lab0 oo n V' E (a.put o.dst undef) w->K V'=some r->Region.wanted o (yielded ops a.tmps)=false->G):G:=by
 cases hg:o.guard with
 |none =>unfold m7 at hr;rw[hg]at hr;exact hF V h (λ_=>rfl) hr (by simp[Region.wanted,hg])
 |some q=>exact yh h hops ho hr (λV' h' hF' hw=>hF V' h' (λhn=>by rw[hg]at hn;cases hn) hF' hw) hK
def oz{i:Nat}{o:Oper}(ho:ops[i]? = some o){next:Act->World->Prop}{Q:Exit->Act->World->Prop}(hw:Region.wanted o (yielded ops a.tmps)=true)(h:o.wp P a w next Q):wpOp P ops Q i next a w:=by unfold wpOp;rw[ho];simp only[hw,if_true];exact .inl h
def CK{i:Nat}{o:Oper}(ho:ops[i]? = some o){next:Act->World->Prop}{Q:Exit->Act->World->Prop}(hw:Region.wanted o (yielded ops a.tmps)=false)(h:next (a.put o.dst undef) w):wpOp P ops Q i next a w:=by unfold wpOp;rw[ho];simp only[hw];exact h
def L9(a:Act)(p:dF):Prop:=∀e k,p.el=some (e,k)->0<=k/\∃g m c,a.eval (.tmp p.d)=.slice (some ⟨g,0,none⟩) m c/\k<m/\a.eval (.tmp e)=.pointer (some ⟨g,k.toNat,none⟩)
def ir(V:St)(E:aL)(a:Act)(w:World)(pin:Option dF):Prop:=∀p,pin=some p->p.d<100000->(∃row,xx V E w p.r p.i p.f row (a.eval (.tmp p.d)))/\L9 a p
def CL(hT:a6 P T)(h:R w0 lab0 oo n V E a w){o:Oper}{p:dF}(hp:tu T V o=some p)(hd:∀d,o.dst=some d->d<n){c:Bool}{s:SV}(hv:cw T V o.op=some (c,s))(hc:c=true) :
  o.guard=none/\∃v,(execOp a.eval o).run P w=.ok (.value v) w/\aJ V E w s v/\ir (fD V o.dst s) E (a.put o.dst v) w (some p):=by
 obtain⟨v,h1,h2⟩:=mL hT h hv hc;have hbd:=h.bound;obtain⟨dst,op,oty,pos,after,guard⟩:=o;unfold tu at hp;simp only at hp hd h1 ⊢;split at hp
 ·rename_i t x d;split at hp
  ·rename_i r i f hx;split at hp
   ·rename_i row ti hrow ht;cases hq:(row.deep&&(ti.el.isSome&&!ti.agg));·rw[hq]at hp;cases hp
    rw[hq]at hp;injection hp with hp;subst hp;simp only[Bool.and_eq_true,Bool.not_eq_true']at hq;refine⟨rfl,v,h1,h2,λp hp hlt=>?_⟩;injection hp with hp;subst hp;have hdn:=hd d rfl;have rx:=bj h x;rw[hx]at rx;obtain⟨row',g,m,c',e1,e2,e3,e4,e5,e6⟩:=rx.c_inv;rw[hrow]at e1;injection e1 with e1;subst e1;refine⟨⟨row,hrow,hq.1,e3,e4,g,m,c',e2, ?_⟩,λe k he=>by cases he⟩;have hev:(a.put (some d) v).eval (.tmp d)=v:=by show(a.tmps.setIfInBounds d v).getD d undef=v;rw[sH _ _ _ _ (by rw[h.size];exact hdn),if_pos rfl]
    rw[hev];have hagg:=BE hT ht w;rw[hq.2.2]at hagg;simp only[execOp,e6]at h1;obtain⟨u,hcl⟩:∃u,w.cell? ⟨g,i.toNat*row.t.nc+f,none⟩=some u:=by
     have hal:lf V (.elt r i f) 1=some (((d7 row.t (row.xs.getD i.toNat row.t.dflt) (cond row.deep (some r) none)).drop f).take 1):=by simp only[lf,hrow];rw[show Nat.ble (f+1) row.t.nc=true from Nat.ble_eq_true_of_le (by omega)];rfl
     obtain⟨ad,vs,f',k1,k2,k3,_⟩:=wA h hal rx.c_inv;rw[e6]at k1;injection k1 with k1;injection k1 with k1;exact⟨vs[f'],by rw[k1];exact k3 f' _ (List.getElem?_eq_getElem (by omega))⟩
    simp[Instr.loadAt,Instr.sureAddr,loadVar,hagg,hcl]at h1;rw[hcl,h1]
   ·cases hp
  ·cases hp
 ·cases hp
def Mb(hT:a6 P T)(hΓ:m9 P w0 lab0 Γ)(h:R w0 lab0 oo n V E a w){o:Oper}(hd:∀d,o.dst=some d->d<n){p:dF}{f:Nat}{args:List Operand}(hcall:qB V o.op=some (f,args))
  {en:aQ} (hen:Γ.g f=some en) (hio:qD p.d (il en.sig.ps args)=true) (hone:dW en.sig.ps=true) (hpin:ir V E a w (some p)) {K:St->Option J}{r:J} (hr:CF Γ N p f args o.dst V K=some r) {next:Act->World->Prop}{Q:Exit->Act->World->Prop}
  (hK:∀V' E' v w',K V'=some r->R w0 lab0 oo n V' E' (a.put o.dst v) w'->next (a.put o.dst v) w'):o.wp P a w next Q:=by
 cases hr
def CM(hT:a6 P T)(h:R w0 lab0 oo n V E a w){o:Oper}{p:dF}{e:Nat}{k:Int}{t:Nat}{x:Operand}(hput:xW p o.op o.dst=some (e,k,t,x))(hpin:ir V E a w (some p)){K:St->Option J}{r:J}(hr:yb T p k t x V K=some r){next:Act->World->Prop}{Q:Exit->Act->World->Prop}
  (hK:∀V' E' v w',K V'=some r->R w0 lab0 oo n V' E' (a.put o.dst v) w'->next (a.put o.dst v) w'):o.wp P a w next Q:=by
 cases hr
def CN(hT:a6 P T)(h:R w0 lab0 oo n V E a w){o:Oper}{p p':dF}(hp:xV T V p o.op o.dst=some p')(hd:∀d,o.dst=some d->d<n)(hpin:ir V E a w (some p)){c:Bool}{s:SV}(hv:cw T V o.op=some (c,s))(hc:c=true) :
  ∃v,(execOp a.eval o).run P w=.ok (.value v) w/\aJ V E w s v/\ir (fD V o.dst s) E (a.put o.dst v) w (some p'):=by
 cases hp
def oA(hT:a6 P T)(hΓ:m9 P w0 lab0 Γ)(hops:m8 n ops=true){Q:Exit->Act->World->Prop}{K:St->Option J}{r:J}
  (hK:∀V' E' a' w',K V'=some r->R w0 lab0 oo n V' E' a' w'->Q .normal a' w') :
  ∀(is:List Nat) {pin:Option dF}{V:St}{E:aL}{a:Act}{w:World},R w0 lab0 oo n V E a w->ir V E a w pin->lw Γ T N ops is pin V K=some r->wpOps P ops Q is a w
 |[],pin,V,E,a,w,h,_,hr=>hK V E a w hr h
 |i::rest,pin,V,E,a,w,h,hpin,hr=>by
  have nopin:∀{V:St}{E:aL}{a:Act}{w:World},ir V E a w none:=λp hp=>by cases hp
  rw[wpOps_cons];simp only[lw]at hr;split at hr
  ·rename_i o ho;split at hr;·refine yh h hops ho hr (λV' h' hF hw=>oz ho hw ?_) (λV' h' hr' hw=>CK ho hw (oA hT hΓ hops hK rest h' nopin hr'));exact CJ hT hΓ h' (iq hops ho) hF λσ2 E2 v w2 hr2 h2 _=>oA hT hΓ hops hK rest h2 nopin hr2
   ·rename_i p hm;split at hr
    ·rename_i c s hv;rw[xX,xY]at hr;cases c;·cases hr
     simp only[cond_true]at hr;obtain⟨hg,v,h1,h2,h3⟩:o.guard=none/\∃v,(execOp a.eval o).run P w=.ok (.value v) w/\aJ V E w s v/\ir (fD V o.dst s) E (a.put o.dst v) w (some p):=by
      unfold tw at hm;split at hm;·rename_i p' hp';injection hm with hm;subst hm;exact CL hT h hp' (iq hops ho) hv rfl
      ·split at hm;·cases hm
       ·rename_i p' ;split at hm;·cases hm
        ·rename_i hg;split at hm
         ·split at hm;·rename_i en _;cases hq:(qD p'.d (il en.sig.ps _)&&dW en.sig.ps)<;>rw[hq]at hm<;>cases hm
          ·cases hm
         ·split at hm;·rename_i p2 hel;injection hm with hm;subst hm;obtain⟨v,h1,h2,h3⟩:=CN hT h hel (iq hops ho) hpin hv rfl;exact⟨hg,v,h1,h2,h3⟩
          split at hm;·cases hm
          cases hq:(jF o.op&&(jE p'.d o.dst&&lv p' o.dst));·rw[hq]at hm;cases hm
          rw[hq]at hm;injection hm with hm;subst hm;simp only[Bool.and_eq_true]at hq;obtain⟨v,h1,h2⟩:=mL hT h hv rfl;refine⟨hg,v,h1,h2,λp hp hlt=>?_⟩;obtain⟨⟨row,k1,k2,k3,k4,k5⟩,hE⟩:=hpin p hp hlt;injection hp with hp;subst hp;have keep:∀z,jE z o.dst=true->(a.put o.dst v).eval (.tmp z)=a.eval (.tmp z):=by
           intro z hz;cases hdst:o.dst with
           |none=>rfl
           |some e =>
            have he:=iq hops ho e hdst;rw[hdst]at hz;show(a.tmps.setIfInBounds e v).getD z undef=a.tmps.getD z undef;rw[sH _ _ _ _ (by rw[h.size];exact he),if_neg];rintro rfl
            simp[jE]at hz
          refine⟨⟨row,⟨?_,k2,k3,k4, ?_⟩⟩,λe k he=>?_⟩;rotate_left 2
          ·obtain⟨q1,g,m,c,q2,q3,q4⟩:=hE e k he;refine⟨q1,g,m,c,by rw[keep _ hq.2.1];exact q2,q3, ?_⟩;rw[keep _ (by have:=hq.2.2;unfold lv at this;rw[he]at this;exact this)];exact q4
          ·cases hdst:o.dst<;>exact k1
          ·rw[keep _ hq.2.1];exact k5
     refine oz ho (by simp[Region.wanted,hg]) ?_;unfold Oper.wp;rw[h1];exact oA hT hΓ hops hK rest (h.iput (iq hops ho) h2) h3 hr
    ·cases hr
   ·rename_i p f args hm;unfold tw at hm;split at hm;·cases hm
    ·split at hm;·cases hm
     ·rename_i p';split at hm;·cases hm
      ·rename_i hg;split at hm
       ·rename_i f' args' hcall;split at hm
        ·rename_i en hen;cases hq:(qD p'.d (il en.sig.ps args')&&dW en.sig.ps);·rw[hq]at hm;cases hm
         rw[hq]at hm;injection hm with e1 e2 e3;subst e1 e2 e3;simp only[Bool.and_eq_true]at hq;refine oz ho (by simp[Region.wanted,hg]) ?_;exact Mb hT hΓ h (iq hops ho) hcall hen hq.1 hq.2 hpin hr λV' E' v w' hr' h'=>oA hT hΓ hops hK rest h' nopin hr'
        ·cases hm
       ·split at hm;·cases hm
        split at hm;·cases hm
        ·cases hq:(jF o.op&&(jE p'.d o.dst&&lv p' o.dst))<;>rw[hq]at hm<;>cases hm
   ·rename_i p e k t x hm;unfold tw at hm;split at hm;·cases hm
    ·split at hm;·cases hm
     ·rename_i p';split at hm;·cases hm
      ·rename_i hg;split at hm
       ·split at hm;·rename_i en _;cases hq:(qD p'.d (il en.sig.ps _)&&dW en.sig.ps)<;>rw[hq]at hm<;>cases hm
        ·cases hm
       ·split at hm;·cases hm
        split at hm;·rename_i e1 k1 t1 x1 hput;injection hm with q1 q2 q3 q4 q5;subst q1 q2 q3 q4 q5;refine oz ho (by simp[Region.wanted,hg]) ?_;exact CM hT h hput hpin hr λV' E' v w' hr' h'=>oA hT hΓ hops hK rest h' nopin hr'
        ·cases hq:(jF o.op&&(jE p'.d o.dst&&lv p' o.dst))<;>rw[hq]at hm<;>cases hm
  ·cases hr
def NP(Q:Exit->Act->World->Prop):Prop:=∀c a a' w,Q (.panic c) a w->Q (.panic c) a' w
def yj{f:Nat->Bool}{i:Nat}:∀{l:List Nat},tx f l=some i->i∈l/\f i=true
 |[],h=>by cases h
 |j::l,h=>by
  simp only[tx]at h;cases hb:f j;·rw[hb]at h;exact⟨List.mem_cons_of_mem _ (yj h).1,(yj h).2⟩
  ·rw[hb]at h;injection h with h;subst h;exact⟨List.mem_cons_self,hb⟩
def CO(hT:a6 P T)(h:R w0 lab0 oo n V E a w){o:Oper}{pin:Option dF}(hd:∀d,o.dst=some d->d<n)(hpin:o.guard=none->ir V E a w pin){c:Bool}{s:SV}(hv:cw T V o.op=some (c,s))(hc:c=true)
  {v:Value} (h1:(execOp a.eval o).run P w=.ok (.value v) w):ir (fD V o.dst s) E (a.put o.dst v) w (yc T V o pin):=by
 have nopin:∀{V:St}{E:aL}{a:Act}{w:World},ir V E a w none:=λp hp=>by cases hp
 have same:∀{v'},(execOp a.eval o).run P w=.ok (.value v') w->v'=v:=λ{v'} h2=>by rw[h1]at h2;injection h2 with h2;injection h2 with h2;exact h2.symm
 unfold yc;split;·rename_i p hp;obtain⟨_,v',k1,_,k2⟩:=CL hT h hp hd hv hc;obtain rfl:=same k1;exact k2
 ·split
  ·rename_i p hg;have hpin:=hpin hg;split;·rename_i p' hp';obtain⟨v',k1,_,k2⟩:=CN hT h hp' hd hpin hv hc;obtain rfl:=same k1;exact k2
   ·cases hq:(jE p.d o.dst&&lv p o.dst);·exact nopin
    ·simp only[Bool.and_eq_true]at hq;intro p' hp' hlt;injection hp' with hp';subst hp';obtain⟨⟨row,k1,k2,k3,k4,k5⟩,hE⟩:=hpin p rfl hlt;have keep:∀z,jE z o.dst=true->(a.put o.dst v).eval (.tmp z)=a.eval (.tmp z):=by
      intro z hz;cases hdst:o.dst with
      |none=>rfl
      |some e =>
       have he:=hd e hdst;rw[hdst]at hz;show(a.tmps.setIfInBounds e v).getD z undef=a.tmps.getD z undef;rw[sH _ _ _ _ (by rw[h.size];exact he),if_neg];rintro rfl
       simp[jE]at hz
     refine⟨⟨row,⟨?_,k2,k3,k4, ?_⟩⟩,λe k he=>?_⟩;·cases hdst:o.dst<;>exact k1
     ·rw[keep _ hq.1];exact k5
     ·obtain⟨q1,g,m,c,q2,q3,q4⟩:=hE e k he;refine⟨q1,g,m,c,by rw[keep _ hq.1];exact q2,q3, ?_⟩;rw[keep _ (by have:=hq.2;unfold lv at this;rw[he]at this;exact this)];exact q4
  ·exact nopin
def lA(hT:a6 P T)(hΓ:m9 P w0 lab0 Γ)(hops:m8 n ops=true)(hsel:Region.noSelect ops=true){Q:Exit->Act->World->Prop}(hQ:NP Q){K:St->Option J}{r:J}
  (hK:∀V' E' a' w',K V'=some r->R w0 lab0 oo n V' E' a' w'->Q .normal a' w') :
  ∀(fuel:Nat) (listed:Array Bool) {pin:Option dF}{V:St}{E:aL}{a:Act}{w:World},jy ops listed->R w0 lab0 oo n V E a w->ir V E a w pin->kF Γ T N ops fuel listed pin V K=some r->gL P ops (lz Γ ops) Q fuel listed a w
 |0,listed,pin,V,E,a,w,hcl,h,hpin,hr=>by
  simp only[kF]at hr;cases hq:(Region.ready .any ops listed).isEmpty;·rw[hq]at hr;cases hr
  ·rw[hq]at hr;exact⟨by simpa using hq,hK V E a w hr h⟩
 |fuel+1,listed,pin,V,E,a,w,hcl,h,hpin,hr=>by
  have nopin:∀{V:St}{E:aL}{a:Act}{w:World},ir V E a w none:=λp hp=>by cases hp
  simp only[kF]at hr;split at hr;·rename_i hre;exact LG hre (hK V E a w hr h) _
  ·rename_i i0 rs hre;split at hr
   ·rename_i i hi;obtain⟨hmem,hfs⟩:=yj hi;rw[<-hre]at hmem;split at hr
    ·rename_i o ho;obtain⟨hfree,hH⟩:Region.free .any ops listed i=true/\lz Γ ops i=false:=by unfold CH at hfs;rw[ho]at hfs;simp only[Bool.and_eq_true,Bool.not_eq_true']at hfs;exact⟨hfs.2.1,hfs.2.2⟩
     refine L8 h hops ho hr (λV' h' hsame hF hw=>?_) (λV' h' hr' hw=>?_)
     ·unfold CG at hF;split at hF
      ·rename_i c s hv;rw[xX,xY]at hF;cases hso:xg o.op s;·rw[hso]at hF;cases hF
       ·rw[hso]at hF;cases c;·cases hF
        ·cases hpo:mO o.op;·obtain⟨v,h1,h2⟩:=LB hT h' hv rfl hso;exact B7 hH ho hpo hsel hcl hfree hmem (λc a' w' hq=>hQ c _ _ _ hq) (.inl ⟨hw,h1⟩) (lA hT hΓ hops hsel hQ hK fuel _ (hcl.put hmem) (h'.iput (iq hops ho) h2) (CO hT h' (iq hops ho) (λhg=>by have:=hsame hg;subst this;exact hpin) hv rfl (h1 w (bT.refl w))) hF)
         ·obtain⟨v,h1,h2⟩:=LC hT h' hv rfl hpo;exact B8 ho hsel hfree hmem (λc a' w' hq=>hQ c _ _ _ hq) (.inl ⟨hw,λw' _=>h1 w'⟩) (lA hT hΓ hops hsel hQ hK fuel _ (hcl.put hmem) (h'.iput (iq hops ho) h2) (CO hT h' (iq hops ho) (λhg=>by have:=hsame hg;subst this;exact hpin) hv rfl (h1 w)) hF)
      ·cases hF
     ·cases hpo:mO o.op;·exact B7 hH ho hpo hsel hcl hfree hmem (λc a' w' hq=>hQ c _ _ _ hq) (.inr ⟨hw,rfl⟩) (lA hT hΓ hops hsel hQ hK fuel _ (hcl.put hmem) h' nopin hr')
      ·exact B8 ho hsel hfree hmem (λc a' w' hq=>hQ c _ _ _ hq) (.inr ⟨hw,rfl⟩) (lA hT hΓ hops hsel hQ hK fuel _ (hcl.put hmem) h' nopin hr')
    ·cases hr
   ·refine⟨(λhe=>by rw[hre]at he;cases he),λi hi=>?_⟩;rw[hre]at hi;have hr:=CB hr i hi;split at hr
    ·rename_i o ho;cases hq:(gQ Γ o||jY ops (lz Γ ops) i);·rw[hq]at hr;cases hr
     ·rw[hq]at hr;simp only[cond_true]at hr;have hext:∀{w'},(gQ Γ o=true->bT w w')->jY ops (lz Γ ops) i=false->bT w w':=λh1 h2=>h1 (by simpa[h2]using hq);split at hr
      ·rename_i p e k t x hput;cases hlb:jY ops (lz Γ ops) i;·rw[hlb]at hr;cases hr
       rw[hlb]at hr;simp only[cond_true]at hr;unfold CI at hput;split at hput
       ·rename_i p' hg;split at hput;·rename_i y hy;injection hput with hput;injection hput with q1 q2;subst q1 q2;refine oz ho (by simp[Region.wanted,hg]) ?_;exact CM hT h hy hpin hr λV' E' v w' hr' h'=>⟨(λhlf=>by cases hlf),lA hT hΓ hops hsel hQ hK fuel _ (hcl.put (by rw[hre];exact hi)) h' nopin hr'⟩
        ·cases hput
       ·cases hput
      refine yh h hops ho hr (λV' h' hF hw=>oz ho hw ?_) (λV' h' hr' hw=>CK ho hw ⟨λ_=>bT.refl w,lA hT hΓ hops hsel hQ hK fuel _ (hcl.put (by rw[hre];exact hi)) h' nopin hr'⟩);exact CJ hT hΓ h' (iq hops ho) hF λσ2 E2 v w2 hr2 h2 h3=>⟨hext h3,lA hT hΓ hops hsel hQ hK fuel _ (hcl.put (by rw[hre];exact hi)) h2 nopin hr2⟩
    ·cases hr
def Mc(hT:a6 P T)(hΓ:m9 P w0 lab0 Γ)(hm:P.follows .mixedOrders=true)(hops:m8 n ops=true){Q:Exit->Act->World->Prop}(hQ:NP Q){K:St->Option J}{r:J}{id:Nat}{draw:Bool}
  (hK:∀V' E' a' w',K V'=some r->R w0 lab0 oo n V' E' a' w'->Q .normal a' w') (h:R w0 lab0 oo n V E a w) (hr:yd Γ T N ops draw V K=some r):(Code.region id ops draw).wp P Q a w:=by
 unfold yd at hr;cases draw;·exact wp_region (oA hT hΓ hops hK _ h (λp hp=>by cases hp) hr)
 ·simp only[cond_true]at hr;cases hsel:Region.noSelect ops;·rw[hsel]at hr;cases hr
  ·rw[hsel]at hr;refine wp_region_any hm (B5 _ _ _ _ (lA hT hΓ hops hsel hQ hK _ _ jy.none (h.ext ?_) (λp hp=>by cases hp) hr));exact⟨rfl,⟨rfl,λ_=>Nat.le_succ _⟩,rfl,Nat.le_refl _,λ_ _=>rfl⟩
end
def aA{α:Type}:List (Nat×α)->Nat->Option α
 |[],_=>none
 | (k,v)::l,t=>cond (Nat.beq t k) (some v) (aA l t)
structure fT where
 bx:Bool
 k:Nat
 i:Nat
structure qL where
 loc:fT
 nm:Nat
 e:Nat
 t:Ty
 deep:Bool
structure ab where
 slots:List Nat
 boxes:List Nat
 nils:List qL
 frz:List (fT×Nat×Ty)
 rows:List (fT×Nat)
def na(V:St)(l:fT):Option ai :=
 cond l.bx (match V.box l.k with
  |some (_,cs)=>cs[l.i]?
  |none=>none)
 (match V.slot l.k with
  |.c x=>cond (Nat.beq l.i 0) (some x) none
  |.agg cs=>cs[l.i]?
  |.tup _=>none)
def tA(V:St)(l:fT)(c:ai):St :=
 cond l.bx (match V.box l.k with
  |some (te,cs)=>⟨V.slot,ao V.box l.k (some (te,cs.set l.i c)),V.row⟩
  |none=>V)
 (match V.slot l.k with
  |.c _=>V.put l.k (.c c)
  |.agg cs=>V.put l.k (.agg (cs.set l.i c))
  |.tup _=>V)
def yk(V:St)(d:qL):Option St:=match na V d.loc with
 |some .nil=>match V.row d.nm with
  |none=>some (tA (V.withRow (ao V.row d.nm (some ⟨d.e,d.t,[],d.deep,true⟩))) d.loc (.own d.nm))
  |some _=>none
 |some (.own r)=>match V.row r with
  |some row=>match sY row d.deep with
   |some row'=>some { V with row:=ao V.row r (some row') }
   |none=>some V
  |none=>some V
 |_=>some V
def tB:List qL->St->Option St
 |[],V=>some V
 |d::ds,V=>match yk V d with
  |some V'=>tB ds V'
  |none=>none
def yl(V:St)(d:fT×Nat×Ty):Option St:=match na V d.1 with
 |some (.own r)=>absorb r none V
 |some .nil=>some (tA V d.1 (.sn d.2.1 d.2.2 [] none))
 |_=>some V
def tC:List (fT×Nat×Ty)->St->Option St
 |[],V=>some V
 |d::ds,V=>match yl V d with
  |some V'=>tC ds V'
  |none=>none
def CP(V:St):List (fT×Nat)->Option (List (Nat×Nat))
 |[]=>some []
 | (l,q)::ls=>match na V l,CP V ls with
  |some (.own r),some m=>some ((r,q)::m)
  |_,_=>none
def iO(m:List (Nat×Nat))(f:Nat->ai)(r:Nat):ai:=match aA m r with
 |some q=>f q
 |none=>.undef
def gk(m:List (Nat×Nat))(bs:List Nat):ai->ai
 |.own r=>iO m .own r
 |.part r lo n=>iO m (λq=>.part q lo n) r
 |.elt r i f=>iO m (λq=>.elt q i f) r
 |.sn e t xs (some r)=>iO m (λq=>.sn e t xs (some q)) r
 |.full e t xs (some r)=>iO m (λq=>.full e t xs (some q)) r
 |.selt t x (some r) f=>iO m (λq=>.selt t x (some q) f) r
 |.box b f=>cond (bH b bs) (.box b f) .undef
 |.mp b=>cond (bH b bs) (.mp b) .undef
 |.fn f caps=>cond (caps.all λp=>bH p.1 bs) (.fn f caps) .undef
 |c=>c
def ym(q:Nat):Bool:=Nat.ble 1000000000 q
def nh(q:Nat)(row:ae):ae:=⟨row.e,row.t,row.xs,row.deep,ym q&&row.nilE⟩
def tD(V:St)(f:ai->ai):List Nat->Option (List (Nat×(Nat×List ai)))
 |[]=>some []
 |b::bs=>match V.box b,tD V f bs with
  |some (te,cs),some l=>some ((b,(te,cs.map f))::l)
  |_,_=>none
def oB(V:St):List (Nat×Nat)->Option (List (Nat×ae))
 |[]=>some []
 | (r,q)::m=>match V.row r,oB V m with
  |some row,some l=>some ((q,nh q row)::l)
  |_,_=>none
def gl(sl:List (Nat×SV))(t:Nat):SV:=match aA sl t with
 |some s=>s
 |none=>.c .undef
def ah(sl:List (Nat×SV))(bx:List (Nat×(Nat×List ai)))(rw:List (Nat×ae)):St:=⟨gl sl,aA bx,aA rw⟩
def qM(V:St)(f:ai->ai):List Nat->List (Nat×SV)
 |[]=>[]
 |t::ts=>(t,(V.slot t).map f)::qM V f ts
def it(cl:ab)(V:St):Option St:=match(tB cl.nils V).bind (tC cl.frz)with
 |some σ1=>match CP σ1 cl.rows with
  |some m=>cond (dQ (m.map (·.1))&&dQ (m.map (·.2))) (match tD σ1 (gk m cl.boxes) cl.boxes,oB σ1 m with
   |some bx,some rw=>some (ah (qM σ1 (gk m cl.boxes) cl.slots) bx rw)
   |_,_=>none) none
  |none=>none
 |none=>none
section
variable {P : Program} {V V' : St} {E E' : aL} {w w' : World} {w0 : World} {lab0 : Nat → aC} {oo : Nat → Value} {n : Nat} {a : Act} [DC]
def R.reslot(h:R w0 lab0 oo n V E a w){t:Nat}{s:SV}(hs:∀v,aJ V E w (V.slot t) v->aJ V E w s v):R w0 lab0 oo n (V.put t s) E a w:=by
 have m:cJ V E w (V.put t s) E w:=cJ.same rfl rfl;refine⟨h.bound,h.size,h.defers,λt'=>?_,λb te cs hb=>?_,h.rows,h.same⟩
 ·by_cases e:t'=t;·subst e;show aJ _ _ _ (ao V.slot t' s t') _;rw[aY];exact(hs _ (h.slots t')).move m
  ·show aJ _ _ _ (ao V.slot t s t') _;rw[bh _ _ e];exact(h.slots t').move m
 ·obtain⟨arr,h1,h2,h3,h4⟩:=h.boxes b te cs hb;exact⟨arr,h1,h2,h3.imp λ_ _ h=>h.move m,h4⟩
def R.rebox(h:R w0 lab0 oo n V E a w){b te:Nat}{cs cs':List ai}(hb:V.box b=some (te,cs))(hl:cs'.length=cs.length)(hs:∀vs,aj (ak V E w) cs vs->aj (ak V E w) cs' vs) :
  R w0 lab0 oo n ⟨V.slot,ao V.box b (some (te,cs')),V.row⟩ E a w:=by
 have m:cJ V E w ⟨V.slot,ao V.box b (some (te,cs')),V.row⟩ E w:=by
  refine⟨λr row h=>⟨row,h,rfl,rfl,Nat.le_refl _⟩,λb' te' cs0 hb'=>?_,λ_ _ _ h1 h2=>⟨h1,h2⟩,λ_ _ _ _ h=>h⟩;by_cases e:b'=b;·subst e;rw[hb]at hb';injection hb' with hb';injection hb' with e1 e2;subst e1 e2;exact⟨te,cs',aY _ _ _,rfl,hl⟩
  ·exact⟨te',cs0,(bh _ _ e).trans hb',rfl,rfl⟩
 refine⟨h.bound,h.size,h.defers,λt'=>(h.slots t').move m,λb' te' cs0 hb'=>?_,h.rows,h.same⟩;by_cases e:b'=b;·subst e;have hb':ao V.box b' (some (te,cs')) b'=some (te',cs0):=hb';rw[aY]at hb';injection hb' with hb';injection hb' with e1 e2;subst e1 e2;obtain⟨arr,h1,h2,h3,h4⟩:=h.boxes b' te cs hb;exact⟨arr,h1,h2,(hs _ h3).imp λ_ _ h=>h.move m,h4⟩
 ·have hb':ao V.box b (some (te,cs')) b'=some (te',cs0):=hb';rw[bh _ _ e]at hb';obtain⟨arr,h1,h2,h3,h4⟩:=h.boxes b' te' cs0 hb';exact⟨arr,h1,h2,h3.imp λ_ _ h=>h.move m,h4⟩
def aj.reset{Q:ai->Value->Prop}{c c':ai}(hs:∀v,Q c v->Q c' v):∀{cs:List ai}{vs:List Value}{i:Nat},cs[i]? = some c->aj Q cs vs->aj Q (cs.set i c') vs
 |[],_,_,h,_=>by simp at h
 |x::cs,[],_,_,h=>h.elim
 |x::cs,v::vs,0,h,h2=>by simp at h;subst h;exact⟨hs _ h2.1,h2.2⟩
 |x::cs,v::vs,i+1,h,h2=>⟨h2.1,aj.reset hs (by simpa using h) h2.2⟩
def R.resetAt(h:R w0 lab0 oo n V E a w){l:fT}{c c':ai}(hc:na V l=some c)(hs:∀v,ak V E w c v->ak V E w c' v):R w0 lab0 oo n (tA V l c') E a w:=by
 obtain⟨bx,k,i⟩:=l;unfold na at hc;unfold tA;cases bx
 ·simp only[cond_false]at hc ⊢;split at hc
  ·rename_i x hx;cases hi:Nat.beq i 0;·rw[hi]at hc;cases hc
   ·rw[hi]at hc;injection hc with hc;subst hc;exact h.reslot λv hv=>by rw[hx]at hv;exact hs v hv
  ·rename_i cs hx;refine h.reslot λv hv=>?_;rw[hx]at hv;obtain⟨arr,e,hv⟩:=hv;exact⟨arr,e,hv.reset hs hc⟩
  ·cases hc
 ·simp only[cond_true]at hc ⊢;split at hc;·rename_i te cs hx;exact h.rebox hx (by simp) λvs hv=>hv.reset hs hc
  ·cases hc
def Md(h:R w0 lab0 oo n V E a w){d:qL}(hr:yk V d=some V'):∃E',R w0 lab0 oo n V' E' a w:=by
 unfold yk at hr;split at hr
 ·rename_i hc;split at hr
  ·rename_i hfree;injection hr with hr;subst hr;have G:=h.nilRow (r:=d.nm) (e:=d.e) (t:=d.t) (deep:=d.deep) hfree;refine⟨_,R.resetAt (c:=.nil) G ?_ λv hv=>?_⟩;·exact hc
   ·obtain rfl:v=_:=hv;exact⟨(aY _ _ _).symm,by show(ao V.row d.nm _ d.nm).isSome=true;rw[aY];rfl,none,0,0,rfl⟩
  ·cases hr
 ·split at hr
  ·rename_i row hrow;split at hr;·rename_i row' hsh;injection hr with hr;subst hr;exact⟨E,(h.shal hrow hsh).2.2.2⟩
   ·injection hr with hr;subst hr;exact⟨E,h⟩
  ·injection hr with hr;subst hr;exact⟨E,h⟩
 ·injection hr with hr;subst hr;exact⟨E,h⟩
def CQ:∀{ds:List qL}{V V':St}{E:aL},R w0 lab0 oo n V E a w->tB ds V=some V'->∃E',R w0 lab0 oo n V' E' a w
 |[],V,V',E,h,hr=>by injection hr with hr;subst hr;exact⟨E,h⟩
 |d::ds,V,V',E,h,hr=>by
  simp only[tB]at hr;split at hr;·rename_i σ1 h1;obtain⟨E1,g1⟩:=Md h h1;exact CQ g1 hr
  ·cases hr
def Me(h:R w0 lab0 oo n V E a w){d:fT×Nat×Ty}(hr:yl V d=some V'):∃E',R w0 lab0 oo n V' E' a w:=by
 unfold yl at hr;split at hr;·rename_i r hc;obtain⟨lab',g,_⟩:=R.absorbs (p:=none) (qs:=[r]) (V':=V') h (by simp[Fw.absorbs,hr]) (λ_ h=>by cases h);exact⟨_,g⟩
 ·rename_i hc;injection hr with hr;subst hr;exact⟨E,h.resetAt hc λv hv=>by obtain rfl:v=_:=hv;exact⟨none,0,0,rfl,rfl,Nat.le_refl _,Nat.zero_le _,.inl rfl⟩⟩
 ·injection hr with hr;subst hr;exact⟨E,h⟩
def CR:∀{ds:List (fT×Nat×Ty)}{V V':St}{E:aL},R w0 lab0 oo n V E a w->tC ds V=some V'->∃E',R w0 lab0 oo n V' E' a w
 |[],V,V',E,h,hr=>by injection hr with hr;subst hr;exact⟨E,h⟩
 |d::ds,V,V',E,h,hr=>by
  simp only[tC]at hr;split at hr;·rename_i σ1 h1;obtain⟨E1,g1⟩:=Me h h1;exact CR g1 hr
  ·cases hr
def oC(m:List (Nat×Nat)):aC->aC
 |.row r=>match aA m r with
  |some q=>.row q
  |none=>.dead
 |.inn r=>match aA m r with
  |some q=>.inn q
  |none=>.dead
 |l=>l
def CS{m:List (Nat×Nat)}{p p':Option Nat}(h:(p=none/\p'=none)\/∃r q,p=some r/\p'=some q/\aA m r=some q):oC m (bF p)=bF p':=by
 rcases h with⟨rfl,rfl⟩|⟨r,q,rfl,rfl,h⟩;·rfl
 ·simp[bF,oC,h]
def R.ren(h:R w0 lab0 oo n V E a w){m:List (Nat×Nat)}{bs:List Nat}(hslot:∀t,V'.slot t=(V.slot t).map (gk m bs)\/V'.slot t=.c .undef)
  (hbox:∀b te cs,V'.box b=some (te,cs)->∃cs0,V.box b=some (te,cs0)/\cs=cs0.map (gk m bs))
  (hbox':∀b te cs,bH b bs=true->V.box b=some (te,cs)->V'.box b=some (te,cs.map (gk m bs)))
  (hrow:∀q row',V'.row q=some row'->∃r row,aA m r=some q/\V.row r=some row/\row'=nh q row)
  (hrow':∀r q row,aA m r=some q->V.row r=some row->V'.row q=some (nh q row))
  (inj:∀r r' q,aA m r=some q->aA m r'=some q->r=r'):∃E',R w0 lab0 oo n V' E' a w:=by
 classical
 let E':aL:=⟨λk=>oC m (E.lab k),λq=>if hq:∃r,aA m r=some q then E.rv hq.choose else undef,E.bb⟩;have hrv:∀r q,aA m r=some q->E'.rv q=E.rv r:=by intro r q hq;have hex:∃r,aA m r=some q:=⟨r,hq⟩;show(if hq:∃r,aA m r=some q then E.rv hq.choose else undef)=_;rw[dif_pos hex,inj _ _ _ hex.choose_spec hq]
 have hlab:∀k,E'.lab k=oC m (E.lab k):=λk=>rfl;have rd:∀{p p':Option Nat}{t:Ty}{cs:List Value}{x:t.den},((p=none/\p'=none)\/∃r q,p=some r/\p'=some q/\aA m r=some q)->Rd w (λk=>E.lab k=bF p) t cs x->Rd w (λk=>E'.lab k=bF p') t cs x:=by intro p p' t cs x hp hr;refine hr.mono λk hk=>?_;rw[hlab,hk];exact CS hp
 have selt:∀{p p':Option Nat}{t:Ty}{x:t.den}{f:Nat}{v:Value},((p=none/\p'=none)\/∃r q,p=some r/\p'=some q/\aA m r=some q)->ak V E w (.selt t x p f) v->ak V' E' w (.selt t x p' f) v:=by intro p p' t x f v hp hr;obtain⟨ad,cs,h1,h2,h3,h4,h5⟩:=hr;exact⟨ad,cs,h1,h2,by rw[hlab,h3];exact CS hp,rd hp h4,h5⟩
 have hc:∀c v,ak V E w c v->ak V' E' w (gk m bs c) v:=by
  intro c v hv;cases c with
  |undef=>trivial
  |int _ _=>exact hv
  |bool _=>exact hv
  |str _=>exact hv
  |err _=>exact hv
  |bor v0 e t xs=>exact⟨hv.1,rd (p:=none) (p':=none) (.inl ⟨rfl,rfl⟩) hv.2⟩
  |nil=>exact hv
  |sn e t xs p =>
   cases p with
   |none=>exact rd (p:=none) (p':=none) (.inl ⟨rfl,rfl⟩) hv
   |some r =>
    simp only[gk,iO];split;·rename_i q hq;exact rd (p:=some r) (p':=some q) (.inr ⟨r,q,rfl,rfl,hq⟩) hv
    ·trivial
  |full e t xs p =>
   cases p with
   |none=>exact⟨rd (p:=none) (p':=none) (.inl ⟨rfl,rfl⟩) hv.1,hv.2⟩
   |some r =>
    simp only[gk,iO];split;·rename_i q hq;exact⟨rd (p:=some r) (p':=some q) (.inr ⟨r,q,rfl,rfl,hq⟩) hv.1,hv.2⟩
    ·trivial
  |own r =>
   simp only[gk,iO];split;·rename_i q hq;obtain⟨rfl,h1,h2⟩:=hv;obtain⟨row,hr⟩:=Option.isSome_iff_exists.1 h1;exact⟨(hrv r q hq).symm,by rw[hrow' r q row hq hr];rfl,h2⟩
   ·trivial
  |part r lo n =>
   simp only[gk,iO];split;·rename_i q hq;obtain⟨row,A,c,h1,h2,h3,h4,h5,h6,h7,h8⟩:=hv;refine⟨nh q row,A,c,hrow' r q row hq h1,h2,h3,h4,h5,h6,h7,λhn=>?_⟩;rw[hrv r q hq];exact h8 hn
   ·trivial
  |box b f =>
   simp only[gk];cases hb:bH b bs;·trivial
   ·obtain⟨rfl,te,cs,h1,h2⟩:=hv;exact⟨rfl,te,_,hbox' b te cs hb h1,by simpa using h2⟩
  |mp b =>
   simp only[gk];cases hb:bH b bs;·trivial
   ·obtain⟨rfl,te,cs,h1⟩:=hv;exact⟨rfl,te,_,hbox' b te cs hb h1⟩
  |mset t xs=>exact hv
  |elt r i f =>
   simp only[gk,iO];split;·rename_i q hq;obtain⟨row,g,n,c,h1,h2,h3,h4,h5,h6⟩:=hv;exact⟨nh q row,g,n,c,hrow' r q row hq h1,by rw[hrv r q hq];exact h2,h3,h4,h5,h6⟩
   ·trivial
  |selt t x p f =>
   cases p with
   |none=>exact selt (p:=none) (p':=none) (.inl ⟨rfl,rfl⟩) hv
   |some r =>
    simp only[gk,iO];split;·rename_i q hq;exact selt (p:=some r) (p':=some q) (.inr ⟨r,q,rfl,rfl,hq⟩) hv
    ·trivial
  |fn f caps =>
   simp only[gk];cases hb:caps.all λp=>bH p.1 bs;·trivial
   ·obtain⟨rfl,hv⟩:=hv;refine⟨rfl,λp hp=>?_⟩;obtain⟨te,cs,h1,h2⟩:=hv p hp;exact⟨te,_,hbox' p.1 te cs (List.all_eq_true.1 hb p hp) h1,by simpa using h2⟩
 refine⟨E',h.bound,h.size,h.defers,λt=>?_,λb te cs hb=>?_,λq row' hq=>?_, ?_⟩
 ·rcases hslot t with e|e;·rw[e];exact(h.slots t).mapl hc
  ·rw[e];show aJ V' E' w (.c .undef) (dx oo a t);exact True.intro
 ·obtain⟨cs0,h1,rfl⟩:=hbox b te cs hb;obtain⟨arr,k1,k2,k3,k4⟩:=h.boxes b te cs0 h1;exact⟨arr,k1,by rw[hlab,k2];rfl,k3.mapl hc,k4⟩
 ·obtain⟨r,row,h1,h2,rfl⟩:=hrow q row' hq;obtain⟨css,k1,k2,k3,k4⟩:=h.rows r row h2;rw[hrv r q h1];refine⟨css,k1,λk hk=>by rw[hlab,k2 k hk];simp[oC,h1], ?_,λh=>k4 (Bool.and_eq_true_iff.1 h).2⟩;show cond row.deep _ _;cases hd:row.deep;·rw[hd]at k3;exact aj.imp (λc y hy=>Rd.mono (λk hk=>(by rw[hlab,hk];rfl)) hy) (show aj (λc y=>Rd w (λk=>E.lab k=.st) row.t c y) css row.xs from k3)
  ·rw[hd]at k3;obtain⟨Ls,j1,j2,j3⟩:=k3;exact⟨Ls,j1,j2,λk hk=>by rw[hlab,j3 k hk];simp[oC,h1]⟩
 ·refine⟨h.same.os,h.same.tape,h.same.output,h.same.size,λk hk hl=>?_,λk hk hl=>?_⟩;·obtain⟨g1,g2⟩:=h.same.old k hk hl;exact⟨by rw[hlab,g1];rfl,g2⟩
  ·obtain⟨g1,g2⟩:=h.same.gone k hk hl;exact⟨by rw[hlab,g1];rfl,g2⟩
def oD{a b:Nat}:Nat.beq a b=true↔a=b:=⟨Nat.eq_of_beq_eq_true,λe=>by subst e;exact Nat.beq_refl a⟩
def fI{α:Type}:∀{l:List (Nat×α)}{t:Nat}{v:α},aA l t=some v->(t,v)∈l
 |[],_,_,h=>by cases h
 | (k,u)::l,t,v,h=>by
  simp only[aA]at h;cases hb:Nat.beq t k;·rw[hb]at h;exact List.mem_cons_of_mem _ (fI h)
  ·rw[hb]at h;injection h with h;rw[<-h,oD.1 hb];exact List.mem_cons_self
def CT{f:ai->ai}(t:Nat):∀ts:List Nat,aA (qM V f ts) t=some ((V.slot t).map f)\/aA (qM V f ts) t=none
 |[]=>.inr rfl
 |t'::ts=>by
  simp only[qM,aA];cases hb:Nat.beq t t';·exact CT t ts
  ·rw[oD.1 hb];exact .inl rfl
def yn{f:ai->ai}(b:Nat):∀{bs:List Nat}{l:List (Nat×(Nat×List ai))},tD V f bs=some l ->
  (∀te cs,aA l b=some (te,cs)->∃cs0,V.box b=some (te,cs0)/\cs=cs0.map f)/\(∀te cs,bH b bs=true->V.box b=some (te,cs)->aA l b=some (te,cs.map f))
 |[],l,h=>by injection h with h;subst h;exact⟨(λte cs h=>by cases h),λte cs h=>by cases h⟩
 |b'::bs,l,h=>by
  simp only[tD]at h;split at h
  ·rename_i te cs l' hb hl;injection h with h;subst h;obtain⟨g1,g2⟩:=yn b hl;simp only[aA,bH];cases hq:Nat.beq b b';·exact⟨g1,λte cs hm=>g2 te cs (by simpa using hm)⟩
   ·obtain rfl:=oD.1 hq;refine⟨λte' cs' h'=>?_,λte' cs' _ h'=>?_⟩;·simp only[cond_true,Option.some.injEq,Prod.mk.injEq]at h';obtain⟨rfl,rfl⟩:=h';exact⟨cs,hb,rfl⟩
    ·rw[hb]at h';injection h' with h';injection h' with e1 e2;rw[e1,e2];rfl
  ·cases h
def CU(q:Nat):∀{m:List (Nat×Nat)}{l:List (Nat×ae)},oB V m=some l->∀row',aA l q=some row'->∃r row,(r,q)∈m/\V.row r=some row/\row'=nh q row
 |[],l,h,row',h'=>by injection h with h;subst h;cases h'
 | (r,q')::m,l,h,row',h'=>by
  simp only[oB]at h;split at h
  ·rename_i row l' hr hl;injection h with h;subst h;simp only[aA]at h';cases hb:Nat.beq q q';·rw[hb]at h';obtain⟨r',row2,k1,k2,k3⟩:=CU q hl row' h';exact⟨r',row2,List.mem_cons_of_mem _ k1,k2,k3⟩
   ·rw[hb]at h';injection h' with h';obtain rfl:=oD.1 hb;exact⟨r,row,List.mem_cons_self,hr,h'.symm⟩
  ·cases h
def CV{r q:Nat}{row:ae}(hrow:V.row r=some row):∀{m:List (Nat×Nat)}{l:List (Nat×ae)},oB V m=some l->(m.map (·.2)).Nodup->(r,q)∈m->aA l q=some (nh q row)
 |[],l,h,_,hm=>by cases hm
 | (r',q')::m,l,h,hn,hm=>by
  simp only[oB]at h;split at h
  ·rename_i row' l' hr hl;injection h with h;subst h;simp only[aA];simp only[List.map_cons,List.nodup_cons]at hn;rcases List.mem_cons.1 hm with e|hm;·injection e with e1 e2;subst e1 e2;rw[hr]at hrow;injection hrow with hrow;rw[Nat.beq_refl,hrow];rfl
   ·have hne:Nat.beq q q'=false:=by
     cases hb:Nat.beq q q';·rfl
     ·exact absurd (List.mem_map.2 ⟨(r,q),hm,oD.1 hb⟩) hn.1
    rw[hne];exact CV hrow hl hn.2 hm
  ·cases h
def Mf{m:List (Nat×Nat)}(h:(m.map (·.2)).Nodup){r r' q:Nat}(h1:(r,q)∈m)(h2:(r',q)∈m):r=r':=by
 induction m with
 |nil=>cases h1
 |cons p m ih =>
  simp only[List.map_cons,List.nodup_cons]at h;rcases List.mem_cons.1 h1 with e|h1
  ·rcases List.mem_cons.1 h2 with e'|h2;·rw[<-e]at e';injection e' with e' _;exact e'.symm
   ·exact absurd (List.mem_map.2 ⟨_,h2,by rw[<-e]⟩) h.1
  ·rcases List.mem_cons.1 h2 with e'|h2;·exact absurd (List.mem_map.2 ⟨_,h1,by rw[<-e']⟩) h.1
   ·exact ih h.2 h1 h2
def Mg{m:List (Nat×Nat)}{r q:Nat}(h:(r,q)∈m)(hn:(m.map (·.1)).Nodup):aA m r=some q:=by
 induction m with
 |nil=>cases h
 |cons p m ih =>
  obtain⟨k,u⟩:=p;simp only[List.map_cons,List.nodup_cons]at hn;simp only[aA];rcases List.mem_cons.1 h with e|h;·injection e with e1 e2;subst e1 e2;rw[Nat.beq_refl];rfl
  ·cases hb:Nat.beq r k;·exact ih h hn.2
   ·exact absurd (List.mem_map.2 ⟨_,h,oD.1 hb⟩) hn.1
def yo(h:R w0 lab0 oo n V E a w){cl:ab}(hr:it cl V=some V'):∃E',R w0 lab0 oo n V' E' a w:=by
 unfold it at hr;split at hr
 ·rename_i σ1 h1;obtain⟨σ2,h1,h2⟩:=Option.bind_eq_some_iff.1 h1;obtain⟨E2,G2⟩:=CQ h h1;obtain⟨E1,G⟩:=CR G2 h2;split at hr
  ·rename_i m hm;cases hq:(dQ (m.map (·.1))&&dQ (m.map (·.2)))
   ·rw[hq]at hr;cases hr
   ·rw[hq]at hr;simp only[Bool.and_eq_true]at hq;simp only[cond_true]at hr;have n1:=jw hq.1;have n2:=jw hq.2;split at hr
    ·rename_i bx rw' hbx hrw;injection hr with hr;subst hr;refine G.ren (m:=m) (bs:=cl.boxes) (λt=>?_) (λb te cs hb=>?_) (λb te cs hm hb=>?_) (λq row' hq=>?_) (λr q row hl hrow=>?_) (λr r' q hl hl'=>?_)
     ·show gl _ t=_\/gl _ t=_;unfold gl;rcases CT (V:=σ1) (f:=gk m cl.boxes) t cl.slots with e|e;·rw[e];exact .inl rfl
      ·rw[e];exact .inr rfl
     ·exact(yn b hbx).1 te cs hb
     ·exact(yn b hbx).2 te cs hm hb
     ·obtain⟨r,row,k1,k2,k3⟩:=CU q hrw row' hq;exact⟨r,row,Mg k1 n1,k2,k3⟩
     ·exact CV hrow hrw n2 (fI hl)
     ·exact Mf n2 (fI hl) (fI hl')
    ·cases hr
  ·cases hr
 ·cases hr
end
inductive Ex where
 |nrm
 |exit (id:Nat)
 |ret
def Mh:Ex->Exit
 |.nrm=>.normal
 |.exit id=>.exit id
 |.ret=>.ret
inductive cV where
 |n
 |mk (join:Option ab) (lp:Option ab) (a b:cV)
def cV.fst:cV->cV
 |.n=>.n
 |.mk _ _ a _=>a
def cV.snd:cV->cV
 |.n=>.n
 |.mk _ _ _ b=>b
def cV.join:cV->Option ab
 |.n=>none
 |.mk j _ _ _=>j
def cV.lp:cV->Option ab
 |.n=>none
 |.mk _ l _ _=>l
def tE:Option ab->St->Option St
 |none,V=>some V
 |some cl,V=>it cl V
def tF(V:St)(l:fT):Bool:=match na V l with
 |some (.own r)=>match V.row r with
  |some row=>row.nilE||Nat.blt 0 row.xs.length
  |none=>true
 |_=>true
def yp(V:St)(l:fT):St:=match na V l with
 |some (.own r)=>match V.row r with
  |some row=>⟨V.slot,V.box,ao V.row r (some ⟨row.e,row.t,row.xs,row.deep,true⟩)⟩
  |none=>V
 |_=>V
def Mi:Option ab->List (fT×Nat)
 |none=>[]
 |some cl=>cl.rows
section
variable {J : Type}
def qN(F:St->Option J):List (fT×Nat)->St->Option J
 |[],V=>F V
 | (l,q)::ls,V=>cond (ym q) (cond (tF V l) (qN F ls (yp V l)) none) (qN F ls V)
abbrev az(j:Option ab)(K:Ex->St->Option J):Ex->St->Option J
 |.nrm,V=>(tE j V).bind (K .nrm)
 |.exit i,V=>K (.exit i) V
 |.ret,V=>K .ret V
abbrev cx(F:St->Option J)(K:Ex->St->Option J):Ex->St->Option J
 |.nrm,V=>F V
 |.exit i,V=>K (.exit i) V
 |.ret,V=>K .ret V
abbrev qO(id:Nat)(K:Ex->St->Option J):Ex->St->Option J
 |.nrm,V=>K .nrm V
 |.exit i,V=>cond (Nat.beq i id) (K .nrm V) (K (.exit i) V)
 |.ret,V=>K .ret V
def cb(f:St->(Ex->St->Option J)->Option J)(cl:ab):Nat->St->(Ex->St->Option J)->Option J
 |0,_,_=>none
 |N+1,V,K=>f V (az (some cl) (cx (λV''=>cb f cl N V'' K) K))
noncomputable def am(Γ:Gm)(T:bi)(B:Nat->Option ab)(N:Nat):Code->cV->St->(Ex->St->Option J)->Option J
 |.skip,_,V,K=>K .nrm V
 |.label _,_,V,K=>K .nrm V
 |.region _ ops draw,_,V,K=>yd Γ T N ops draw V (K .nrm)
 |.seq a b,pl,V,K=>am Γ T B N a pl.fst V (az pl.join (cx (λV'=>am Γ T B N b pl.snd V' K) K))
 |.cond c a b,pl,V,K=>match ev V c with
  |.c (.bool t)=>cond t (am Γ T B N a pl.fst V K) (am Γ T B N b pl.snd V K)
  |_=>none
 |.block id c,pl,V,K=>am Γ T B N c pl.fst V (az pl.join (qO id K))
 |.loop c,pl,V,K=>match pl.lp with
  |some cl=>match pl.join with
   |none=>(it cl V).bind λσ0=>cb (λV K=>am Γ T B N c pl.fst V K) cl N σ0 K
   |some cl1=>(it cl1 V).bind λσ0=>am Γ T B N c pl.snd σ0 (az (some cl) (cx (λV''=>cb (λV K=>am Γ T B N c pl.fst V K) cl N V'' K) K))
  |none=>none
 |.exit id,_,V,K=>(tE (B id) V).bind (K (.exit id))
 |.ret,_,V,K=>qN (λV=>(tE (B 1000000) V).bind (K .ret)) (Mi (B 1000000)) V
 |_,_,_,_=>none
end
def eZ(n:Nat):Code->Bool
 |.region _ ops _=>m8 n ops
 |.seq a b=>eZ n a&&eZ n b
 |.cond _ a b=>eZ n a&&eZ n b
 |.block _ c=>eZ n c
 |.loop c=>eZ n c
 |_=>true
section
variable {P : Program} {V V' : St} {E E' : aL} {w w' : World} {w0 : World} {lab0 : Nat → aC} {oo : Nat → Value} {n : Nat} {a : Act} {T : bi} {Γ : Gm} {J : Type} {B : Nat → Option ab} {N : Nat} [DC]
def yq{p:Nat->Prop}(h:∃n,p n):∃n,p n/\∀m,p m->n<=m:=by
 classical
 obtain⟨n,hn⟩:=h;induction n using Nat.strongRecOn with
 |_ n ih =>
  by_cases hex:∃m,m<n/\p m;·obtain⟨m,h1,h2⟩:=hex;exact ih m h1 h2
  ·exact⟨n,hn,λm hm=>Nat.le_of_not_lt λhlt=>hex ⟨m,hlt,hm⟩⟩
noncomputable def jG{p:Nat->Prop}(h:∃n,p n):Nat:=(yq h).choose
def Mj{p:Nat->Prop}(h:∃n,p n):p (jG h):=(yq h).choose_spec.1
def Mk{p:Nat->Prop}(h:∃n,p n){m:Nat}(hm:p m):jG h<=m:=(yq h).choose_spec.2 m hm
def yr(h:R w0 lab0 oo n V E a w){cl:Option ab}(hr:tE cl V=some V'):∃E',R w0 lab0 oo n V' E' a w:=by
 cases cl with
 |none =>injection hr with hr;subst hr;exact⟨E,h⟩
 |some cl=>exact yo h hr
def Ml(h:R w0 lab0 oo n V E a w){l:fT}(hc:tF V l=true):R w0 lab0 oo n (yp V l) E a w:=by
 have key:∀r row,V.row r=some row->(row.nilE||Nat.blt 0 row.xs.length)=true->R w0 lab0 oo n ⟨V.slot,V.box,ao V.row r (some ⟨row.e,row.t,row.xs,row.deep,true⟩)⟩ E a w:=by
  intro r row hrow' hc;have m:cJ V E w ⟨V.slot,V.box,ao V.row r (some ⟨row.e,row.t,row.xs,row.deep,true⟩)⟩ E w:=by
   refine⟨λr' row1 h1=>?_,λb te cs hb=>⟨te,cs,hb,rfl,rfl⟩,λ_ _ _ h1 h2=>⟨h1,h2⟩,λ_ _ _ _ h=>h⟩;by_cases e:r'=r;·subst e;rw[hrow']at h1;injection h1 with h1;subst h1;exact⟨_,aY _ _ _,rfl,rfl,Nat.le_refl _⟩
   ·exact⟨row1,(bh _ _ e).trans h1,rfl,rfl,Nat.le_refl _⟩
  refine⟨h.bound,h.size,h.defers,λt=>(h.slots t).move m,λb te cs hb=>?_,λr' row1 h1=>?_,h.same⟩;·obtain⟨arr,h1,h2,h3,h4⟩:=h.boxes b te cs hb;exact⟨arr,h1,h2,h3.imp λ_ _ h=>h.move m,h4⟩
  ·by_cases e:r'=r
   ·subst e;have h1':ao V.row r' (some ⟨row.e,row.t,row.xs,row.deep,true⟩) r'=some row1:=h1;rw[aY]at h1';injection h1' with h1';subst h1';obtain⟨css,k1,k2,k3,k4⟩:=h.rows r' row hrow';refine⟨css,k1,k2,k3,λ_ hl=>?_⟩;have hl':row.xs.length=0:=hl;cases hn:row.nilE;·rw[hn,hl']at hc;cases hc
    ·exact k4 hn hl'
   ·have h1':ao V.row r (some ⟨row.e,row.t,row.xs,row.deep,true⟩) r'=some row1:=h1;rw[bh _ _ e]at h1';exact h.rows r' row1 h1'
 unfold yp;split
 ·rename_i r hr;split;·rename_i row hrow;refine key r row hrow ?_;unfold tF at hc;rw[hr]at hc;simp only[hrow]at hc;exact hc
  ·exact h
 ·exact h
def yt{F:St->Option J}{r:J}:∀{ls:List (fT×Nat)}{V:St}{E:aL},R w0 lab0 oo n V E a w->qN F ls V=some r->∃V',R w0 lab0 oo n V' E a w/\F V'=some r
 |[],V,E,h,hr=>⟨V,h,hr⟩
 | (l,q)::ls,V,E,h,hr=>by
  simp only[qN]at hr;cases hq:ym q;·rw[hq]at hr;exact yt h hr
  ·rw[hq]at hr;cases hc:tF V l;·rw[hc]at hr;cases hr
   ·rw[hc]at hr;exact yt (Ml h hc) hr
def NP.then{Q:Exit->Act->World->Prop}(h:NP Q)(next:Act->World->Prop):NP (Exit.then next Q):=λc a a' w hq=>h c a a' w hq
def NP.block{Q:Exit->Act->World->Prop}(h:NP Q)(id:Nat):NP (Exit.inBlock id Q):=λc a a' w hq=>h c a a' w hq
def iu(w0:World)(lab0:Nat->aC)(oo:Nat->Value)(n:Nat)(K:Ex->St->Option J)(r:J)(Q:Exit->Act->World->Prop):Prop :=
 ∀e V' E' a' w',K e V'=some r->R w0 lab0 oo n V' E' a' w'->Q (Mh e) a' w'
def iu.join{K:Ex->St->Option J}{r:J}{Q:Exit->Act->World->Prop}(h:iu w0 lab0 oo n K r Q)(j:Option ab):iu w0 lab0 oo n (az j K) r Q:=by
 intro e V' E' a' w' hr hR;cases e with
 |nrm =>obtain⟨σ2,h1,h2⟩:=Option.bind_eq_some_iff.1 hr;obtain⟨E2,g⟩:=yr hR h1;exact h .nrm σ2 E2 a' w' h2 g
 |exit i=>exact h (.exit i) V' E' a' w' hr hR
 |ret=>exact h .ret V' E' a' w' hr hR
def iP(hT:a6 P T)(hΓ:m9 P w0 lab0 Γ)(hm:P.follows .mixedOrders=true):∀(c:Code) (pl:cV) {V:St}{E:aL}{a:Act}{w:World}{K:Ex->St->Option J}{r:J}{Q:Exit->Act->World->Prop},
  eZ n c=true->R w0 lab0 oo n V E a w->am Γ T B N c pl V K=some r->NP Q->iu w0 lab0 oo n K r Q->c.wp P Q a w
 |.skip,pl,V,E,a,w,K,r,Q,_,h,hr,_,hK=>wp_skip (hK .nrm V E a w hr h)
 |.label l,pl,V,E,a,w,K,r,Q,_,h,hr,_,hK=>wp_label (hK .nrm V E a w hr h)
 |.region id ops draw,pl,V,E,a,w,K,r,Q,hc,h,hr,hQ,hK=>Mc hT hΓ hm hc hQ (λV' E' a' w' hr' h'=>hK .nrm V' E' a' w' hr' h') h hr
 |.seq x y,pl,V,E,a,w,K,r,Q,hc,h,hr,hQ,hK=>by
  simp only[eZ,Bool.and_eq_true]at hc;refine wp_seq (iP hT hΓ hm x pl.fst hc.1 h hr (hQ.then _) (iu.join ?_ _));intro e V' E' a' w' hr' h';cases e with
  |nrm=>exact iP hT hΓ hm y pl.snd hc.2 h' hr' hQ hK
  |exit i=>exact hK (.exit i) V' E' a' w' hr' h'
  |ret=>exact hK .ret V' E' a' w' hr' h'
 |.cond c x y,pl,V,E,a,w,K,r,Q,hc,h,hr,hQ,hK=>by
  simp only[eZ,Bool.and_eq_true]at hc;simp only[am]at hr;split at hr
  ·rename_i t ht;have hv:=bj h c;rw[ht]at hv;cases t;·exact wp_cond_false hv (iP hT hΓ hm y pl.snd hc.2 h hr hQ hK)
   ·exact wp_cond_true hv (iP hT hΓ hm x pl.fst hc.1 h hr hQ hK)
  ·cases hr
 |.block id c,pl,V,E,a,w,K,r,Q,hc,h,hr,hQ,hK=>by
  refine wp_block (iP hT hΓ hm c pl.fst hc h hr (hQ.block id) (iu.join ?_ _));intro e V' E' a' w' hr' h';cases e with
  |nrm=>exact hK .nrm V' E' a' w' hr' h'
  |exit i =>
   show if i=id then Q .normal a' w' else Q (.exit i) a' w'
   simp only[qO]at hr';cases hb:Nat.beq i id;·rw[hb]at hr';rw[if_neg λe=>by subst e;rw[Nat.beq_refl]at hb;cases hb];exact hK (.exit i) V' E' a' w' hr' h'
   ·rw[hb]at hr';rw[if_pos (Nat.eq_of_beq_eq_true hb)];exact hK .nrm V' E' a' w' hr' h'
  |ret=>exact hK .ret V' E' a' w' hr' h'
 |.loop c,pl,V,E,a,w,K,r,Q,hc,h,hr,hQ,hK=>by
  simp only[am]at hr;split at hr
  ·rename_i cl hcl
   classical
   let F:Nat->St->Option J:=λM V=>cb (λV K=>am Γ T B N c pl.fst V K) cl M V K;let At:Nat->Act->World->Prop:=λM a w=>(∃V E,R w0 lab0 oo n V E a w/\F M V=some r) \/
    (M=N+1/\∃V E,R w0 lab0 oo n V E a w/\am Γ T B N c pl.snd V (az (some cl) (cx (F N) K))=some r)
   have hstart:∃M,At M a w:=by
    split at hr;·obtain⟨σ0,h1,h2⟩:=Option.bind_eq_some_iff.1 hr;obtain⟨E0,g⟩:=yo h h1;exact⟨N,.inl ⟨σ0,E0,g,h2⟩⟩
    ·obtain⟨σ0,h1,h2⟩:=Option.bind_eq_some_iff.1 hr;obtain⟨E0,g⟩:=yo h h1;exact⟨N+1,.inr ⟨rfl,σ0,E0,g,h2⟩⟩
   refine wp_loop (I:=λa w=>∃M,At M a w) (μ:=λa w=>if hex:∃M,At M a w then jG hex else 0) hstart ?_;intro a w hI;have hμ:(if hex:∃M,At M a w then jG hex else 0)=jG hI:=dif_pos hI;simp only[hμ];have next:∀M V' E' a' w',M<jG hI->F M V'=some r->R w0 lab0 oo n V' E' a' w'->(∃M,At M a' w')/\(if hex:∃M,At M a' w' then jG hex else 0)<jG hI:=by intro M V' E' a' w' hM hr' h';have hA:At M a' w':=.inl ⟨V',E',h',hr'⟩;refine⟨⟨M,hA⟩, ?_⟩;have hμ':(if hex:∃M,At M a' w' then jG hex else 0)=jG (⟨M,hA⟩:∃M,At M a' w'):=dif_pos ⟨M,hA⟩;rw[hμ'];have:=Mk (⟨M,hA⟩:∃M,At M a' w') hA;omega
   rcases Mj hI with⟨σ1,E1,g1,hr1⟩|⟨hM,σ1,E1,g1,hr1⟩
   ·generalize hM:jG hI=M at hr1 next
    cases M with
    |zero=>cases hr1
    |succ M =>
     simp only[F,cb]at hr1;refine iP hT hΓ hm c pl.fst hc g1 hr1 (hQ.then _) (iu.join ?_ _);intro e V' E' a' w' hr' h';cases e with
     |nrm=>exact next M V' E' a' w' (Nat.lt_succ_self M) hr' h'
     |exit i=>exact hK (.exit i) V' E' a' w' hr' h'
     |ret=>exact hK .ret V' E' a' w' hr' h'
   ·refine iP hT hΓ hm c pl.snd hc g1 hr1 (hQ.then _) (iu.join ?_ _);intro e V' E' a' w' hr' h';cases e with
    |nrm=>exact next N V' E' a' w' (by omega) hr' h'
    |exit i=>exact hK (.exit i) V' E' a' w' hr' h'
    |ret=>exact hK .ret V' E' a' w' hr' h'
  ·cases hr
 |.exit id,pl,V,E,a,w,K,r,Q,_,h,hr,_,hK=>by obtain⟨σ2,h1,h2⟩:=Option.bind_eq_some_iff.1 hr;obtain⟨E2,g⟩:=yr h h1;exact wp_exit (hK (.exit id) σ2 E2 a w h2 g)
 |.ret,pl,V,E,a,w,K,r,Q,_,h,hr,_,hK=>by obtain⟨σ1,h,hr⟩:=yt h hr;obtain⟨σ2,h1,h2⟩:=Option.bind_eq_some_iff.1 hr;obtain⟨E2,g⟩:=yr h h1;exact wp_ret (hK .ret σ2 E2 a w h2 g)
 |.rangeFunc _ _ _ _,_,_,_,_,_,_,_,_,_,_,hr,_,_=>by cases hr
 |.scope _,_,_,_,_,_,_,_,_,_,_,hr,_,_=>by cases hr
 |.goto _,_,_,_,_,_,_,_,_,_,_,hr,_,_=>by cases hr
 |.refuse _,_,_,_,_,_,_,_,_,_,_,hr,_,_=>by cases hr
end
def lB(agg:Bool)(cs:List ai):SV:=match agg,cs with
 |true,cs=>.agg cs
 |false,[c]=>.c c
 |false,_=>.c .undef
def gC:(ps:List PT)->au ps->Nat->List (Nat×SV)×List (Nat×ae)
 |[],_,_=>([],[])
 |⟨t,agg,io⟩::ps,X,i=>match io with
  |false=>((i,lB agg (d7 t X.1 none))::(gC ps X.2 (i+1)).1,(gC ps X.2 (i+1)).2)
  |true=>match aI (100000+i) t X.1 0 with
   | (cs,rows,_)=>((i,lB agg cs)::(100000+i,lB agg cs)::(gC ps X.2 (i+1)).1,rows)
def bA(ps:List PT)(X:au ps):St:=ah (gC ps X 0).1 [] (gC ps X 0).2
def jZ(T:bi)(V:St):List ResultVar->Option (List SV)
 |[]=>some []
 |.tmp t::rs=>match jZ T V rs with
  |some l=>some (ev V (.tmp t)::l)
  |none=>none
 |.cell x ty::rs=>match ev V (.tmp x),T ty,jZ T V rs with
  |.c c,some i,some l=>match qe V c i.agg i.zero.length with
   |some s=>some (s::l)
   |none=>none
  |_,_,_=>none
def oE(look:Nat->Option ae):(rs:List PT)->List SV->Option (au rs)
 |[],[]=>some ()
 |p::ps,s::ss=>match gN p.agg s with
  |some cs=>eA (dO look p.t cs) (oE look ps ss)
  |none=>none
 |[],_::_=>none
 |_::_,[]=>none
def iQ:List PT->List SV->List ai
 |p::ps,s::ss=>(match gN p.agg s with|some cs=>cs|none=>[])++iQ ps ss
 |_,_=>[]
def qP(V:St):(ps:List PT)->Nat->Option (dn ps)
 |[],_=>some ()
 |⟨t,agg,false⟩::ps,i=>qP V ps (i+1)
 |⟨t,agg,true⟩::ps,i=>match gN agg (V.slot (100000+i))with
  |some cs=>dO V.row t cs
  |none=>none
def ni(V:St):(ps:List PT)->Nat->List ai
 |[],_=>[]
 |⟨t,agg,false⟩::ps,i=>ni V ps (i+1)
 |⟨t,agg,true⟩::ps,i=>match gN agg (V.slot (100000+i))with
  |some cs=>cs
  |none=>[]
def qQ(look:Nat->Option ae):List ai->Bool
 |[.nil]=>true
 |[.own r]=>match look r with
  |some row=>row.nilE||Nat.blt 0 row.xs.length
  |none=>false
 |_=>false
def iR{α:Type}(look:Nat->Option ae):List PT->List SV->Option α->Option α
 |p::ps,s::ss,X=>cond p.io (match gN p.agg s with
  |some cs=>cond (qQ look cs) (iR look ps ss X) none
  |none=>none) (iR look ps ss X)
 |[],_,X=>X
 |_::_,[],X=>X
def yu(look:Nat->Option ae):List PT->List SV->Prop
 |p::ps,s::ss=>(p.io=true->∀cs,gN p.agg s=some cs->qQ look cs=true)/\yu look ps ss
 |[],_=>True
 |_::_,[]=>True
def qR{α:Type}{look:Nat->Option ae}{r:α}:∀{rs:List PT}{ss:List SV}{X:Option α},iR look rs ss X=some r->yu look rs ss/\X=some r
 |[],_,_,h=>⟨trivial,h⟩
 |_::_,[],_,h=>⟨trivial,h⟩
 |p::ps,s::ss,X,h=>by
  simp only[iR]at h;cases hio:p.io;·rw[hio]at h;obtain⟨h1,h2⟩:=qR (show iR look ps ss X=some r from h);exact⟨⟨(λhq=>by rw[hio]at hq;cases hq),h1⟩,h2⟩
  ·rw[hio]at h;simp only[cond_true]at h;split at h
   ·rename_i cs hcs;cases hq:qQ look cs;·rw[hq]at h;cases h
    rw[hq]at h;obtain⟨h1,h2⟩:=qR (show iR look ps ss X=some r from h);exact⟨⟨λ_ cs' hcs'=>by rw[hcs]at hcs';injection hcs' with hcs';subst hcs';exact hq,h1⟩,h2⟩
   ·cases h
def tG(T:bi)(sig:bc)(rv:List ResultVar)(V:St):Option (dn sig.ps×au sig.rs) :=
 match jZ T V rv with
 |some ss=>cond (dQ (aF (iQ sig.rs ss++ni V sig.ps 0))) (iR V.row sig.rs ss (eA (qP V sig.ps 0) (oE V.row sig.rs ss))) none
 |none=>none
def yv(T:bi)(sig:bc)(rv:List ResultVar):Ex->St->Option (dn sig.ps×au sig.rs)
 |.nrm,V=>tG T sig rv V
 |.ret,V=>tG T sig rv V
 |.exit _,_=>none
section
variable {P : Program} {V V' : St} {E E' : aL} {w w' : World} {w0 : World} {lab0 : Nat → aC} {oo : Nat → Value} {n : Nat} {a : Act} {T : bi} {Γ : Gm} {B : Nat → Option ab} {N : Nat} [DC]
def qS{agg:Bool}{cs:List ai}{us:List Value}{v:Value}(hc:gB agg v us)(h:aj (ak V E w) cs us):aJ V E w (lB agg cs) v:=by
 cases agg
 ·obtain rfl:us=[v]:=hc;cases cs with
  |nil=>exact True.intro
  |cons c cs=>cases cs with
   |nil=>exact h.1
   |cons _ _=>exact True.intro
 ·obtain⟨arr,rfl,rfl⟩:=hc;exact⟨arr,rfl,h⟩
def qT{α:Type}:∀{l l':List (Nat×α)}{t:Nat},aA (l++l') t=match aA l t with|some v=>some v|none=>aA l' t
 |[],_,_=>rfl
 | (k,v)::l,l',t=>by
  simp only[List.cons_append,aA];cases Nat.beq t k;·exact qT
  ·rfl
def yw(d:Nat)(t:Ty):∀(y:t.den) (j:Nat),∀p∈(aI d t y j).2.1,aA (aI d t y j).2.1 p.1=some p.2:=by
 induction t with
 |int k=>intro y j p hp;simp[aI]at hp
 |bool=>intro y j p hp;simp[aI]at hp
 |fnc g=>intro y j p hp;simp[aI]at hp
 |str=>intro y j p hp;simp[aI]at hp
 |err=>intro y j p hp;simp[aI]at hp
 |sl e t _ =>intro y j p hp;simp only[aI,List.mem_singleton]at hp;subst hp;simp[aI,aA]
 |pair t1 t2 ih1 ih2 =>
  intro y j p hp;simp only[aI,List.mem_append]at hp ⊢;rw[qT];rcases hp with hp|hp;·rw[ih1 _ _ p hp]
  ·cases hl:aA (aI d t1 y.1 j).2.1 p.1 with
   |none=>exact ih2 _ _ p hp
   |some v =>have h1:=(ij d).2 _ (fI hl);have h2:=(ij d).2 p hp;obtain⟨i1,_,a1,b1⟩:=h1;obtain⟨i2,a2,_,b2⟩:=h2;have:=mT (b1.symm.trans b2);exact absurd (Nat.lt_of_lt_of_le a1 a2) (by rw[this];exact Nat.lt_irrefl _)
def Mm{L:List Nat}:∀{ps:List PT}{vs:List Value}{X:au ps}{i:Nat},d9 w L ps vs X->(cg ps=true->L=[])->dW ps=true->L.Nodup ->
  ∃(f:Nat->aC) (rvf:Nat->Value),(∀k∈L,f k≠.st) /\
   ∀(V:St) (E:aL),(∀k,k∈L->E.lab k=f k)->(∀k,k∉L->E.lab k=.st)->E.rv=rvf->(∀r row,aA (gC ps X i).2 r=some row->V.row r=some row) ->
    (∀p∈(gC ps X i).1,∃j v,vs[j]? = some v/\(p.1=i+j\/p.1=100000+(i+j))/\aJ V E w p.2 v) /\
    (∀r row,aA (gC ps X i).2 r=some row->bZ w E.lab r row (E.rv r)):=by
 intro ps;have ro:∀{p:PT}{v:Value}{x:p.t.den}{V:St}{E:aL},(∃cs,gB p.agg v cs/\Rd w (λk=>k∉L) p.t cs x)->(∀k,k∉L->E.lab k=.st)->aJ V E w (lB p.agg (d7 p.t x none)) v:=by
  rintro p v x V E ⟨cs,h1,h2⟩ hl
  exact qS h1 (mD (p:=none) (h2.mono λk hk=>hl k hk))
 have ros:∀{ps:List PT}{vs:List Value}{X:au ps}{i:Nat},cg ps=true->d9 w L ps vs X->(gC ps X i).2=[]/\∀(V:St) (E:aL),(∀k,k∉L->E.lab k=.st)->∀p∈(gC ps X i).1,∃j v,vs[j]? = some v/\(p.1=i+j\/p.1=100000+(i+j))/\aJ V E w p.2 v:=by
  intro ps;induction ps with
  |nil=>intro vs X i _ _;exact⟨rfl,λV E _ p hp=>by simp[gC]at hp⟩
  |cons p ps ih =>
   intro vs X i hn ha;cases vs with
   |nil=>exact ha.elim
   |cons v vs =>
    obtain⟨t,agg,io⟩:=p;simp only[cg,List.all_cons,Bool.and_eq_true,Bool.not_eq_true']at hn;obtain⟨hio,hn⟩:=hn;subst hio;obtain⟨h1,h2⟩:=ha;obtain⟨g1,g2⟩:=ih (i:=i+1) hn h2;refine⟨g1,λV E hl p hp=>?_⟩;rcases List.mem_cons.1 hp with rfl|hp;·exact⟨0,v,rfl,.inl rfl,ro (p:=⟨t,agg,false⟩) h1 hl⟩
    ·obtain⟨j,v',k1,k2,k3⟩:=g2 V E hl p hp;exact⟨j+1,v',(by simpa using k1),k2.elim (λe=>.inl (by omega)) (λe=>.inr (by omega)),k3⟩
 induction ps with
 |nil =>intro vs X i ha hn ho hL;have hL0:=hn rfl;subst hL0;refine⟨λ_=>.dead,λ_=>undef,(λk hk=>by cases hk),λV E _ _ _ _=>⟨λp hp=>by simp[gC]at hp,λr row hr=>by simp[gC,aA]at hr⟩⟩
 |cons p ps ih =>
  intro vs X i ha hn ho hL;cases vs with
  |nil=>exact ha.elim
  |cons v vs =>
   obtain⟨t,agg,io⟩:=p;obtain⟨h1,h2⟩:=ha;cases io
   ·obtain⟨f,rvf,k1,k2⟩:=ih (i:=i+1) h2 (λhq=>hn (by simpa[cg]using hq)) ho hL;refine⟨f,rvf,k1,λV E e1 e2 e3 e4=>?_⟩;obtain⟨g1,g2⟩:=k2 V E e1 e2 e3 e4;refine⟨λp hp=>?_,g2⟩;rcases List.mem_cons.1 hp with rfl|hp;·exact⟨0,v,rfl,.inl rfl,ro (p:=⟨t,agg,false⟩) h1 e2⟩
    ·obtain⟨j,v',k1,k2,k3⟩:=g1 p hp;exact⟨j+1,v',(by simpa using k1),k2.elim (λe=>.inl (by omega)) (λe=>.inr (by omega)),k3⟩
   ·obtain⟨cs,hcv,hown⟩:=h1;have hown:aB w t L cs X.1:=hown;obtain⟨f,rvf,k1,k2⟩:=mU (100000+i) (j:=0) hown hL;obtain⟨r1,r2⟩:=ros (i:=i+1) ho h2;have hrows:(gC (⟨t,agg,true⟩::ps) X i).2=(aI (100000+i) t X.1 0).2.1:=rfl;refine⟨f,rvf,λk hk=>?_,λV E e1 e2 e3 e4=>?_⟩;·obtain⟨i',_,_,hf⟩:=k1 k hk;rcases hf with hf|hf<;>rw[hf]<;>simp
    ·rw[hrows]at e4;have hmem:∀p∈(aI (100000+i) t X.1 0).2.1,aA (aI (100000+i) t X.1 0).2.1 p.1=some p.2:=yw _ _ _ _;obtain⟨g1,g2⟩:=k2 V E e1 (λp hp=>by rw[e3]) (λp hp=>e4 _ _ (hmem p hp));refine⟨λp hp=>?_,λr row hr=>?_⟩
     ·rcases List.mem_cons.1 hp with rfl|hp;·exact⟨0,v,rfl,.inl rfl,qS hcv g1⟩
      rcases List.mem_cons.1 hp with rfl|hp;·exact⟨0,v,rfl,.inr rfl,qS hcv g1⟩
      ·obtain⟨j,v',k1,k2,k3⟩:=r2 V E e2 p hp;exact⟨j+1,v',(by simpa using k1),k2.elim (λe=>.inl (by omega)) (λe=>.inr (by omega)),k3⟩
     ·rw[hrows]at hr;exact g2 (r,row) (fI hr)
def yx{sl:List (Nat×SV)}{σ0:St}{v:Value}{t:Nat}(h:∀p∈sl,p.1=t->aJ σ0 E w p.2 v):aJ σ0 E w (gl sl t) v:=by
 unfold gl;split;·rename_i s hs;exact h _ (fI hs) rfl
 ·exact(show ak σ0 E w .undef v from True.intro)
def kG(ts:Array Value):ResultVar->Sem Value
 |.tmp t=>pure (ts.getD t undef)
 |.cell x t=>do loadVar t (<-asAddr (ts.getD x undef))
def Mn(fn:Func)(ts:Array Value):results fn ts=(do let vs <-fn.results.mapM (kG ts);pure (if h:vs.size=1 then vs[0]else .tuple vs)):=by
 unfold results;have:(λx:ResultVar=>match x with
  |.tmp t=>pure (ts.getD t undef)
  |.cell x t=>do loadVar t (<-asAddr (ts.getD x undef)))=kG ts:=by
  funext x;cases x<;>rfl
 rw[<-this];rfl
def qU(hT:a6 P T)(h:R w0 lab0 oo n V E a w):∀{rv:List ResultVar}{ss:List SV},jZ T V rv=some ss ->
  ∃vs:List Value,aj (aJ V E w) ss vs/\(rv.mapM (kG a.tmps)).run P w=.ok vs w:=by
 intro rv;induction rv with
 |nil =>intro ss hr;injection hr with hr;subst hr;exact⟨[],trivial,by simp⟩
 |cons r rv ih =>
  intro ss hr;cases r with
  |tmp t =>
   simp only[jZ]at hr;split at hr;·rename_i l hl;injection hr with hr;subst hr;obtain⟨vs,h1,h3⟩:=ih hl;refine⟨a.eval (.tmp t)::vs,⟨bj h (.tmp t),h1⟩, ?_⟩;have h0:(kG a.tmps (.tmp t)).run P w=.ok (a.eval (.tmp t)) w:=rfl;rw[List.mapM_cons,Sem.run_bind,h0];show((do let bs <-rv.mapM (kG a.tmps);pure (a.eval (.tmp t)::bs)):Sem (List Value)).run P w=_;rw[Sem.run_bind,h3];rfl
   ·cases hr
  |cell x ty =>
   simp only[jZ]at hr;split at hr
   ·rename_i c i l hc hi hl;split at hr
    ·rename_i s hs;injection hr with hr;subst hr;obtain⟨vs,h1,h3⟩:=ih hl;have hx:=bj h (.tmp x);rw[hc]at hx;obtain⟨v,g1,g2⟩:=wB hT h hi hs hx;have g1:=g1 w (bT.refl w);have hx2:a.eval (.tmp x)=a.tmps.getD x undef:=rfl;rw[hx2]at g1;refine⟨v::vs,⟨g2,h1⟩, ?_⟩;have h0:(kG a.tmps (.cell x ty)).run P w=.ok v w:=by
      have ha:∃ad,a.tmps.getD x undef=.pointer (some ad):=by
       obtain⟨cs,hl',_⟩:∃cs,lf V c i.zero.length=some cs/\True:=by
        unfold qe at hs;split at hs;·rename_i cs hcs;exact⟨cs,hcs,trivial⟩
        ·cases hs
       obtain⟨ad,vs',f,e,_⟩:=wA h hl' (show ak V E w c (a.tmps.getD x undef)from hx);exact⟨_,e⟩
      obtain⟨ad,ha⟩:=ha;show((do loadVar ty (<-asAddr (a.tmps.getD x undef)):Sem Value)).run P w=_;rw[ha]at g1 ⊢;exact g1
     rw[List.mapM_cons,Sem.run_bind,h0];show((do let bs <-rv.mapM (kG a.tmps);pure (v::bs)):Sem (List Value)).run P w=_;rw[Sem.run_bind,h3];rfl
    ·cases hr
   ·cases hr
def qV{fn:Func}{vs:List Value}(h:(fn.results.toList.mapM (kG a.tmps)).run P w=.ok vs w):∃v,(results fn a.tmps).run P w=.ok v w/\mQ vs v:=by
 have h2:(fn.results.mapM (kG a.tmps)).run P w=.ok vs.toArray w:=by rw[show fn.results=fn.results.toList.toArray from by simp,List.mapM_toArray];simp[h]
 rw[Mn,Sem.run_bind,h2];match vs with
 |[]=>exact⟨.tuple #[],by simp,rfl⟩
 |[u]=>exact⟨u,by simp,rfl⟩
 |u::u'::vs=>exact⟨.tuple (u::u'::vs).toArray,by simp,rfl⟩
def Mo(h:R w0 lab0 oo n V E a w){io:Bool}{t:Ty}{cs:List ai}{us:List Value}{y:t.den}(hz:io=true->qQ V.row cs=true)(hp:dO V.row t cs=some y)(hc:aj (ak V E w) cs us):xk io t us y:=by
 cases t with
 |sl e t =>
  intro hio hl;have hz:=hz hio;rcases wG (show ju V.row e t cs=some y from hp)with⟨rfl,rfl⟩|⟨r,row,rfl,hr,rfl,hd,rfl,rfl⟩;·obtain⟨u,rfl,hu⟩:=cp hc;obtain rfl:u=_:=hu;rfl
  ·obtain⟨u,rfl,hu⟩:=cp hc;obtain⟨rfl,_⟩:=hu;obtain⟨css,_,_,_,h4⟩:=h.rows r row hr;have hl:row.xs.length=0:=hl;simp only[qQ,hr,hl]at hz;rw[h4 (by simpa using hz) hl]
 |int k=>trivial
 |bool=>trivial
 |str=>trivial
 |err=>trivial
 |fnc g=>trivial
 |pair a b=>trivial
def tH(h:R w0 lab0 oo n V E a w):∀{rs:List PT}{ss:List SV}{vs:List Value}{Y:au rs},oE V.row rs ss=some Y->yu V.row rs ss->aj (aJ V E w) ss vs->(aF (iQ rs ss)).Nodup ->
  ∃Lr,mP w rs vs Y Lr/\Lr.Nodup/\∀k∈Lr,∃q∈aF (iQ rs ss),dS E.lab q k
 |[],[],[],Y,_,_,_,_=>⟨[],rfl,List.nodup_nil,λk hk=>by cases hk⟩
 |p::ps,s::ss,v::vs,Y,hp,hz,hs,hn=>by
  simp only[oE]at hp;split at hp
  ·rename_i cs hcs;obtain⟨h1,h2⟩:=eB hp;obtain⟨us,k1,k2⟩:=mW hcs hs.1;have hcells:iQ (p::ps) (s::ss)=cs++iQ ps ss:=by simp[iQ,hcs]
   rw[hcells,ie]at hn ⊢;obtain⟨n1,n2,n3⟩:=List.nodup_append.1 hn;obtain⟨L1,o1,o2,o3⟩:=ii h h1 k2 n1;obtain⟨L2,g1,g2,g3⟩:=tH h h2 hz.2 hs.2 n2;refine⟨L1++L2,⟨us,L1,L2,rfl,k1,o1,Mo h (λhio=>hz.1 hio cs hcs) h1 k2,g1⟩,List.nodup_append.2 ⟨o2,g2,λx hx y hy e=>?_⟩,λk hk=>?_⟩;·subst e;obtain⟨q,q1,q2⟩:=o3 x hx;obtain⟨q',q1',q2'⟩:=g3 x hy;exact n3 q q1 q' q1' (kA q2 q2')
   ·rcases List.mem_append.1 hk with hk|hk;·obtain⟨q,q1,q2⟩:=o3 k hk;exact⟨q,List.mem_append_left _ q1,q2⟩
    ·obtain⟨q,q1,q2⟩:=g3 k hk;exact⟨q,List.mem_append_right _ q1,q2⟩
  ·cases hp
 |[],[],_::_,_,_,_,hs,_=>hs.elim
 |[],_::_,_,_,hp,_,_,_=>by cases hp
 |_::_,[],_,_,hp,_,_,_=>by cases hp
 |_::_,_::_,[],_,_,_,hs,_=>hs.elim
def yy(h:R w0 lab0 oo n V E a w):∀{ps:List PT}{i:Nat}{vs:List Value}{y:dn ps},qP V ps i=some y->vs.length=ps.length->(∀j v,vs[j]? = some v->oo (100000+(i+j))=v)->(aF (ni V ps i)).Nodup ->
  ∃L',ll w L' ps vs y/\L'.Nodup/\∀k∈L',∃q∈aF (ni V ps i),dS E.lab q k
 |[],i,vs,y,_,_,_,_=>⟨[],rfl,List.nodup_nil,λk hk=>by cases hk⟩
 |⟨t,agg,false⟩::ps,i,v::vs,y,hr,hl,hv,hn=>by obtain⟨L',g1,g2,g3⟩:=yy h (ps:=ps) (i:=i+1) (vs:=vs) (y:=y) hr (by simpa using hl) (λj v' hj=>by have:=hv (j+1) v' (by simpa using hj);rwa [show i+1+j=i+(j+1)from by omega]) hn;exact⟨L',g1,g2,g3⟩
 |⟨t,agg,true⟩::ps,i,v::vs,y,hr,hl,hv,hn=>by
  simp only[qP]at hr;simp only[ni]at hn ⊢;split at hr
  ·rename_i cs hcs;rw[hcs]at hn;simp only at hn ⊢;have hs:=h.slots (100000+i);have hval:dx oo a (100000+i)=v:=by unfold dx;rw[if_neg (by omega)];exact hv 0 v rfl
   rw[hval]at hs;obtain⟨us,k1,k2⟩:=mW hcs hs;obtain⟨L,o1,o2,o3⟩:=ii h hr k2 hn;exact⟨L,⟨us,k1,o1⟩,o2,o3⟩
  ·cases hr
 |_::_,_,[],_,_,hl,_,_=>by simp at hl
def d9.len{L:List Nat}:∀{ps:List PT}{vs:List Value}{X:au ps},d9 w L ps vs X->vs.length=ps.length
 |[],[],_,_=>rfl
 |p::ps,v::vs,X,h=>by simp[d9.len h.2]
 |[],_::_,_,h=>h.elim
 |_::_,[],_,h=>h.elim
def Ty.bd:(t:Ty)->t.den->Prop
 |.sl _ t,xs=>xs.length<=maxLen/\∀x∈xs,t.bd x
 |.pair a b,x=>a.bd x.1/\b.bd x.2
 |.int _,_=>True
 |.bool,_=>True
 |.str,_=>True
 |.err,_=>True
 |.fnc _,_=>True
def CW{α β:Type}{Q:α->β->Prop}{p:β->Prop}(hp:∀a b,Q a b->p b):∀{as:List α}{bs:List β},aj Q as bs->∀b∈bs,p b
 |[],[],_,_,hb=>by cases hb
 |_::_,_::_,h,b,hb=>by
  rcases List.mem_cons.1 hb with rfl|hb;·exact hp _ _ h.1
  ·exact CW hp h.2 b hb
 |[],_::_,h,_,_=>h.elim
 |_::_,[],h,_,_=>h.elim
def Rd.bd{S:Nat->Prop}:∀{t:Ty}{cs:List Value}{x:t.den},Rd w S t cs x->t.bd x
 |.int _,_,_,_=>trivial
 |.bool,_,_,_=>trivial
 |.str,_,_,_=>trivial
 |.err,_,_,_=>trivial
 |.fnc _,_,_,_=>trivial
 |.pair a b,_,_,h=>by obtain⟨c1,c2,_,h1,h2⟩:=h;exact⟨h1.bd,h2.bd⟩
 |.sl e t,_,xs,h=>by
  obtain⟨A,n,c,_,h1,h2,h3,h4⟩:=h;refine⟨by omega,λx hx=>?_⟩;rcases h4 with rfl|⟨ad,css,_,_,h5,_⟩;·rw[List.eq_nil_of_length_eq_zero h1]at hx;cases hx
  ·exact CW (p:=λx=>t.bd x) (λ_ _ hr=>hr.bd) h5 x hx
def aB.bd:∀{t:Ty}{L:List Nat}{cs:List Value}{x:t.den},aB w t L cs x->t.bd x:=λh=>(h.rd (S:=λ_=>True) λ_ _=>trivial).bd
def gR:(ps:List PT)->au ps->Prop
 |[],_=>True
 |p::ps,X=>p.t.bd X.1/\gR ps X.2
def d9.bd{L:List Nat}:∀{ps:List PT}{vs:List Value}{X:au ps},d9 w L ps vs X->gR ps X
 |[],[],_,_=>trivial
 |p::ps,v::vs,X,h=>by
  refine⟨?_,h.2.bd⟩;obtain⟨cs,_,h1⟩:=h.1;cases hio:p.io;·rw[hio]at h1;exact Rd.bd h1
  ·rw[hio]at h1;exact aB.bd h1
 |[],_::_,_,h=>h.elim
 |_::_,[],_,h=>h.elim
theorem Mq [Inv P] {f : Nat} {fn : Func} {c : Code} {sig : bc} {pre : Option (au sig.ps → Bool)} {val : au sig.ps → dn sig.ps × au sig.rs} {pl : cV} {je : Option ab} (hf : P.funcs[f]? = some fn) (hb : fn.body = some c) (hname : (fn.name == "runtime.NumGoroutine") = false)
  (hm:P.follows .mixedOrders=true) (hT:a6 P T) (hΓ:av P Γ) (hc:eZ fn.ntmps c=true) (hn:Nat.ble sig.ps.length fn.ntmps=true) (hn2:Nat.ble fn.ntmps 100000=true) (hone:dW sig.ps=true)
  (hG:∀X,gR sig.ps X->ci pre X=true->∃N,am Γ T B N c pl (bA sig.ps X) (az je (yv T sig fn.results.toList))=some (val X)):ay P f ⟨sig,pre,val⟩:=by
 intro w args L X y Y ha hno hL hlt hg hI hBL;have hg:cond (ci pre X) (some (val X)) none=some (y,Y):=hg;obtain⟨N,hr⟩:∃N,am Γ T B N c pl (bA sig.ps X) (az je (yv T sig fn.results.toList))=some (y,Y):=by
  cases hp:ci pre X;·rw[hp]at hg;cases hg
  ·rw[hp]at hg;rw[<-hg];exact hG X ha.bd hp
 have hn:=Nat.le_of_ble_eq_true hn;have hn2:=Nat.le_of_ble_eq_true hn2;have hlen:args.size=sig.ps.length:=by have:=d9.len ha;simpa using this
 refine .inl ⟨?_, ?_⟩
 ·have h1 : ¬ fn.name = "runtime.NumGoroutine" := by simpa using hname
  have h2:¬ fn.body=none:=by rw[hb];simp
  simp[callFunc,hf,h1,h2]
 obtain⟨f0,rvf,k1,k2⟩:=Mm (i:=0) ha hno hone hL
 classical
 let lab0:Nat->aC:=λk=>if k∈L then f0 k else .st
 let E:aL:=⟨lab0,rvf,λ_=>0⟩;let oo:Nat->Value:=λt=>args.getD (t-100000) undef;have hlab1:∀k,k∈L->E.lab k=f0 k:=λk hk=>if_pos hk;have hlab2:∀k,k∉L->E.lab k=.st:=λk hk=>if_neg hk;obtain⟨g1,g2⟩:=k2 (bA sig.ps X) E hlab1 hlab2 rfl (λr row h=>h);have hsz:(args++Array.replicate (fn.ntmps-args.size) undef).size=fn.ntmps:=by rw[Array.size_append,Array.size_replicate];omega
 have hR:R w lab0 oo fn.ntmps (bA sig.ps X) E { tmps:=args++Array.replicate (fn.ntmps-args.size) undef,defers:=[] } w:=by
  refine⟨hn2,hsz,rfl,λt=>?_,λb te cs hb=>?_,λr row hr=>g2 r row hr,⟨rfl,⟨rfl,λ_=>Nat.le_refl _⟩,rfl,Nat.le_refl _,λk hk hl=>⟨hl,rfl⟩,λk hk hl=>⟨hl,rfl⟩⟩⟩
  ·show aJ _ E w (gl (gC sig.ps X 0).1 t) _;refine yx λp hp e=>?_;obtain⟨j,v,j1,j2,j3⟩:=g1 p hp;have hj:j<args.size:=by have:=(List.getElem?_eq_some_iff.1 j1).1;simpa using this
   have hval:dx oo { tmps:=args++Array.replicate (fn.ntmps-args.size) undef,defers:=[] } t=v:=by
    subst e;unfold dx;rcases j2 with j2|j2
    ·rw[if_pos (by omega),j2];simp only[Nat.zero_add,Array.getD_eq_getD_getElem?];rw[Array.getElem?_append_left hj];have:args[j]? = some v:=by simpa using j1
     rw[this];rfl
    ·rw[if_neg (by omega),j2];show args.getD (100000+(0+j)-100000) undef=v;rw[show 100000+(0+j)-100000=j from by omega,Array.getD_eq_getD_getElem?];have:args[j]? = some v:=by simpa using j1
     rw[this];rfl
   rw[hval];exact j3
  ·cases hb
 have hend:∀V' E' a' w',tG T sig fn.results.toList V'=some (y,Y)->R w lab0 oo fn.ntmps V' E' a' w'->a'.defers=[]/\∃v,(results fn a'.tmps).run P w'=.ok v w' /\
   ∃vs L' Lr,Ending.returned v=Ending.returned v/\od w sig args.toList L y Y v w' vs L' Lr:=by
  intro V' E' a' w' hfin h';refine⟨h'.defers, ?_⟩;unfold tG at hfin;split at hfin
  ·rename_i ss hss;cases hq:dQ (aF (iQ sig.rs ss++ni V' sig.ps 0));·rw[hq]at hfin;cases hfin
   rw[hq]at hfin;obtain⟨hz,hfin⟩:=qR (show iR V'.row sig.rs ss _=some (y,Y)from hfin);obtain⟨p1,p2⟩:=eB (z:=(y,Y)) hfin;have hnd:=jw hq;rw[ie]at hnd;obtain⟨n1,n2,n3⟩:=List.nodup_append.1 hnd;obtain⟨vs,v1,v2⟩:=qU hT h' hss;obtain⟨v,r1,r2⟩:=qV v2;obtain⟨Lr,l1,l2,l3⟩:=tH h' p2 hz v1 n1;obtain⟨L',m1,m2,m3⟩:=yy h' (vs:=args.toList) p1 (d9.len ha) (λj u hu=>by
    show args.getD (100000+(0+j)-100000) undef=u;rw[show 100000+(0+j)-100000=j from by omega,Array.getD_eq_getD_getElem?];have:args[j]? = some u:=by simpa using hu
    rw[this];rfl) n2
   have hold:∀k q,dS E'.lab q k->k∈L\/w.heap.size<=k:=by
    intro k q hk;by_cases h1:k∈L;·exact .inl h1
    ·refine .inr (Nat.le_of_not_lt λhlt=>?_);have:=(h'.same.old k hlt (hlab2 k h1)).1;rcases hk with hk|hk<;>rw[this]at hk<;>cases hk
   refine⟨v,r1,vs,L',Lr,rfl,r2,l1,m1,List.nodup_append.2 ⟨l2,m2,λx hx z hz e=>?_⟩,λk hk=>?_,λk hk=>?_,h'.same.os,h'.same.tape,h'.same.output,h'.same.size,λk hk hkL=>(h'.same.old k hk (hlab2 k hkL)).2⟩;·subst e;obtain⟨q,q1,q2⟩:=l3 x hx;obtain⟨q',q1',q2'⟩:=m3 x hz;exact n3 q q1 q' q1' (kA q2 q2')
   ·obtain⟨q,q1,q2⟩:=l3 k hk;exact hold k q q2
   ·obtain⟨q,q1,q2⟩:=m3 k hk;exact hold k q q2
  ·cases hfin
 refine calls_of_wp hf hb (iP hT (hΓ.at hI λk hk=>hlab2 k λhl=>hBL k hl hk) hm c pl hc hR hr ?_ (iu.join ?_ _));·intro ch a a' w' hq;obtain⟨_,v,vs,L',Lr,he,_⟩:=hq;cases he
 ·intro e V' E' a' w' hr' h';cases e with
  |nrm =>obtain⟨d1,v,d2,vs,L',Lr,d3,d4⟩:=hend V' E' a' w' hr' h';exact⟨d1,v,d2,v,vs,L',Lr,rfl,d4⟩
  |ret =>obtain⟨d1,v,d2,vs,L',Lr,d3,d4⟩:=hend V' E' a' w' hr' h';exact⟨d1,v,d2,v,vs,L',Lr,rfl,d4⟩
  |exit i=>cases hr'
end
def b7:(ps:List PT)->au ps->Nat->Nat->List (Nat×SV)×List (Nat×ae)
 |[],_,_,_=>([],[])
 |⟨t,agg,false⟩::ps,X,i,j=>((i,lB agg (d7 t X.1 none))::(b7 ps X.2 (i+1) j).1,(b7 ps X.2 (i+1) j).2)
 |⟨t,agg,true⟩::ps,X,i,j=>match aI 100000 t X.1 j with
  | (cs,rows,j1)=>((i,lB agg cs)::(b7 ps X.2 (i+1) j1).1,rows++(b7 ps X.2 (i+1) j1).2)
def tJ(V:St):Rf->Option (List ai)
 |none=>some []
 |some p=>match V.box 100000 with
  |some (te,cs)=>cond (Nat.beq te p.1) (some cs) none
  |none=>none
def oF(V:St):Rf->Bool
 |none=>true
 |some _=>match V.slot 100000 with
  |.c (.box 100000 0)=>true
  |_=>false
section
variable {P : Program} {V V' : St} {E E' : aL} {w w' : World} {w0 : World} {lab0 : Nat → aC} {oo : Nat → Value} {n : Nat} {a : Act} {T : bi} {Γ : Gm} {B : Nat → Option ab} {N : Nat} [DC]
def dT.len{S:Nat->Prop}:∀{ps:List PT}{vs:List Value}{X:au ps}{L:List Nat},dT w S ps vs X L->vs.length=ps.length
 |[],[],_,_,_=>rfl
 |p::ps,v::vs,X,L,h=>by obtain⟨_,_,_,_,_,_,h⟩:=h;simp[dT.len h]
 |[],_::_,_,_,h=>h.elim
 |_::_,[],_,_,h=>h.elim
def dT.bd{S:Nat->Prop}:∀{ps:List PT}{vs:List Value}{X:au ps}{L:List Nat},dT w S ps vs X L->gR ps X
 |[],[],_,_,_=>trivial
 |p::ps,v::vs,X,L,h=>by
  obtain⟨cs,L1,L2,_,_,h1,h2⟩:=h;refine⟨?_,h2.bd⟩;cases hio:p.io;·rw[hio]at h1;exact Rd.bd h1.2
  ·rw[hio]at h1;exact aB.bd h1
 |[],_::_,_,_,h=>h.elim
 |_::_,[],_,_,h=>h.elim
def yA{ps:List PT}:∀{X:au ps}{i j:Nat},∀p∈(b7 ps X i j).2,∃q,j<=q/\p.1=aW 100000 q:=by
 induction ps with
 |nil=>intro X i j p hp;simp[b7]at hp
 |cons p0 ps ih =>
  intro X i j p hp;obtain⟨t,agg,io⟩:=p0;cases io;·exact ih (X:=X.2) p hp
  ·simp only[b7,List.mem_append]at hp;rcases hp with hp|hp;·obtain⟨q,q1,_,q2⟩:=(ij 100000).2 p hp;exact⟨q,q1,q2⟩
   ·obtain⟨q,q1,q2⟩:=ih (X:=X.2) p hp;exact⟨q,Nat.le_trans (ij 100000).1 q1,q2⟩
def CY{l1 l2:List (Nat×ae)}{j1:Nat}(h1:∀p∈l1,aA l1 p.1=some p.2)(h2:∀p∈l2,aA l2 p.1=some p.2)(m1:∀p∈l1,∃q,q<j1/\p.1=aW 100000 q)(m2:∀p∈l2,∃q,j1<=q/\p.1=aW 100000 q):∀p∈l1++l2,aA (l1++l2) p.1=some p.2:=by
 intro p hp;rw[qT];rcases List.mem_append.1 hp with hp|hp;·rw[h1 p hp]
 ·cases hl:aA l1 p.1 with
  |none=>exact h2 p hp
  |some v =>obtain⟨q,q1,q2⟩:=m1 _ (fI hl);obtain⟨q',q3,q4⟩:=m2 p hp;have:=mT (q2.symm.trans q4);omega
def yB{t:Ty}{y:t.den}{j:Nat}:∀p∈(aI 100000 t y j).2.1,∃q,q<(aI 100000 t y j).2.2/\p.1=aW 100000 q:=λp hp=>by obtain⟨q,_,q1,q2⟩:=(ij 100000).2 p hp;exact⟨q,q1,q2⟩
def yC{ps:List PT}:∀{X:au ps}{i j:Nat},∀p∈(b7 ps X i j).2,aA (b7 ps X i j).2 p.1=some p.2:=by
 induction ps with
 |nil=>intro X i j p hp;simp[b7]at hp
 |cons p0 ps ih =>
  intro X i j;obtain⟨t,agg,io⟩:=p0;cases io;·exact ih (X:=X.2)
  ·exact CY (yw 100000 t X.1 j) (ih (X:=X.2)) yB yA
def qW{S:Nat->Prop}:∀{ps:List PT}{vs:List Value}{X:au ps}{L:List Nat}{i j:Nat},dT w S ps vs X L->L.Nodup ->
  ∃(f:Nat->aC) (rvf:Nat->Value),(∀k∈L,∃q,f k=.row (aW 100000 q)\/f k=.inn (aW 100000 q)) /\
   ∀(V:St) (E:aL),(∀k∈L,E.lab k=f k)->(∀k,S k->E.lab k=.st)->(∀p∈(b7 ps X i j).2,E.rv p.1=rvf p.1)->(∀p∈(b7 ps X i j).2,V.row p.1=some p.2) ->
    (∀p∈(b7 ps X i j).1,∃m v,vs[m]? = some v/\p.1=i+m/\aJ V E w p.2 v)/\∀p∈(b7 ps X i j).2,bZ w E.lab p.1 p.2 (E.rv p.1):=by
 intro ps;induction ps with
 |nil =>
  intro vs X L i j ha hn;cases vs with
  |cons _ _=>exact ha.elim
  |nil =>obtain rfl:L=[]:=ha;exact⟨λ_=>.st,λ_=>undef,(λk hk=>by cases hk),λV E _ _ _ _=>⟨λp hp=>by simp[b7]at hp,λp hp=>by simp[b7]at hp⟩⟩
 |cons p0 ps ih =>
  intro vs X L i j ha hn;cases vs with
  |nil=>exact ha.elim
  |cons v vs =>
   obtain⟨cs,L1,L2,rfl,hcv,h1,h2⟩:=ha;obtain⟨n1,n2,n3⟩:=List.nodup_append.1 hn;obtain⟨t,agg,io⟩:=p0;cases io
   ·obtain⟨rfl,hrd⟩:=h1;obtain⟨f,rvf,k1,k2⟩:=ih (i:=i+1) (j:=j) h2 n2;refine⟨f,rvf,k1,λV E e1 e2 e3 e4=>?_⟩;obtain⟨g1,g2⟩:=k2 V E e1 e2 e3 e4;refine⟨λp hp=>?_,g2⟩;rcases List.mem_cons.1 hp with rfl|hp;·exact⟨0,v,rfl,rfl,qS hcv (mD (p:=none) (hrd.mono λk hk=>e2 k hk))⟩
    ·obtain⟨m,v',q1,q2,q3⟩:=g1 p hp;exact⟨m+1,v',by simpa using q1,by omega,q3⟩
   ·have hown:aB w t L1 cs X.1:=h1;obtain⟨f1,v1,a1,b1⟩:=mU 100000 (j:=j) hown n1;obtain⟨f2,v2,a2,b2⟩:=ih (i:=i+1) (j:=(aI 100000 t X.1 j).2.2) h2 n2;have m1:∀p∈(aI 100000 t X.1 j).2.1,∃q,q<(aI 100000 t X.1 j).2.2/\p.1=aW 100000 q:=yB;have m2:∀p∈(b7 ps X.2 (i+1) (aI 100000 t X.1 j).2.2).2,∃q,(aI 100000 t X.1 j).2.2<=q/\p.1=aW 100000 q:=yA;refine⟨λk=>if k∈L1 then f1 k else f2 k,λq=>if ∃p∈(aI 100000 t X.1 j).2.1,p.1=q then v1 q else v2 q,λk hk=>?_,λV E e1 e2 e3 e4=>?_⟩
    ·by_cases hk1:k∈L1;·obtain⟨q,_,_,hq⟩:=a1 k hk1;exact⟨q,by simpa[hk1]using hq⟩
     ·obtain⟨q,hq⟩:=a2 k ((List.mem_append.1 hk).resolve_left hk1);exact⟨q,by simpa[hk1]using hq⟩
    ·have hm:(b7 (⟨t,agg,true⟩::ps) X i j)=((i,lB agg (aI 100000 t X.1 j).1)::(b7 ps X.2 (i+1) (aI 100000 t X.1 j).2.2).1,(aI 100000 t X.1 j).2.1++(b7 ps X.2 (i+1) (aI 100000 t X.1 j).2.2).2):=rfl;rw[hm]at e3 e4 ⊢;obtain⟨g1,g2⟩:=b1 V E (λk hk=>(e1 k (List.mem_append_left _ hk)).trans (if_pos hk)) (λp hp=>(e3 p (List.mem_append_left _ hp)).trans (if_pos ⟨p,hp,rfl⟩)) (λp hp=>e4 p (List.mem_append_left _ hp));obtain⟨g3,g4⟩:=b2 V E (λk hk=>(e1 k (List.mem_append_right _ hk)).trans (if_neg λh'=>n3 k h' k hk rfl)) e2 (λp hp=>(e3 p (List.mem_append_right _ hp)).trans (if_neg λ⟨p',hp',e⟩=>by obtain⟨q,q1,q2⟩:=m1 p' hp';obtain⟨q',q3,q4⟩:=m2 p hp;have:=mT (q2.symm.trans (e.trans q4));omega)) (λp hp=>e4 p (List.mem_append_right _ hp));refine⟨λp hp=>?_,λp hp=>?_⟩
     ·rcases List.mem_cons.1 hp with rfl|hp;·exact⟨0,v,rfl,rfl,qS hcv g1⟩
      ·obtain⟨m,v',q1,q2,q3⟩:=g3 p hp;exact⟨m+1,v',by simpa using q1,by omega,q3⟩
     ·rcases List.mem_append.1 hp with hp|hp;·exact g2 p hp
      ·exact g4 p hp
def lD{args:Array Value}{m:Nat}{v:Value}(h:args.toList[m]? = some v):args.getD m undef=v:=by
 rw[Array.getD_eq_getD_getElem?];have:args[m]? = some v:=by simpa using h
 rw[this];rfl
end
def be:Gm:=⟨λ_=>none,λ_=>none,λ_=>none,λ_=>none,λ_=>none⟩
def av.nil[DC]{P:Program}[Inv P]:av P be:=⟨λf en h=>(by cases h),λf en h=>(by cases h),λf en h=>(by cases h),λf en h=>(by cases h),λf en h=>(by cases h)⟩
def aK(Γ:Gm)(f:Nat)(en:aQ):Gm:=⟨λk=>cond (Nat.beq k f) (some en) (Γ.g k),Γ.m,Γ.v,Γ.n,Γ.s⟩
def addM(Γ:Gm)(f:Nat)(en:jB):Gm:=⟨Γ.g,λk=>cond (Nat.beq k f) (some en) (Γ.m k),Γ.v,Γ.n,Γ.s⟩
def addV(Γ:Gm)(f:Nat)(en:eY):Gm:=⟨Γ.g,Γ.m,λk=>cond (Nat.beq k f) (some en) (Γ.v k),Γ.n,Γ.s⟩
def addN(Γ:Gm)(f:Nat)(en:jD):Gm:=⟨Γ.g,Γ.m,Γ.v,λk=>cond (Nat.beq k f) (some en) (Γ.n k),Γ.s⟩
def tL(rs:List PT):Bool:=rs.all λp=>p.agg||Nat.beq p.t.nc 1
def yD{rs:List PT}(hf:tL rs=true):∀p∈rs,p.agg=false->p.t.nc=1:=λp hp ha=>by have:=List.all_eq_true.1 hf p hp;rw[ha]at this;exact Nat.eq_of_beq_eq_true (by simpa using this)
def av.add[DC]{P:Program}[Inv P]{Γ:Gm}(h:av P Γ){f:Nat}{en:aQ}(he:ay P f en)(hf:tL en.sig.rs=true):av P (aK Γ f en):=by
 refine⟨λk en' hk=>?_,h.m,h.v,h.n,h.s⟩;simp only[aK]at hk;cases hb:Nat.beq k f;·rw[hb]at hk;exact h.g k en' hk
 ·rw[hb]at hk;injection hk with hk;subst hk;obtain rfl:=Nat.eq_of_beq_eq_true hb;exact⟨he,yD hf⟩
def av.addM[DC]{P:Program}[Inv P]{Γ:Gm}(h:av P Γ){f:Nat}{en:jB}(he:gO P f en)(hf:tL en.rs=true):av P (addM Γ f en):=by
 refine⟨h.g,λk en' hk=>?_,h.v,h.n,h.s⟩;simp only[Fw.addM]at hk;cases hb:Nat.beq k f;·rw[hb]at hk;exact h.m k en' hk
 ·rw[hb]at hk;injection hk with hk;subst hk;obtain rfl:=Nat.eq_of_beq_eq_true hb;exact⟨he,yD hf⟩
def av.addV[DC]{P:Program}[Inv P]{Γ:Gm}(h:av P Γ){f:Nat}{en:eY}(he:dU P f en)(hf:tL en.rs=true):av P (addV Γ f en):=by
 refine⟨h.g,h.m,λk en' hk=>?_,h.n,h.s⟩;simp only[Fw.addV]at hk;cases hb:Nat.beq k f;·rw[hb]at hk;exact h.v k en' hk
 ·rw[hb]at hk;injection hk with hk;subst hk;obtain rfl:=Nat.eq_of_beq_eq_true hb;exact⟨he,yD hf⟩
def av.addN[DC]{P:Program}[Inv P]{Γ:Gm}(h:av P Γ){f:Nat}{en:jD}(he:lq P f en):av P (addN Γ f en):=by
 refine⟨h.g,h.m,h.v,λk en' hk=>?_,h.s⟩;simp only[Fw.addN]at hk;cases hb:Nat.beq k f;·rw[hb]at hk;exact h.n k en' hk
 ·rw[hb]at hk;injection hk with hk;subst hk;obtain rfl:=Nat.eq_of_beq_eq_true hb;exact he
def bm(f:Func):Code:=match f.body with|some c=>c|none=>.skip
def ac(n:Int):Int:=IntKind.i64.wrap n
def w8(n:Int):Int:=IntKind.u8.wrap n
def ax(n:Int)(m:Nat):Bool:=decide (0<=n)&&decide (n<(m:Int))
def oH:(l:List (Nat×Ty))->List Value->dE l->List ai
 |[],_,_=>[]
 |p::l,v::vs,x=>.bor v p.1 p.2 x.1::oH l vs x.2
 |_::_,[],_=>[]
def tN:List PT->Nat->List Nat
 |[],_=>[]
 |p::ps,i=>cond p.io (i::tN ps (i+1)) (tN ps (i+1))
def tO(l:List (Nat×SV)):List Nat->List (Nat×SV)
 |[]=>[]
 |i::is=>(100000+i,gl l i)::tO l is
def tP(ps:List PT)(X:au ps):List (Nat×SV):=(0,.c (.box 100000 0))::(100000,.c (.box 100000 0))::((b7 ps X 1 0).1++tO (b7 ps X 1 0).1 (tN ps 1))
def ed(k:dD)(ps:List PT)(lit:List Value)(X:(dE k.fx×k.t.den)×au ps):St :=
 ah (tP ps X.2) [(100000,(k.te,oH k.fx lit X.1.1++d7 k.t X.1.2 none))] (b7 ps X.2 1 0).2
def qY:List ai->Option (List Value)
 |[]=>some []
 |.bor v _ _ _::cs=>match qY cs with
  |some l=>some (v::l)
  |none=>none
 |_=>none
def CZ(V:St):(back:Bool)->(ps:List PT)->Option (ip back ps)
 |true,ps=>qP V ps 1
 |false,_=>some ()
def qZ(V:St):Bool->List PT->List ai
 |true,ps=>ni V ps 1
 |false,_=>[]
def tQ(T:bi)(k:dD)(ps:List PT)(back:Bool)(rs:List PT)(rv:List ResultVar)(V:St):Option (List Value×(k.t.den×(ip back ps×au rs))) :=
 match jZ T V rv,tJ V (some (k.te,k.t))with
 |some ss,some cs=>cond (oF V (some (k.te,k.t))&&(dQ (aF (iQ rs ss++qZ V back ps))&&(aF (cs.drop k.fx.length)).isEmpty))
  (iR V.row rs ss (eA (qY (cs.take k.fx.length)) (eA (dO V.row k.t (cs.drop k.fx.length)) (eA (CZ V back ps) (oE V.row rs ss))))) none
 |_,_=>none
def C0(T:bi)(k:dD)(ps:List PT)(back:Bool)(rs:List PT)(rv:List ResultVar):Ex->St->Option (List Value×(k.t.den×(ip back ps×au rs)))
 |.nrm,V=>tQ T k ps back rs rv V
 |.ret,V=>tQ T k ps back rs rv V
 |.exit _,_=>none
def tR:(l:List (Nat×Ty))->dE l->Prop
 |[],_=>True
 |p::l,x=>(Ty.sl p.1 p.2).bd x.1/\tR l x.2
section
variable {P : Program} {V V' : St} {E E' : aL} {w w' : World} {w0 : World} {lab0 : Nat → aC} {oo : Nat → Value} {n : Nat} {a : Act} {T : bi} {Γ : Gm} {B : Nat → Option ab} {N : Nat} [DC]
def jC.bd{S:Nat->Prop}:∀{l:List (Nat×Ty)}{vs:List Value}{x:dE l},jC w S l vs x->tR l x
 |[],[],_,_=>trivial
 |p::l,v::vs,x,h=>⟨Rd.bd (t:=.sl p.1 p.2) h.1,h.2.bd⟩
 |[],_::_,_,h=>h.elim
 |_::_,[],_,h=>h.elim
def C2:∀{l:List (Nat×Ty)}{vs:List Value}{x:dE l},jC w (λk=>E.lab k=.st) l vs x->aj (ak V E w) (oH l vs x) vs
 |[],[],_,_=>trivial
 |p::l,v::vs,x,h=>⟨⟨rfl,h.1⟩,C2 h.2⟩
 |[],_::_,_,h=>h.elim
 |_::_,[],_,h=>h.elim
def yE:∀{cs:List ai}{l us:List Value},qY cs=some l->aj (ak V E w) cs us->us=l
 |[],l,[],h,_=>by injection h with h
 |[],l,_::_,h,hc=>hc.elim
 |c::cs,l,[],h,hc=>hc.elim
 |c::cs,l,u::us,h,hc=>by
  cases c with
  |bor v e t xs =>
   simp only[qY]at h;split at h;·rename_i l' hl;injection h with h;subst h;rw[yE hl hc.2,show u=v from hc.1.1]
   ·cases h
  |_=>cases h
def C3{l:List (Nat×SV)}:∀{is:List Nat}{p:Nat×SV},p∈tO l is->∃i∈is,p=(100000+i,gl l i)
 |i::is,p,h=>by
  rcases List.mem_cons.1 h with rfl|h;·exact⟨i,List.mem_cons_self,rfl⟩
  ·obtain⟨j,h1,h2⟩:=C3 h;exact⟨j,List.mem_cons_of_mem _ h1,h2⟩
structure Mv(w:World)(k:dD)(ps:List PT)(args:Array Value)(lit:List Value)(X:(dE k.fx×k.t.den)×au ps)(g:Nat)(L:List Nat)(E:aL):Prop where
 out:∀k,k∉g::L->E.lab k=.st
 slots:∀t s,aA (tP ps X.2) t=some s->aJ (ed k ps lit X) E w s (if t<100000 then args.getD t undef else args.getD (t-100000) undef)
 boxes:∀b te cs,(ed k ps lit X).box b=some (te,cs)->jW (ed k ps lit X) E w b te cs
 rows:∀r row,(ed k ps lit X).row r=some row->bZ w E.lab r row (E.rv r)
def Mw{k:dD}{ps:List PT}{args:Array Value}{lit:List Value}{X:(dE k.fx×k.t.den)×au ps}{g:Nat}{L:List Nat}(ha:xH w (λk=>k∉g::L) k ps args.toList X lit g L)(hn:(g::L).Nodup)(hlen:ps.length+1<=100000)(hsm:Nat.blt k.te ca=true):∃E,Mv w k ps args lit X g L E:=by
 classical
 obtain⟨v0,vs0,hal,⟨hv0,arr,cm,m1,m2,m3,m4,m5⟩,ha⟩:=ha;obtain⟨ng,hnL⟩:=List.nodup_cons.1 hn;obtain⟨f2,v2,a2,b2⟩:=qW (i:=1) (j:=0) ha hnL;have hl:=ha.len;let E:aL:=⟨λk=>if k=g then .box 100000 else if k∈L then f2 k else .st,v2,λ_=>g⟩;have lg:E.lab g=.box 100000:=if_pos rfl;have l2:∀k∈L,E.lab k=f2 k:=λk hk=>(if_neg λ(e:k=g)=>ng (by rw[<-e];exact hk)).trans (if_pos hk);have lo:∀k,k∉g::L->E.lab k=.st:=λk hk=>(if_neg λe=>hk (by simp[e])).trans (if_neg λh'=>hk (by simp[h']));obtain⟨g3,g4⟩:=b2 (ed k ps lit X) E l2 lo (λq hq=>rfl) (λq hq=>yC q hq);have hbox:(ed k ps lit X).box 100000=some (k.te,oH k.fx lit X.1.1++d7 k.t X.1.2 none):=rfl;have hflat:aj (ak (ed k ps lit X) E w) (d7 k.t X.1.2 none) cm:=qy m5;have hcs:0<(oH k.fx lit X.1.1++d7 k.t X.1.2 none).length:=by have e1:=hflat.len;have e2:=m5.len;have:=k.t.nc_pos;rw[List.length_append];omega
 have h0:args.getD 0 undef=v0:=lD (by rw[hal];rfl);have hptr:aJ (ed k ps lit X) E w (.c (.box 100000 0)) v0:=⟨hv0,_,_,hbox,hcs⟩;have hsl:∀t s,aA (b7 ps X.2 1 0).1 t=some s->1<=t/\t<100000/\aJ (ed k ps lit X) E w s (args.getD t undef):=λt s hs=>by obtain⟨m,v,q1,q2,q3⟩:=g3 _ (fI hs);have hm':m<vs0.length:=(List.getElem?_eq_some_iff.1 q1).1;simp only at q2;refine⟨by omega,by omega, ?_⟩;rw[show t=m+1 by omega,lD (by rw[hal];simpa using q1)];exact q3
 refine⟨E,⟨lo,λt s hs=>?_,λb te cs hb=>?_,λr row hr=>g4 (r,row) (fI hr)⟩⟩
 ·unfold tP at hs;have hs2:aA ([(0,.c (.box 100000 0)),(100000,.c (.box 100000 0))]++((b7 ps X.2 1 0).1++tO (b7 ps X.2 1 0).1 (tN ps 1))) t=some s:=hs;rw[qT]at hs2;split at hs2
  ·rename_i s' hs';injection hs2 with hs2;subst hs2;rcases List.mem_cons.1 (fI hs')with e|hm;·injection e with e1 e2;subst e1 e2;rw[if_pos (by omega),h0];exact hptr
   rcases List.mem_cons.1 hm with e|hm;·injection e with e1 e2;subst e1 e2;rw[if_neg (by omega),Nat.sub_self,h0];exact hptr
   ·cases hm
  ·rw[qT]at hs2;split at hs2;·rename_i s' hs';injection hs2 with hs2;subst hs2;obtain⟨q1,q2,q3⟩:=hsl t _ hs';rw[if_pos q2];exact q3
   ·obtain⟨i,_,e⟩:=C3 (fI hs2);injection e with e1 e2;subst e1 e2;rw[if_neg (by omega),show 100000+i-100000=i by omega];unfold gl;split;·rename_i s' hs';exact(hsl i _ hs').2.2
    ·show True;trivial
 ·have hb':aA [(100000,(k.te,oH k.fx lit X.1.1++d7 k.t X.1.2 none))] b=some (te,cs):=hb;have:=fI hb';simp only[List.mem_singleton,Prod.mk.injEq]at this;obtain⟨rfl,rfl,rfl⟩:=this;refine⟨arr,.inl ⟨by simpa using hsm,m1⟩,lg, ?_,m2⟩;rw[m3];exact aj.app (C2 (m4.mono lo)) hflat
def Mx(h:R w0 lab0 oo n V E a w):∀{back:Bool}{ps:List PT}{vs:List Value}{y:ip back ps},CZ V back ps=some y->vs.length=ps.length->(∀j v,vs[j]? = some v->oo (100000+(1+j))=v)->(aF (qZ V back ps)).Nodup ->
  ∃Lb,tk w Lb back ps vs y/\Lb.Nodup/\∀q∈Lb,∃r∈aF (qZ V back ps),dS E.lab r q
 |false,ps,vs,y,_,_,_,_=>⟨[],rfl,List.nodup_nil,λq hq=>by cases hq⟩
 |true,ps,vs,y,hr,hl,hv,hn=>yy h (i:=1) (vs:=vs) hr hl hv hn
theorem My [Inv P] {f : Nat} {fn : Func} {c : Code} {k : dD} {ps rs : List PT} {back : Bool} {pre : Option ((dE k.fx × k.t.den) × au ps → Bool)} {val : (dE k.fx × k.t.den) × au ps → k.t.den × (ip back ps × au rs)} {pl : cV} {je : Option ab} (hf : P.funcs[f]? = some fn) (hb : fn.body = some c) (hname : (fn.name == "runtime.NumGoroutine") = false)
  (hm:P.follows .mixedOrders=true) (hT:a6 P T) (hΓ:av P Γ) (hc:eZ fn.ntmps c=true) (hn:Nat.ble (ps.length+1) fn.ntmps=true) (hn2:Nat.ble fn.ntmps 100000=true)
  (hG:∀lit X,lit.length=k.fx.length->tR k.fx X.1.1->gR ps X.2->ci pre X=true->∃N,am Γ T B N c pl (ed k ps lit X) (az je (C0 T k ps back rs fn.results.toList))=some (lit,val X)) (hsm:Nat.blt k.te ca=true:=by rfl):dU P f ⟨k,ps,back,rs,pre,val⟩:=by
 intro w args L g lit X ha hL hlt hpre hI hBL;have ha0:=ha;obtain⟨v0,vs0,hal,⟨hv0,arr0,cm0,m1,m2,m3,m4,m5⟩,hag⟩:=ha0;obtain⟨N,hr⟩:=hG lit X m4.len m4.bd hag.bd hpre;have hn:=Nat.le_of_ble_eq_true hn;have hn2:=Nat.le_of_ble_eq_true hn2;have hlen:args.size=ps.length+1:=by have hl0:vs0.length=ps.length:=hag.len;have e:=congrArg List.length hal;simp at e;omega
 refine .inl ⟨?_, ?_⟩
 ·have h1 : ¬ fn.name = "runtime.NumGoroutine" := by simpa using hname
  have h2:¬ fn.body=none:=by rw[hb];simp
  simp[callFunc,hf,h1,h2]
 obtain⟨E,st⟩:=Mw ha hL (show ps.length+1<=100000 by omega) hsm;let oo:Nat->Value:=λt=>args.getD (t-100000) undef;have hsz:(args++Array.replicate (fn.ntmps-args.size) undef).size=fn.ntmps:=by rw[Array.size_append,Array.size_replicate];omega
 have hund:∀t,args.size<=t->(args++Array.replicate (fn.ntmps-args.size) undef).getD t undef=undef:=by
  intro t ht;rw[Array.getD_eq_getD_getElem?,Array.getElem?_append_right ht];by_cases h:t-args.size<fn.ntmps-args.size;·simp[Array.getElem?_replicate,h]
  ·simp[Array.getElem?_replicate,h]
 have hR:R w E.lab oo fn.ntmps (ed k ps lit X) E { tmps:=args++Array.replicate (fn.ntmps-args.size) undef,defers:=[] } w:=by
  refine⟨hn2,hsz,rfl,λt=>?_,st.boxes,st.rows,⟨rfl,⟨rfl,λ_=>Nat.le_refl _⟩,rfl,Nat.le_refl _,λk hk hl=>⟨hl,rfl⟩,λk hk hl=>⟨hl,rfl⟩⟩⟩;have hval:dx oo { tmps:=args++Array.replicate (fn.ntmps-args.size) undef,defers:=[] } t=if t<100000 then args.getD t undef else args.getD (t-100000) undef:=by
   unfold dx;by_cases ht:t<100000
   ·rw[if_pos ht,if_pos ht];by_cases hlt:t<args.size;·simp only[Array.getD_eq_getD_getElem?];rw[Array.getElem?_append_left hlt]
    ·rw[hund t (by omega),Array.getD_eq_getD_getElem?,Array.getElem?_eq_none (by omega)];rfl
   ·rw[if_neg ht,if_neg ht]
  rw[hval];show aJ (ed k ps lit X) E w (gl (tP ps X.2) t) _;unfold gl;split;·rename_i s hs;exact st.slots t s hs
  ·show True;trivial
 have hend:∀V' E' a' w',tQ T k ps back rs fn.results.toList V'=some (lit,val X)->R w E.lab oo fn.ntmps V' E' a' w'->a'.defers=[]/\∃v,(results fn a'.tmps).run P w'=.ok v w' /\
   ∃vs Lb Lr,Ending.returned v=Ending.returned v/\xI w ⟨k,ps,back,rs,pre,val⟩ args.toList lit g L (val X) v w' vs Lb Lr:=by
  intro V' E' a' w' hfin h';refine⟨h'.defers, ?_⟩;unfold tQ at hfin;split at hfin
  ·rename_i ss cs hss hrf;cases hq:(oF V' (some (k.te,k.t))&&(dQ (aF (iQ rs ss++qZ V' back ps))&&(aF (cs.drop k.fx.length)).isEmpty));·rw[hq]at hfin;cases hfin
   rw[hq]at hfin;simp only[Bool.and_eq_true,List.isEmpty_iff]at hq;obtain⟨hkept,hnd,hnone⟩:=hq;obtain⟨hz,hfin⟩:=qR (show iR V'.row rs ss _=some (lit,val X)from hfin);obtain⟨p0,p123⟩:=eB (z:=(lit,val X)) hfin;obtain⟨p1,p23⟩:=eB (z:=val X) p123;obtain⟨p2,p3⟩:=eB (z:=(val X).2) p23;have hnd:=jw hnd;rw[ie]at hnd;obtain⟨n1,n2,n3⟩:=List.nodup_append.1 hnd;obtain⟨vs,v1,v2⟩:=qU hT h' hss;obtain⟨v,r1,r2⟩:=qV v2;obtain⟨Lr,l1,l2,l3⟩:=tH h' p3 hz v1 n1;simp only[tJ]at hrf;split at hrf
   ·rename_i te cs' hbx;cases hte:Nat.beq te k.te;·rw[hte]at hrf;cases hrf
    rw[hte]at hrf;injection hrf with hrf;subst hrf;obtain rfl:=Nat.eq_of_beq_eq_true hte;obtain⟨arr,k1,k2,k3,k4⟩:=h'.boxes 100000 _ _ hbx;have k1:=k1.cells (by simpa using hsm);have hs0:aJ V' E' w' (V'.slot 100000) (dx oo a' 100000):=h'.slots 100000;simp only[oF]at hkept;split at hkept
    ·rename_i hsl;rw[hsl]at hs0;obtain⟨hp,_⟩:=(show ak V' E' w' (.box 100000 0) _ from hs0);have hu:dx oo a' 100000=v0:=by unfold dx;rw[if_neg (by omega)];exact lD (by rw[hal];rfl)
     rw[hu,hv0]at hp;injection hp with hp;injection hp with hp;injection hp with hp;rw[<-hp]at k1 k2;have e0:arr.toList.take k.fx.length=lit:=yE p0 (k3.take k.fx.length);obtain⟨L1,o1,o2,o3⟩:=ii h' p1 (k3.drop k.fx.length) (by rw[hnone];exact List.nodup_nil);have hL1:L1=[]:=by
      cases L1 with
      |nil=>rfl
      |cons x xs =>obtain⟨q,q1,_⟩:=o3 x List.mem_cons_self;rw[hnone]at q1;cases q1
     subst hL1;obtain⟨Lb,b1,b2,b3⟩:∃Lb,tk w' Lb back ps args.toList.tail (val X).2.1/\Lb.Nodup/\∀q∈Lb,∃r∈aF (qZ V' back ps),dS E'.lab r q:=by rw[hal];exact Mx (vs:=vs0) h' p2 hag.len (λj u hu=>by show args.getD (100000+(1+j)-100000) undef=u;rw[show 100000+(1+j)-100000=j+1 from by omega];exact lD (by rw[hal];simpa using hu)) n2
     have hold:∀q r,dS E'.lab r q->q∈L\/w.heap.size<=q:=by
      intro q r hk;by_cases h1:q∈g::L
      ·rcases List.mem_cons.1 h1 with rfl|h1;·rcases hk with hk|hk<;>rw[k2]at hk<;>cases hk
       ·exact .inl h1
      ·refine .inr (Nat.le_of_not_lt λhlt=>?_);have:=(h'.same.old q hlt (st.out q h1)).1;rcases hk with hk|hk<;>rw[this]at hk<;>cases hk
     refine⟨v,r1,vs,Lb,Lr,rfl,r2,l1,⟨arr,_,k1,k4, ?_,o1⟩,b1,List.nodup_append.2 ⟨l2,b2,λx hx z hz e=>?_⟩,λq hq=>?_,h'.same.os,h'.same.tape,h'.same.output,h'.same.size,λq hq hqL=>(h'.same.old q hq (st.out q hqL)).2⟩;·rw[<-e0];exact(List.take_append_drop _ _).symm
     ·subst e;obtain⟨q,q1,q2⟩:=l3 x hx;obtain⟨q',q1',q2'⟩:=b3 x hz;exact n3 q q1 q' q1' (kA q2 q2')
     ·rcases List.mem_append.1 hq with hq|hq;·obtain⟨r,q1,q2⟩:=l3 q hq;exact hold q r q2
      ·obtain⟨r,q1,q2⟩:=b3 q hq;exact hold q r q2
    ·cases hkept
   ·cases hrf
  ·cases hfin
 refine calls_of_wp hf hb (iP hT (hΓ.at hI λk hk=>st.out k λhl=>hBL k hl hk) hm c pl hc hR hr ?_ (iu.join ?_ _));·intro ch a a' w' hq;obtain⟨_,v,vs,L',Lr,he,_⟩:=hq;cases he
 ·intro e V' E' a' w' hr' h';cases e with
  |nrm =>obtain⟨d1,v,d2,vs,L',Lr,d3,d4⟩:=hend V' E' a' w' hr' h';exact⟨d1,v,d2,v,vs,L',Lr,rfl,d4⟩
  |ret =>obtain⟨d1,v,d2,vs,L',Lr,d3,d4⟩:=hend V' E' a' w' hr' h';exact⟨d1,v,d2,v,vs,L',Lr,rfl,d4⟩
  |exit i=>cases hr'
def nj(e:Nat)(t0:Ty)(ps:List PT)(v0:Value)(X:List t0.den×au ps):St:=ah ((0,.c (.bor v0 e t0 X.1))::(b7 ps X.2 1 0).1) [] []
def tS(T:bi)(k:dD)(rv:List ResultVar)(V:St):Option (List Value×k.t.den) :=
 match jZ T V rv with
 |some [.c (.box b 0)]=>match V.box b with
  |some (te,cs)=>cond (Nat.beq te k.te&&(aF (cs.drop k.fx.length)).isEmpty) (eA (qY (cs.take k.fx.length)) (dO V.row k.t (cs.drop k.fx.length))) none
  |none=>none
 |_=>none
def C4(T:bi)(k:dD)(rv:List ResultVar):Ex->St->Option (List Value×k.t.den)
 |.nrm,V=>tS T k rv V
 |.ret,V=>tS T k rv V
 |.exit _,_=>none
theorem Mz [Inv P] {f : Nat} {fn : Func} {c : Code} {te e : Nat} {t0 t : Ty} {ps : List PT} {pre : Option (au (⟨.sl e t0, false, false⟩ :: ps) → Bool)} {val : au (⟨.sl e t0, false, false⟩ :: ps) → t.den} {pl : cV} {je : Option ab} (hf : P.funcs[f]? = some fn) (hb : fn.body = some c) (hname : (fn.name == "runtime.NumGoroutine") = false)
  (hm:P.follows .mixedOrders=true) (hT:a6 P T) (hΓ:av P Γ) (hc:eZ fn.ntmps c=true) (hn:Nat.ble (ps.length+1) fn.ntmps=true) (hn2:Nat.ble fn.ntmps 100000=true) (hno:cg ps=true)
  (hG:∀v0 X,gR (⟨.sl e t0,false,false⟩::ps) X->ci pre X=true->∃N,am Γ T B N c pl (nj e t0 ps v0 X) (az je (C4 T ⟨te,[(e,t0)],t⟩ fn.results.toList))=some ([v0],val X)) (hsm:Nat.blt te ca=true:=by rfl):lq P f ⟨⟨te,[(e,t0)],t⟩,⟨.sl e t0,false,false⟩::ps,pre,val⟩:=by
 intro w args X ha hpre hI;have ha:dT w (λ_=>True) (⟨.sl e t0,false,false⟩::ps) args.toList X []:=ha;have hbd:=ha.bd;match hal:args.toList,ha with
 |[],ha=>exact ha.elim
 |v0::vs0,ha =>
 obtain⟨cs0,L1,L2,hLL,hcv,hrd,ha⟩:=ha;have hcv:cs0=[v0]:=hcv;subst hcv;obtain⟨rfl,hrd⟩:L1=[]/\Rd w (λ_=>True) (.sl e t0) [v0] X.1:=hrd;have hL2:L2=[]:=by simpa using hLL.symm
 subst hL2;obtain⟨N,hr⟩:=hG v0 X hbd hpre;have hn:=Nat.le_of_ble_eq_true hn;have hn2:=Nat.le_of_ble_eq_true hn2;have hl:=ha.len;have hlen:args.size=ps.length+1:=by have e:=congrArg List.length hal;simp at e;omega
 refine .inl ⟨?_, ?_⟩
 ·have h1 : ¬ fn.name = "runtime.NumGoroutine" := by simpa using hname
  have h2:¬ fn.body=none:=by rw[hb];simp
  simp[callFunc,hf,h1,h2]
 obtain⟨f2,v2,a2,b2⟩:=qW (i:=1) (j:=0) ha List.nodup_nil;let E:aL:=⟨λ_=>.st,v2,λ_=>0⟩;have hrows:(b7 ps X.2 1 0).2=[]:=by
  have:∀{ps:List PT}{X:au ps}{i j:Nat},cg ps=true->(b7 ps X i j).2=[]:=by
   intro ps;induction ps with
   |nil=>intro X i j _;rfl
   |cons p ps ih =>intro X i j h;obtain⟨t,agg,io⟩:=p;simp only[cg,List.all_cons,Bool.and_eq_true,Bool.not_eq_true']at h;obtain⟨hio,h⟩:=h;subst hio;exact ih h
  exact this hno
 obtain⟨g3,_⟩:=b2 (nj e t0 ps v0 X) E (λk hk=>by cases hk) (λ_ _=>rfl) (λp hp=>rfl) (λp hp=>by rw[hrows]at hp;cases hp);let oo:Nat->Value:=λt=>undef;have hsz:(args++Array.replicate (fn.ntmps-args.size) undef).size=fn.ntmps:=by rw[Array.size_append,Array.size_replicate];omega
 have hget:∀m v,args.toList[m]? = some v->(args++Array.replicate (fn.ntmps-args.size) undef).getD m undef=v:=λm v h=>by
  have hlt:m<args.size:=by have:=(List.getElem?_eq_some_iff.1 h).1;simpa using this
  rw[Array.getD_eq_getD_getElem?,Array.getElem?_append_left hlt];have:args[m]? = some v:=by simpa using h
  rw[this];rfl
 have hR:R w E.lab oo fn.ntmps (nj e t0 ps v0 X) E { tmps:=args++Array.replicate (fn.ntmps-args.size) undef,defers:=[] } w:=by
  refine⟨hn2,hsz,rfl,λt=>?_,λb te cs hb=>(by cases hb),λr row hr=>(by cases hr),⟨rfl,⟨rfl,λ_=>Nat.le_refl _⟩,rfl,Nat.le_refl _,λk hk hl=>⟨hl,rfl⟩,λk hk hl=>⟨hl,rfl⟩⟩⟩;show aJ (nj e t0 ps v0 X) E w (gl ((0,.c (.bor v0 e t0 X.1))::(b7 ps X.2 1 0).1) t) _;refine yx λp hp ep=>?_;have hv:∀m v,args.toList[m]? = some v->t=m->dx oo { tmps:=args++Array.replicate (fn.ntmps-args.size) undef,defers:=[] } t=v:=λm v h1 h2=>by
   have hlt:m<args.size:=by have:=(List.getElem?_eq_some_iff.1 h1).1;simpa using this
   unfold dx;rw[if_pos (by omega),h2];exact hget m v h1
  rcases List.mem_cons.1 hp with rfl|hp;·rw[hv 0 v0 (by rw[hal];rfl) ep.symm];exact(show ak (nj e t0 ps v0 X) E w (.bor v0 e t0 X.1) v0 from⟨rfl,hrd.mono λ_ _=>rfl⟩)
  ·obtain⟨m,v,q1,q2,q3⟩:=g3 p hp;rw[hv (m+1) v (by rw[hal];simpa using q1) (by omega)];exact q3
 have hend:∀V' E' a' w',tS T ⟨te,[(e,t0)],t⟩ fn.results.toList V'=some ([v0],val X)->R w E.lab oo fn.ntmps V' E' a' w'->a'.defers=[]/\∃v,(results fn a'.tmps).run P w'=.ok v w' /\
   ∃g,Ending.returned v=Ending.returned v/\xK w ⟨⟨te,[(e,t0)],t⟩,⟨.sl e t0,false,false⟩::ps,pre,val⟩ (v0::vs0) (val X) v w' g:=by
  intro V' E' a' w' hfin h';refine⟨h'.defers, ?_⟩;unfold tS at hfin;split at hfin
  ·rename_i b hss;split at hfin
   ·rename_i te' cs hbx;simp only at hfin;cases hq:(Nat.beq te' te&&(aF (cs.drop ([(e,t0)]:List (Nat×Ty)).length)).isEmpty);·rw[hq]at hfin;cases hfin
    rw[hq]at hfin;simp only[Bool.and_eq_true,List.isEmpty_iff]at hq;obtain⟨hte,hnone⟩:=hq;obtain rfl:=Nat.eq_of_beq_eq_true hte;obtain⟨p0,p1⟩:=eB (z:=([v0],val X)) hfin;obtain⟨vs,v1,v2⟩:=qU hT h' hss;obtain⟨v,r1,r2⟩:=qV v2;match vs,v1 with
    |[],v1=>exact v1.elim
    |_::_::_,v1=>exact v1.2.elim
    |[u],v1 =>
    obtain rfl:v=u:=r2;obtain⟨hp,_⟩:=(show ak V' E' w' (.box b 0) v from v1.1);obtain⟨arr,k1,k2,k3,k4⟩:=h'.boxes b _ _ hbx;have k1:=k1.cells (by simpa using hsm);have e0:arr.toList.take ([(e,t0)]:List (Nat×Ty)).length=[v0]:=yE p0 (k3.take _);obtain⟨L1,o1,o2,o3⟩:=ii h' p1 (k3.drop _) (by rw[hnone];exact List.nodup_nil);have hL1:L1=[]:=by
     cases L1 with
     |nil=>rfl
     |cons x xs =>obtain⟨q,q1,_⟩:=o3 x List.mem_cons_self;rw[hnone]at q1;cases q1
    subst hL1;refine⟨v,r1,E'.bb b,rfl,hp,Nat.le_of_not_lt λhlt=>?_,⟨arr,_,k1,k4, ?_,o1⟩,h'.same.os,h'.same.tape,h'.same.output,h'.same.size,λq hq=>(h'.same.old q hq rfl).2⟩;·have:=(h'.same.old _ hlt rfl).1;rw[k2]at this;cases this
    ·show arr.toList=(v0::vs0).take 1++_;rw[show(v0::vs0).take 1=[v0]from rfl,<-e0];exact(List.take_append_drop _ _).symm
   ·cases hfin
  ·cases hfin
 refine calls_of_wp hf hb (iP hT (hΓ.at hI λk hk=>rfl) hm c pl hc hR hr ?_ (iu.join ?_ _));·intro ch a a' w' hq;obtain⟨_,v,g,he,_⟩:=hq;cases he
 ·intro ex V' E' a' w' hr' h';cases ex with
  |nrm =>obtain⟨d1,v,d2,g,d3,d4⟩:=hend V' E' a' w' hr' h';exact⟨d1,v,d2,v,g,rfl,d4⟩
  |ret =>obtain⟨d1,v,d2,g,d3,d4⟩:=hend V' E' a' w' hr' h';exact⟨d1,v,d2,v,g,rfl,d4⟩
  |exit i=>cases hr'
end
abbrev KT(J:Type):Type:=Ex->St->Option J
section
variable {J : Type} {Γ : Gm} {T : bi} {B : Nat → Option ab} {N : Nat} {c a b : Code} {p pa pb : cV} {V : St} {K : KT J}
def C6{x:Operand}{t:Bool}{A A' W:Option J}(hc:c=.cond x a b)(hp:p=.mk none none pa pb)(hx:ev V x=.c (.bool t))
  (h1:am Γ T B N a pa V K=A) (h2:am Γ T B N b pb V K=A') (e:cond t A A'=W):am Γ T B N c p V K=W:=by
 subst hc hp h1 h2;rw[<-e];show(match ev V x with|.c (.bool t)=>cond t (am Γ T B N a pa V K) (am Γ T B N b pb V K)|_=>none)=_;rw[hx]
def C7{id:Nat}{lm:ab}{Z W:Option J}(hc:c=.block id a)(hp:p=.mk (some lm) none pa .n)
  (h1:am Γ T B N a pa V (az (some lm) (qO id K))=Z) (e:Z=W):am Γ T B N c p V K=W:=by
 subst hc hp e;exact h1
def C8{cl:ab}{V':St}{Z W:Option J}(hc:c=.loop a)(hp:p=.mk none (some cl) pa .n)(hs:it cl V=some V')
  (h1:cb (λV K=>am Γ T B N a pa V K) cl N V' K=Z) (e:Z=W):am Γ T B N c p V K=W:=by
 subst hc hp e;show((it cl V).bind λσ0=>cb (λV K=>am Γ T B N a pa V K) cl N σ0 K)=_;rw[hs];exact h1
def MC{β:Type}(f:β->Option J){cl1 cl:ab}{V':St}{Z W:Option J}{k k':β}(hc:(c,p,it cl1 V)=(Code.loop a,cV.mk (some cl1) (some cl) pa pb,some V'))
  (h1:am Γ T B N a pb V' (az (some cl) (cx (λV''=>cb (λV K=>am Γ T B N a pa V K) cl N V'' K) K))=Z) (h2:k=k') (e:(Z,f k')=(f k,W)):am Γ T B N c p V K=W:=by
 obtain⟨rfl,rfl,hs⟩:c=Code.loop a/\p=cV.mk (some cl1) (some cl) pa pb/\it cl1 V=some V':=⟨congrArg Prod.fst hc,congrArg (λq=>q.2.1) hc,congrArg (λq=>q.2.2) hc⟩;subst h2;have e1:Z=f k:=congrArg Prod.fst e;have e2:f k=W:=congrArg Prod.snd e;rw[<-e2,<-e1,<-h1];show((it cl1 V).bind λσ0=>am Γ T B N a pb σ0 (az (some cl) (cx (λV''=>cb (λV K=>am Γ T B N a pa V K) cl N V'' K) K)))=_;rw[hs];rfl
end
abbrev I2(α:Type):Type:=Int->Int->α
abbrev I3(α:Type):Type:=Int->Int->Int->α
abbrev I4(α:Type):Type:=Int->Int->Int->Int->α
abbrev I5(α:Type):Type:=Int->Int->Int->Int->Int->α
abbrev I6(α:Type):Type:=Int->Int->Int->Int->Int->Int->α
abbrev I7(α:Type):Type:=Int->Int->Int->Int->Int->Int->Int->α
abbrev I8(α:Type):Type:=Int->Int->Int->Int->Int->Int->Int->Int->α
def aZ:Nat->Code->Nat->Code
 |0,c,_=>c
 |F+1,c,n=>cond (Nat.ble n 1) c (match c with
  |.seq a b=>cond (Nat.beq (n%2) 0) (aZ F a (n / 2)) (aZ F b (n / 2))
  |.cond _ a b=>cond (Nat.beq (n%2) 0) (aZ F a (n / 2)) (aZ F b (n / 2))
  |.block _ c=>aZ F c (n / 2)
  |.loop c=>aZ F c (n / 2)
  |c=>c)
abbrev yi(n:Int):ai:=.int .i64 n
abbrev xi(n:Int):SV:=.c (.int .i64 n)
abbrev xo(n:Nat):SV:=.c (.own n)
abbrev xb(n:Nat):SV:=.c (.box n 0)
abbrev xB(b:Bool):SV:=.c (.bool b)
abbrev tI:Ty:=.int .i64
abbrev tM(e:Nat):Ty:=.pair tI (.pair tI (.sl e tI))
abbrev LI:Type:=List Int
abbrev LL:Type:=List (List Int)
abbrev MT:Type:=Int×Int×List Int
abbrev LM:Type:=List MT
def eN{α0 α1 β:Type}{f g:α0->α1->β}(h:∀x0 x1,f x0 x1=g x0 x1):f=g:=funext λx0=>funext λx1=>h x0 x1
def cW{α0 α1 α2 β:Type}{f g:α0->α1->α2->β}(h:∀x0 x1 x2,f x0 x1 x2=g x0 x1 x2):f=g:=funext λx0=>funext λx1=>funext λx2=>h x0 x1 x2
def eO{α0 α1 α2 α3 β:Type}{f g:α0->α1->α2->α3->β}(h:∀x0 x1 x2 x3,f x0 x1 x2 x3=g x0 x1 x2 x3):f=g:=funext λx0=>funext λx1=>funext λx2=>funext λx3=>h x0 x1 x2 x3
def cH{α0 α1 α2 α3 α4 β:Type}{f g:α0->α1->α2->α3->α4->β}(h:∀x0 x1 x2 x3 x4,f x0 x1 x2 x3 x4=g x0 x1 x2 x3 x4):f=g:=funext λx0=>funext λx1=>funext λx2=>funext λx3=>funext λx4=>h x0 x1 x2 x3 x4
def cN{α0 α1 α2 α3 α4 α5 β:Type}{f g:α0->α1->α2->α3->α4->α5->β}(h:∀x0 x1 x2 x3 x4 x5,f x0 x1 x2 x3 x4 x5=g x0 x1 x2 x3 x4 x5):f=g:=funext λx0=>funext λx1=>funext λx2=>funext λx3=>funext λx4=>funext λx5=>h x0 x1 x2 x3 x4 x5
def fa{α0 α1 α2 α3 α4 α5 α6 β:Type}{f g:α0->α1->α2->α3->α4->α5->α6->β}(h:∀x0 x1 x2 x3 x4 x5 x6,f x0 x1 x2 x3 x4 x5 x6=g x0 x1 x2 x3 x4 x5 x6):f=g:=funext λx0=>funext λx1=>funext λx2=>funext λx3=>funext λx4=>funext λx5=>funext λx6=>h x0 x1 x2 x3 x4 x5 x6
def dy{α0 α1 α2 α3 α4 α5 α6 α7 β:Type}{f g:α0->α1->α2->α3->α4->α5->α6->α7->β}(h:∀x0 x1 x2 x3 x4 x5 x6 x7,f x0 x1 x2 x3 x4 x5 x6 x7=g x0 x1 x2 x3 x4 x5 x6 x7):f=g:=funext λx0=>funext λx1=>funext λx2=>funext λx3=>funext λx4=>funext λx5=>funext λx6=>funext λx7=>h x0 x1 x2 x3 x4 x5 x6 x7
def ee{α0 α1 α2 α3 α4 α5 α6 α7 α8 β:Type}{f g:α0->α1->α2->α3->α4->α5->α6->α7->α8->β}(h:∀x0 x1 x2 x3 x4 x5 x6 x7 x8,f x0 x1 x2 x3 x4 x5 x6 x7 x8=g x0 x1 x2 x3 x4 x5 x6 x7 x8):f=g:=funext λx0=>funext λx1=>funext λx2=>funext λx3=>funext λx4=>funext λx5=>funext λx6=>funext λx7=>funext λx8=>h x0 x1 x2 x3 x4 x5 x6 x7 x8
def dz{α0 α1 α2 α3 α4 α5 α6 α7 α8 α9 β:Type}{f g:α0->α1->α2->α3->α4->α5->α6->α7->α8->α9->β}(h:∀x0 x1 x2 x3 x4 x5 x6 x7 x8 x9,f x0 x1 x2 x3 x4 x5 x6 x7 x8 x9=g x0 x1 x2 x3 x4 x5 x6 x7 x8 x9):f=g:=funext λx0=>funext λx1=>funext λx2=>funext λx3=>funext λx4=>funext λx5=>funext λx6=>funext λx7=>funext λx8=>funext λx9=>h x0 x1 x2 x3 x4 x5 x6 x7 x8 x9
def gD{α0 α1 α2 α3 α4 α5 α6 α7 α8 α9 α10 β:Type}{f g:α0->α1->α2->α3->α4->α5->α6->α7->α8->α9->α10->β}(h:∀x0 x1 x2 x3 x4 x5 x6 x7 x8 x9 x10,f x0 x1 x2 x3 x4 x5 x6 x7 x8 x9 x10=g x0 x1 x2 x3 x4 x5 x6 x7 x8 x9 x10):f=g:=funext λx0=>funext λx1=>funext λx2=>funext λx3=>funext λx4=>funext λx5=>funext λx6=>funext λx7=>funext λx8=>funext λx9=>funext λx10=>h x0 x1 x2 x3 x4 x5 x6 x7 x8 x9 x10
def oI{α0 α1 α2 α3 α4 α5 α6 α7 α8 α9 α10 α11 β:Type}{f g:α0->α1->α2->α3->α4->α5->α6->α7->α8->α9->α10->α11->β}(h:∀x0 x1 x2 x3 x4 x5 x6 x7 x8 x9 x10 x11,f x0 x1 x2 x3 x4 x5 x6 x7 x8 x9 x10 x11=g x0 x1 x2 x3 x4 x5 x6 x7 x8 x9 x10 x11):f=g:=funext λx0=>funext λx1=>funext λx2=>funext λx3=>funext λx4=>funext λx5=>funext λx6=>funext λx7=>funext λx8=>funext λx9=>funext λx10=>funext λx11=>h x0 x1 x2 x3 x4 x5 x6 x7 x8 x9 x10 x11
def nk{α0 α1 α2 α3 α4 α5 α6 α7 α8 α9 α10 α11 α12 β:Type}{f g:α0->α1->α2->α3->α4->α5->α6->α7->α8->α9->α10->α11->α12->β}(h:∀x0 x1 x2 x3 x4 x5 x6 x7 x8 x9 x10 x11 x12,f x0 x1 x2 x3 x4 x5 x6 x7 x8 x9 x10 x11 x12=g x0 x1 x2 x3 x4 x5 x6 x7 x8 x9 x10 x11 x12):f=g:=funext λx0=>funext λx1=>funext λx2=>funext λx3=>funext λx4=>funext λx5=>funext λx6=>funext λx7=>funext λx8=>funext λx9=>funext λx10=>funext λx11=>funext λx12=>h x0 x1 x2 x3 x4 x5 x6 x7 x8 x9 x10 x11 x12
def tU{α0 α1 α2 α3 α4 α5 α6 α7 α8 α9 α10 α11 α12 α13 β:Type}{f g:α0->α1->α2->α3->α4->α5->α6->α7->α8->α9->α10->α11->α12->α13->β}(h:∀x0 x1 x2 x3 x4 x5 x6 x7 x8 x9 x10 x11 x12 x13,f x0 x1 x2 x3 x4 x5 x6 x7 x8 x9 x10 x11 x12 x13=g x0 x1 x2 x3 x4 x5 x6 x7 x8 x9 x10 x11 x12 x13):f=g:=funext λx0=>funext λx1=>funext λx2=>funext λx3=>funext λx4=>funext λx5=>funext λx6=>funext λx7=>funext λx8=>funext λx9=>funext λx10=>funext λx11=>funext λx12=>funext λx13=>h x0 x1 x2 x3 x4 x5 x6 x7 x8 x9 x10 x11 x12 x13
def ME{α0 α1 α2 α3 α4 α5 α6 α7 α8 α9 α10 α11 α12 α13 α14 β:Type}{f g:α0->α1->α2->α3->α4->α5->α6->α7->α8->α9->α10->α11->α12->α13->α14->β}(h:∀x0 x1 x2 x3 x4 x5 x6 x7 x8 x9 x10 x11 x12 x13 x14,f x0 x1 x2 x3 x4 x5 x6 x7 x8 x9 x10 x11 x12 x13 x14=g x0 x1 x2 x3 x4 x5 x6 x7 x8 x9 x10 x11 x12 x13 x14):f=g:=funext λx0=>funext λx1=>funext λx2=>funext λx3=>funext λx4=>funext λx5=>funext λx6=>funext λx7=>funext λx8=>funext λx9=>funext λx10=>funext λx11=>funext λx12=>funext λx13=>funext λx14=>h x0 x1 x2 x3 x4 x5 x6 x7 x8 x9 x10 x11 x12 x13 x14
def C9{α0 α1 α2 α3 α4 α5 α6 α7 α8 α9 α10 α11 α12 α13 α14 α15 β:Type}{f g:α0->α1->α2->α3->α4->α5->α6->α7->α8->α9->α10->α11->α12->α13->α14->α15->β}(h:∀x0 x1 x2 x3 x4 x5 x6 x7 x8 x9 x10 x11 x12 x13 x14 x15,f x0 x1 x2 x3 x4 x5 x6 x7 x8 x9 x10 x11 x12 x13 x14 x15=g x0 x1 x2 x3 x4 x5 x6 x7 x8 x9 x10 x11 x12 x13 x14 x15):f=g:=funext λx0=>funext λx1=>funext λx2=>funext λx3=>funext λx4=>funext λx5=>funext λx6=>funext λx7=>funext λx8=>funext λx9=>funext λx10=>funext λx11=>funext λx12=>funext λx13=>funext λx14=>funext λx15=>h x0 x1 x2 x3 x4 x5 x6 x7 x8 x9 x10 x11 x12 x13 x14 x15
end Go.Fw
