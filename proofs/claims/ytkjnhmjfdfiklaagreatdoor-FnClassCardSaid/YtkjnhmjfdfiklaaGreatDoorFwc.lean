/- The framework: what a symbolic run of the model's code tells, proved sound. Nothing is assumed. -/
import Derived.Test.YtkjnhmjfdfiklaaGreatDoorFwb
set_option linter.defProp false
set_option linter.unusedVariables false
set_option linter.unusedSectionVars false
set_option linter.unusedSimpArgs false
namespace Go.Fw
open Go.RowKit
structure Gm where
 g:Nat->Option aQ
 m:Nat->Option gV
 v:Nat->Option ew
 n:Nat->Option jg
 s:Nat->Option kb
def kZ:Op->Option (Operand×Operand×Operand)
 |.pick c x y=>some (c,x,y)
 |_=>none
def pY:Op->Option (Nat×List Operand)
 |.call { callee:=.value (.func f),args:=args,argTypes:=_ }=>some (f,args.toList)
 |_=>none
def pZ(V:St):Op->Option (Nat×List Operand)
 |.call { callee:=.value x,args:=args,argTypes:=_ }=>match ev V x with
  |.c (.fn f [])=>some (f,args.toList)
  |_=>none
 |_=>none
noncomputable def ce{J:Type}(a b:Option J):Option J:=by classical exact if a=b then a else none
@[reducible] noncomputable def bo{J:Type}(a:Option J):Option J:=ce a a
def Cn{J:Type}{a b:Option J}{r:J}(h:ce a b=some r):a=some r/\b=some r:=by
 unfold ce at h;split at h;·rename_i e;exact⟨h,e▸h⟩
 ·cases h
def fG{J:Type}(a:Option J):ce a a=a:=by unfold ce;exact if_pos rfl
noncomputable def xz{J:Type}(step:Nat->Option J):List Nat->Option J
 |[]=>none
 |[i]=>step i
 |i::j::is=>ce (step i) (xz step (j::is))
def Co{J:Type}{step:Nat->Option J}{r:J}:∀{is:List Nat},xz step is=some r->∀i∈is,step i=some r
 |[],h,_,_=>by cases h
 |[i],h,j,hj=>by obtain rfl:=List.mem_singleton.1 hj;exact h
 |i::j::is,h,k,hk=>by
  obtain⟨h1,h2⟩:=Cn h;rcases List.mem_cons.1 hk with rfl|hk;·exact h1
  ·exact Co h2 k hk
def Cp:BinOp->Bool
 |.eql=>true
 |.neq=>true
 |_=>false
def p5(T:bj)(V:St):Op->Bool
 |.binOp op t x y _=>Cp op&&(match T t,ev V x,ev V y with
  |some ti,.c (.sn _ _ _ _),.c .nil=>ti.el.isSome
  |some ti,.c (.own r),.c .nil=>ti.el.isSome&&(match V.row r with
   |some row=>!row.nilE
   |none=>false)
  |_,_,_=>false)
 |_=>false
structure dz where
 d:Nat
 r:Nat
 i:Int
 f:Nat
 el:Option (Nat×Int)
def sN(T:bj)(V:St)(o:Oper):Option dz:=match o.guard,o.op,o.dst with
 |none,.load t x,some d=>match ev V x with
  |.c (.elt r i f)=>match V.row r,T t with
   |some row,some ti=>cond (row.deep&&(ti.el.isSome&&!ti.agg)) (some ⟨d,r,i,f,none⟩) none
   |_,_=>none
  |_=>none
 |_,_,_=>none
inductive L5 where
 |no
 |still (p:dz)
 |sub (p:dz) (f:Nat) (args:List Operand)
 |put (p:dz) (e:Nat) (k:Int) (t:Nat) (x:Operand)
def p6(d:Nat):Option Operand->Bool
 |some (.tmp e)=>Nat.beq e d&&Nat.blt d 100000
 |_=>false
def jh(d:Nat):Option Nat->Bool
 |some e=>!(Nat.beq e d)
 |none=>true
def xA(T:bj)(V:St)(p:dz)(op:Op)(dst:Option Nat):Option dz:=none
def xC(p:dz)(op:Op)(dst:Option Nat):Option (Nat×Int×Nat×Operand):=match op,dst,p.el with
 |.store t (.tmp e') x,none,some (e,k)=>cond (Nat.beq e' e&&(Nat.blt e 100000&&Nat.blt p.d 100000)) (some (e,k,t,x)) none
 |_,_,_=>none
def k7(p:dz)(dst:Option Nat):Bool:=match p.el with
 |some (e,_)=>jh e dst
 |none=>true
def lk(N:Nat)(b:Bool):Bool:=match N with
 |0=>b
 |_+1=>b
def aD(N:Nat)(b:Bool):lk N b=b:=by cases N<;>rfl
def p7(N:Nat):ai->ai
 |.bool b=>.bool (lk N b)
 |c=>c
def p8(N:Nat):SV->SV
 |.c x=>.c (p7 N x)
 |.agg l=>.agg l
 |.tup l=>.tup (l.map λp=>(p.1,p.2.map (p7 N)))
def Cq(N:Nat)(c:ai):p7 N c=c:=by cases c<;>simp[p7,aD]
def Cr(N:Nat)(s:SV):p8 N s=s:=by have h:p7 N=id:=funext (Cq N);cases s<;>simp[p8,Cq,h]
def p9(N:Nat)(op:Op)(c:Bool):Bool:=match op with
 |.binOp .quo _ _ _ _=>lk N c
 |.binOp .rem _ _ _ _=>lk N c
 |.binOp .shl _ _ _ _=>lk N c
 |.binOp .shr _ _ _ _=>lk N c
 |.indexAddr _ _ _=>lk N c
 |.index _ _ _=>lk N c
 |.slice _ _ _ _ _=>lk N c
 |_=>c
def qa(N:Nat)(op:Op)(s:SV):SV:=match op with
 |.binOp _ _ _ _ _=>p8 N s
 |.lookup _ _ _ _=>p8 N s
 |_=>s
def xD(N:Nat)(op:Op)(c:Bool):p9 N op c=c:=by unfold p9;split<;>first|rfl|exact aD N c
def xE(N:Nat)(op:Op)(s:SV):qa N op s=s:=by unfold qa;split<;>first|rfl|exact Cr N s
def mF{α:Type}(N:Nat)(p:Option (α->Bool))(X:α):Bool:=match p with
 |none=>true
 |some f=>lk N (f X)
def qb{α:Type}(N:Nat)(p:Option (α->Bool))(X:α):mF N p X=cq p X:=by
 unfold mF cq;split;·rfl
 ·exact aD N _
def qc(N:Nat)(d:Option Nat)(V:St):St:=match d with
 |some d=>V.put d (p8 N (V.slot d))
 |none=>V
def xF(N:Nat)(d:Option Nat)(V:St):qc N d V=V:=by
 cases d with
 |none=>rfl
 |some d =>
  unfold qc;simp only[Cr];unfold St.put;congr 1;funext t;unfold au;cases hb:Nat.beq t d;·rfl
  ·rw[Nat.eq_of_beq_eq_true hb];rfl
def bD.kL{J:Type}(N:Nat):bD->(St->Option J)->Option J
 |.fail,_=>none
 |.ok V,K=>K V
 |.chk c o,K=>cond (lk N c) (o.kL N K) none
 |.br b o1 o2,K=>cond b (o1.kL N K) (o2.kL N K)
 |.call x f,K=>x.bind λb=>(f b).kL N K
def bD.kL_eq{J:Type}(N:Nat)(K:St->Option J):∀o:bD,o.kL N K=o.k K
 |.fail=>rfl
 |.ok V=>rfl
 |.chk c o=>by simp only[bD.kL,bD.k,aD,bD.kL_eq N K o]
 |.br b o1 o2=>by simp only[bD.kL,bD.k,bD.kL_eq N K o1,bD.kL_eq N K o2]
 |.call x f=>by simp only[bD.kL,bD.k];congr 1;funext b;exact bD.kL_eq N K (f b)
section
variable {J : Type}
noncomputable def sO(Γ:Gm)(T:bj)(N:Nat)(o:Oper)(V:St)(K:St->Option J):Option J :=
 match kZ o.op with
 |some (c,x,y)=>match ev V c with
  |.c (.bool b)=>cond b (K (fk V o.dst (ev V x))) (K (fk V o.dst (ev V y)))
  |_=>none
 |none=>match pZ V o.op with
  |some (f,args)=>match Γ.g f with
   |some en=>match wX en V (args.map (ev V))with
    |some X=>cond (mF N en.pre X) (match wY en V o.dst (args.map (ev V)) (en.val X)with
     |some V'=>K (qc N o.dst V')
     |none=>none) none
    |none=>none
   |none=>match Γ.m f with
    |some en=>match xc en V (args.map (ev V))with
     |some (qs,X)=>cond (mF N en.pre X) (match sI en V o.dst (args.map (ev V)) qs (en.val X)with
      |some V'=>K (qc N o.dst V')
      |none=>none) none
     |none=>none
    |none=>match Γ.v f with
     |some en=>match xp en V (args.map (ev V))with
      |some (qs,X)=>cond (mF N en.pre X) (match xq en V o.dst (args.map (ev V)) qs (en.val X)with
       |some V'=>K (qc N o.dst V')
       |none=>none) none
      |none=>none
     |none=>match Γ.n f with
      |some en=>match xr en V (args.map (ev V))with
       |some X=>cond (mF N en.pre X) (match xt en V o.dst (args.map (ev V)) (en.val X)with
        |some V'=>K V'
        |none=>none) none
       |none=>none
      |none=>match Γ.s f with
       |some en=>match pX en.ps (args.map (ev V))with
        |some X=>cond (mF N en.pre X) (match xx en V o.dst (en.val X)with
         |some V'=>K V'
         |none=>none) none
        |none=>none
       |none=>none
  |none=>match cz T V o.op with
   |some (c,s)=>cond (p5 T V o.op) (cond (lk N c) (K (fk V o.dst s)) (ce (K (fk V o.dst (.c (.bool true)))) (K (fk V o.dst (.c (.bool false))))))
    (cond (p9 N o.op c) (K (fk V o.dst (qa N o.op s))) none)
   |none=>(so T V o.dst o.op).kL N K
def xG(ops:Array Oper)(j:Nat):Option Nat:=match ops[j]? with
 |some o=>o.dst
 |none=>none
def mG(ops:Array Oper)(o:Oper)(V:St)(F:St->Option J)(K:St->Option J):Option J :=
 match o.guard with
 |none=>F V
 |some (j,want)=>match xG ops j with
  |some t=>match V.slot t with
   |.c (.bool b)=>cond b
    (cond want (F (V.put t (.c (.bool true)))) (K (fk (V.put t (.c (.bool true))) o.dst (.tup []))))
    (cond want (K (fk (V.put t (.c (.bool false))) o.dst (.tup []))) (F (V.put t (.c (.bool false)))))
   |.tup _=>K (fk V o.dst (.tup []))
   |_=>none
  |none=>none
def ji:Op->Bool
 |.move _=>true
 |.assign _=>true
 |.load _ _=>true
 |.indexAddr _ _ _=>true
 |.fieldAddr _ _ _=>true
 |.binOp _ _ _ _ _=>true
 |.unOp _ _ _=>true
 |.index _ _ _=>true
 |.call { callee:=.builtin .len,args:=_,argTypes:=_ }=>true
 |.call { callee:=.builtin .min,args:=_,argTypes:=_ }=>true
 |.call { callee:=.builtin .max,args:=_,argTypes:=_ }=>true
 |.convert _ _ _=>true
 |.extract _ _=>true
 |.nilCheck _=>true
 |_=>false
noncomputable def Cs(Γ:Gm)(N:Nat)(p:dz)(f:Nat)(args:List Operand)(dst:Option Nat)(V:St)(K:St->Option J):Option J:=none
def xH(T:bj)(p:dz)(k:Int)(t:Nat)(x:Operand)(V:St)(K:St->Option J):Option J:=none
def sP(Γ:Gm)(T:bj)(V:St)(o:Oper)(pin:Option dz):L5:=match sN T V o with
 |some p=>.still p
 |none=>match pin with
  |none=>.no
  |some p=>match o.guard with
   |some _=>.no
   |none=>match pZ V o.op with
    |some (f,args)=>match Γ.g f with
     |some en=>cond (p6 p.d (gU en.sig.ps args)&&dQ en.sig.ps) (.sub p f args) .no
     |none=>.no
    |none=>match xA T V p o.op o.dst with
     |some p'=>.still p'
     |none=>match xC p o.op o.dst with
      |some (e,k,t,x)=>.put p e k t x
      |none=>cond (ji o.op&&(jh p.d o.dst&&k7 p o.dst)) (.still p) .no
noncomputable def k9(Γ:Gm)(T:bj)(N:Nat)(ops:Array Oper):List Nat->Option dz->St->(St->Option J)->Option J
 |[],_,V,K=>K V
 |i::dV,pin,V,K=>match ops[i]? with
  |some o=>match sP Γ T V o pin with
   |.no=>mG ops o V (λV=>sO Γ T N o V λV'=>k9 Γ T N ops dV none V' K) λV'=>k9 Γ T N ops dV none V' K
   |.still p=>match cz T V o.op with
    |some (c,s)=>cond (p9 N o.op c) (k9 Γ T N ops dV (some p) (fk V o.dst (qa N o.op s)) K) none
    |none=>none
   |.sub p f args=>Cs Γ N p f args o.dst V λV'=>k9 Γ T N ops dV none V' K
   |.put p _ k t x=>xH T p k t x V λV'=>k9 Γ T N ops dV none V' K
  |none=>none
def Ct(T:bj)(N:Nat)(o:Oper)(V:St)(K:St->Option J):Option J :=
 match cz T V o.op with
 |some (c,s)=>cond (wN o.op s) (cond (p9 N o.op c) (K (fk V o.dst (qa N o.op s))) none) none
 |none=>none
def sQ(f:Nat->Bool):List Nat->Option Nat
 |[]=>none
 |i::l=>cond (f i) (some i) (sQ f l)
def gz(Γ:Gm)(o:Oper):Bool:=match pY o.op with
 |some (f,_)=>match Γ.g f with
  |some en=>ck en.sig.ps
  |none=>false
 |none=>match kZ o.op with
  |some _=>true
  |none=>match o.op with
   |.slice _ _ _ _ _=>true
   |.build _ _=>true
   |.makeSlice _ _ _=>true
   |.alloc _=>true
   |.box _ _=>true
   |.buildSlice _ _ _=>true
   |_=>ji o.op
def la(Γ:Gm)(ops:Array Oper)(j:Nat):Bool:=match ops[j]? with
 |some oj=>!(mr oj.op)&&(List.range ops.size).any λi=>!(Nat.beq i j)&&(match ops[i]? with
  |some oi=>!(gz Γ oi)&&!(fl ops 4 i j||fl ops 4 j i)
  |none=>false)
 |none=>false
def Cu(Γ:Gm)(ops:Array Oper)(listed:Array Bool)(i:Nat):Bool:=match ops[i]? with
 |some o=>ji o.op&&(Region.free .any ops listed i&&!(la Γ ops i))
 |none=>false
def xI(T:bj)(V:St)(o:Oper)(pin:Option dz):Option dz:=match sN T V o with
 |some p=>some p
 |none=>match pin,o.guard with
  |some p,none=>match xA T V p o.op o.dst with
   |some p'=>some p'
   |none=>cond (jh p.d o.dst&&k7 p o.dst) (some p) none
  |_,_=>none
def Cv(o:Oper)(pin:Option dz):Option (dz×Nat×Int×Nat×Operand):=match pin,o.guard with
 |some p,none=>match xC p o.op o.dst with
  |some y=>some (p,y)
  |none=>none
 |_,_=>none
noncomputable def kc(Γ:Gm)(T:bj)(N:Nat)(ops:Array Oper):Nat->Array Bool->Option dz->St->(St->Option J)->Option J
 |0,listed,_,V,K=>cond (Region.ready .any ops listed).isEmpty (K V) none
 |fuel+1,listed,pin,V,K=>match Region.ready .any ops listed with
  |[]=>K V
  |r::rs=>match sQ (Cu Γ ops listed) (r::rs)with
   |some i=>match ops[i]? with
    |some o=>mG ops o V (λV=>Ct T N o V λV'=>kc Γ T N ops fuel (listed.setIfInBounds i true) (xI T V o pin) V' K) λV'=>kc Γ T N ops fuel (listed.setIfInBounds i true) none V' K
    |none=>none
   |none=>xz (λr=>match ops[r]? with
    |some o=>cond (gz Γ o||jz ops (la Γ ops) r) (match Cv o pin with
     |some (p,_,k,t,x)=>cond (jz ops (la Γ ops) r) (xH T p k t x V λV'=>kc Γ T N ops fuel (listed.setIfInBounds r true) none V' K) none
     |none=>mG ops o V (λV=>sO Γ T N o V λV'=>kc Γ T N ops fuel (listed.setIfInBounds r true) none V' K) λV'=>kc Γ T N ops fuel (listed.setIfInBounds r true) none V' K) none
    |none=>none) (r::rs)
noncomputable def xJ(Γ:Gm)(T:bj)(N:Nat)(ops:Array Oper)(draw:Bool)(V:St)(K:St->Option J):Option J :=
 cond draw (cond (Region.noSelect ops) (kc Γ T N ops ops.size (Array.replicate ops.size false) none V K) none) (k9 Γ T N ops (List.range ops.size) none V K)
def mH(n:Nat)(ops:Array Oper):Bool:=ops.toList.all λo=>match o.dst with
 |some d=>Nat.blt d n
 |none=>true
end
structure ao[DC](P:Program)[Inv P](Γ:Gm):Prop where
 g:∀f en,Γ.g f=some en->aw P f en/\∀p∈en.sig.rs,p.agg=false->p.t.nc=1
 m:∀f en,Γ.m f=some en->fp P f en/\∀p∈en.rs,p.agg=false->p.t.nc=1
 v:∀f en,Γ.v f=some en->dj P f en/\∀p∈en.rs,p.agg=false->p.t.nc=1
 n:∀f en,Γ.n f=some en->kW P f en
 s:∀f en,Γ.s f=some en->kY P f en
structure mI[DC](P:Program)(w0:World)(lab0:Nat->aC)(Γ:Gm):Prop where
 g:∀f en,Γ.g f=some en->pQ P w0 lab0 f en/\∀p∈en.sig.rs,p.agg=false->p.t.nc=1
 m:∀f en,Γ.m f=some en->xa P w0 lab0 f en/\∀p∈en.rs,p.agg=false->p.t.nc=1
 v:∀f en,Γ.v f=some en->xl P w0 lab0 f en/\∀p∈en.rs,p.agg=false->p.t.nc=1
 n:∀f en,Γ.n f=some en->xn P w0 lab0 f en
 s:∀f en,Γ.s f=some en->xw P w0 lab0 f en
def ao.at[DC]{P:Program}[Inv P]{Γ:Gm}(h:ao P Γ){w0:World}{lab0:Nat->aC}(hI:Inv.I P w0)(hB:∀k,Inv.B P k->lab0 k=.st):mI P w0 lab0 Γ :=
 ⟨λf en hf=>⟨(h.g f en hf).1.at hI hB,(h.g f en hf).2⟩,λf en hf=>⟨(h.m f en hf).1.at hI hB,(h.m f en hf).2⟩,λf en hf=>⟨(h.v f en hf).1.at hI hB,(h.v f en hf).2⟩,λf en hf=>(h.n f en hf).at hI hB,λf en hf=>(h.s f en hf).at hI hB⟩
section
variable {P : Program} {V V' : St} {E E' : aP} {w w' : World} {w0 : World} {lab0 : Nat → aC} {oo : Nat → Value} {n : Nat} {a : Act} {T : bj} {Γ : Gm} {J : Type} {ops : Array Oper} {N : Nat} [DC]
def gX(h:mH n ops=true){i:Nat}{o:Oper}(ho:ops[i]? = some o):∀d,o.dst=some d->d<n:=by
 intro d hd;have hm:o∈ops.toList:=by have:=Array.mem_of_getElem? ho;simpa using this
 have:=List.all_eq_true.1 h o hm;rw[hd]at this;simpa using this
def sR(h:R w0 lab0 oo n V E a w):∀args:List Operand,ak (aL V E w) (args.map (ev V)) (args.map a.eval)
 |[]=>trivial
 |x::l=>⟨bm h x,sR h l⟩
def xK{op:Op}{f:Nat}{args:List Operand}(h:pY op=some (f,args)):∃arr ts,op=.call { callee:=.value (.func f),args:=arr,argTypes:=ts }/\arr.toList=args:=by
 unfold pY at h;split at h;·rename_i f' arr ts;injection h with h;injection h with e1 e2;subst e1;exact⟨arr,ts,rfl,e2⟩
 ·cases h
def xL{op:Op}{f:Nat}{args:List Operand}(h:pZ V op=some (f,args)):∃x arr ts,op=.call { callee:=.value x,args:=arr,argTypes:=ts }/\arr.toList=args/\ev V x=.c (.fn f []):=by
 unfold pZ at h;split at h
 ·rename_i x arr ts;split at h;·rename_i f' hf;injection h with h;injection h with e1 e2;subst e1;exact⟨x,arr,ts,rfl,e2,hf⟩
  ·cases h
 ·cases h
def xM(h:R w0 lab0 oo n V E a w){x:Operand}{f:Nat}(hx:ev V x=.c (.fn f [])):a.eval x=.func (.func f) #[] #[]:=by have:=bm h x;rw[hx]at this;exact this.1
def L6(hT:be P T)(h:R w0 lab0 oo n V E a w){o:Oper}(hn:p5 T V o.op=true):∃b,(execOp a.eval o).run P w=.ok (.value (.bool b)) w:=by
 obtain⟨dst,op,oty,pos,after,guard⟩:=o;simp only at hn;unfold p5 at hn;split at hn
 ·rename_i op t x y t';simp only[Bool.and_eq_true]at hn;obtain⟨hop,hn⟩:=hn;obtain⟨ti,A,m,c,ht,hel,hx,hy⟩:∃(ti:TI) (A:Option Addr) (m c:Nat),T t=some ti/\ti.el.isSome=true/\a.eval x=.slice A m c/\a.eval y=.slice none 0 0:=by
   split at hn;·rename_i ti _ _ _ _ ht hx hy;have rx:=bm h x;have ry:=bm h y;rw[hx]at rx;rw[hy]at ry;obtain⟨A,m,d,e,_⟩:=rx.c_inv;injection e with e;exact⟨ti,A,m,d,ht,hn,e,ry.c_inv⟩
   ·rename_i ti r ht hx hy;have rx:=bm h x;have ry:=bm h y;rw[hx]at rx;rw[hy]at ry;obtain⟨e,_,A,m,d,e'⟩:=rx.c_inv;exact⟨ti,A,m,d,ht,(by simp only[Bool.and_eq_true]at hn;exact hn.1),e.trans (e▸e'),ry.c_inv⟩
   ·cases hn
  obtain⟨e,he⟩:=Option.isSome_iff_exists.1 hel;have hu:=iV hT ht he;have heq:(Op.equal t (.slice A m c) (.slice none 0 0)).run P w=.ok A.isNone w:=by
   have key:∀d,(Op.equalIn (d+1) t (.slice A m c) (.slice none 0 0)).run P w=.ok A.isNone w:=λd=>by cases A<;>simp[Op.equalIn,run_underlying hu]
   exact key 9999
  have hguard:(eqGuard op t x y (.slice A m c) (.slice none 0 0)).run P w=.ok () w:=rZ (λu e=>by cases e) (λe=>by cases e);cases op<;>simp only[Cp]at hop<;>try contradiction
  ·refine⟨A.isNone, ?_⟩;simp only[execOp,hx,hy];rw[Sem.run_bind,Sem.run_bind,hguard];have:binOp .eql t (.slice A m c) (.slice none 0 0)=(do pure (.bool (<-Op.equal t (.slice A m c) (.slice none 0 0))):Sem Value):=rfl;simp[this,heq]
  ·refine⟨!A.isNone, ?_⟩;simp only[execOp,hx,hy];rw[Sem.run_bind,Sem.run_bind,hguard];have:binOp .neq t (.slice A m c) (.slice none 0 0)=(do pure (.bool (!(<-Op.equal t (.slice A m c) (.slice none 0 0)))):Sem Value):=rfl;simp[this,heq]
 ·cases hn
def Cw(hT:be P T)(hΓ:mI P w0 lab0 Γ)(h:R w0 lab0 oo n V E a w){o:Oper}(hd:∀d,o.dst=some d->d<n){K:St->Option J}{r:J}(hr:sO Γ T N o V K=some r){next:Act->World->Prop}{Q:Exit->Act->World->Prop}
  (hK:∀V' E' v w',K V'=some r->R w0 lab0 oo n V' E' (a.put o.dst v) w'->(gz Γ o=true->bS w w')->next (a.put o.dst v) w'):o.wp P a w next Q:=by
 unfold sO at hr;split at hr
 ·rename_i c x y hp;have hop:o.op=.pick c x y:=by
   obtain⟨dst,op,oty,pos,after,guard⟩:=o;simp only at hp ⊢;cases op<;>simp only[kZ]at hp<;>try contradiction
   injection hp with hp;injection hp with e1 e2;injection e2 with e2 e3;rw[e1,e2,e3]
  split at hr
  ·rename_i b hb;have hc:=bm h c;rw[hb]at hc;have hc:a.eval c=.bool b:=hc;have hrun:(execOp a.eval o).run P w=.ok (.value (if b then a.eval x else a.eval y)) w:=by simp[execOp,hop,hc,asBool]
   unfold Oper.wp;rw[hrun];cases b;·exact hK _ E _ w hr (h.iput hd (bm h y)) λ_=>bS.refl w
   ·exact hK _ E _ w hr (h.iput hd (bm h x)) λ_=>bS.refl w
  ·cases hr
 ·rename_i hnp;split at hr
  ·rename_i f args hcall;split at hr
   ·rename_i en hen;split at hr
    ·rename_i X hX;rw[qb]at hr;cases hpre:cq en.pre X;·rw[hpre]at hr;cases hr
     rw[hpre]at hr;simp only[cond_true,xF]at hr;have hG:en.G X=some (en.val X):=by unfold aQ.G;rw[hpre];rfl
     split at hr
     ·rename_i V' hout;obtain⟨hE,hfl⟩:=hΓ.g f en hen;obtain⟨x0,arr,ts,hop,harr,hx0⟩:=xL hcall;have hev:a.eval x0=.func (.func f) #[] #[]:=(xM h hx0);have hs:ak (aL V E w) (args.map (ev V)) (arr.map a.eval).toList:=by rw[Array.toList_map,harr];exact sR h args
      have hq:gz Γ o=true->ck en.sig.ps=true:=by
       intro hq;unfold gz at hq;split at hq;·rename_i f' args' hcs;obtain⟨arr',ts',hop',_⟩:=xK hcs;rw[hop]at hop';injection hop' with hop';injection hop' with e1 e2 e3;injection e1 with e1;subst e1;have hx0:SV.c (.fn f' [])=.c (.fn f []):=hx0;injection hx0 with hx0;injection hx0 with hx0;subst hx0;rw[hen]at hq;exact hq
       ·rw[hop]at hq;simp[kZ,ji]at hq
      have hrun:(execOp a.eval o).run P w=(callFunc f (arr.map a.eval)).run P w:=by simp[execOp,hop,resolve,hev,Deferred.ofValue,invoke]
      unfold Oper.wp;rw[hrun];rcases LQ hE h hs hX hG hd hfl hout with⟨h1,h2⟩|⟨v,w',h1,v',E',he,h2,h3⟩
      ·rw[h1,Oper.upon_enter];refine h2.mono ?_;rintro e w' ⟨v,E',rfl,h3,h4⟩
       exact hK V' E' v w' hr h3 λhqq=>h4 (hq hqq)
      ·injection he with he;subst he;rw[h1];exact hK V' E' v w' hr h2 λhqq=>h3 (hq hqq)
     ·cases hr
    ·cases hr
   ·rename_i hng;split at hr
    ·rename_i en hen;split at hr
     ·rename_i qs X hX;rw[qb]at hr;cases hpre:cq en.pre X;·rw[hpre]at hr;cases hr
      rw[hpre]at hr;simp only[cond_true,xF]at hr;split at hr
      ·rename_i V' hout;obtain⟨hE,hfl⟩:=hΓ.m f en hen;obtain⟨x0,arr,ts,hop,harr,hx0⟩:=xL hcall;have hev:a.eval x0=.func (.func f) #[] #[]:=(xM h hx0);have hs:ak (aL V E w) (args.map (ev V)) (arr.map a.eval).toList:=by rw[Array.toList_map,harr];exact sR h args
       have hq:gz Γ o=true->False:=by
        intro hq;unfold gz at hq;split at hq;·rename_i f' args' hcs;obtain⟨arr',ts',hop',_⟩:=xK hcs;rw[hop]at hop';injection hop' with hop';injection hop' with e1 e2 e3;injection e1 with e1;subst e1;have hx0:SV.c (.fn f' [])=.c (.fn f []):=hx0;injection hx0 with hx0;injection hx0 with hx0;subst hx0;rw[hng]at hq;cases hq
        ·rw[hop]at hq;simp[kZ,ji]at hq
       have hrun:(execOp a.eval o).run P w=(callFunc f (arr.map a.eval)).run P w:=by simp[execOp,hop,resolve,hev,Deferred.ofValue,invoke]
       unfold Oper.wp;rw[hrun];rcases LU hE h hs hX hpre hd hfl hout with⟨h1,h2⟩|⟨v,w',h1,v',E',he,h2⟩
       ·rw[h1,Oper.upon_enter];refine h2.mono ?_;rintro e w' ⟨v,E',rfl,h3⟩
        exact hK V' E' v w' hr h3 λhqq=>(hq hqq).elim
       ·injection he with he;subst he;rw[h1];exact hK V' E' v w' hr h2 λhqq=>(hq hqq).elim
      ·cases hr
     ·cases hr
    ·obtain⟨x0,arr,ts,hop,harr,hx0⟩:=xL hcall;have hev:a.eval x0=.func (.func f) #[] #[]:=(xM h hx0);have hs:ak (aL V E w) (args.map (ev V)) (arr.map a.eval).toList:=by rw[Array.toList_map,harr];exact sR h args
     have hq:gz Γ o=true->False:=by
      intro hq;unfold gz at hq;split at hq;·rename_i f' args' hcs;obtain⟨arr',ts',hop',_⟩:=xK hcs;rw[hop]at hop';injection hop' with hop';injection hop' with e1 e2 e3;injection e1 with e1;subst e1;have hx0:SV.c (.fn f' [])=.c (.fn f []):=hx0;injection hx0 with hx0;injection hx0 with hx0;subst hx0;rw[hng]at hq;cases hq
      ·rw[hop]at hq;simp[kZ,ji]at hq
     have hrun:(execOp a.eval o).run P w=(callFunc f (arr.map a.eval)).run P w:=by simp[execOp,hop,resolve,hev,Deferred.ofValue,invoke]
     have fin:∀V',K V'=some r->(dg P f (arr.map a.eval) w λe w'=>∃v E',e=.returned v/\R w0 lab0 oo n V' E' (a.put o.dst v) w')->o.wp P a w next Q:=by
      intro V' hr hcalls;unfold Oper.wp;rw[hrun];rcases hcalls with⟨h1,h2⟩|⟨v,w',h1,v',E',he,h2⟩
      ·rw[h1,Oper.upon_enter];refine h2.mono ?_;rintro e w' ⟨v,E',rfl,h3⟩
       exact hK V' E' v w' hr h3 λhqq=>(hq hqq).elim
      ·injection he with he;subst he;rw[h1];exact hK V' E' v w' hr h2 λhqq=>(hq hqq).elim
     split at hr
     ·rename_i en hen;split at hr
      ·rename_i qs X hX;rw[qb]at hr;cases hpre:cq en.pre X;·rw[hpre]at hr;cases hr
       rw[hpre]at hr;simp only[cond_true,xF]at hr;split at hr;·rename_i V' hout;obtain⟨hE,hfl⟩:=hΓ.v f en hen;exact fin V' hr (LY hE h hs hX hpre hd hfl hout)
       ·cases hr
      ·cases hr
     ·split at hr
      ·rename_i en hen;split at hr
       ·rename_i X hX;rw[qb]at hr;cases hpre:cq en.pre X;·rw[hpre]at hr;cases hr
        rw[hpre]at hr;simp only[cond_true]at hr;split at hr;·rename_i V' hout;exact fin V' hr (LZ (hΓ.n f en hen) h hs hX hpre hd hout)
        ·cases hr
       ·cases hr
      ·split at hr
       ·rename_i en hen;split at hr
        ·rename_i X hX;rw[qb]at hr;cases hpre:cq en.pre X;·rw[hpre]at hr;cases hr
         rw[hpre]at hr;simp only[cond_true]at hr;split at hr;·rename_i V' hout;exact fin V' hr (L4 (hΓ.s f en hen) h hs hX hpre hd hout)
         ·cases hr
        ·cases hr
       ·cases hr
  ·rename_i hnc;split at hr
   ·rename_i c s hv;rw[xD,xE,aD]at hr;cases c
    ·cases hne:p5 T V o.op;·rw[hne]at hr;cases hr
     ·rw[hne]at hr;obtain⟨q1,q2⟩:=Cn (show ce _ _=some r from hr);obtain⟨b,h1⟩:=L6 hT h hne;unfold Oper.wp;rw[h1];cases b;·exact hK _ E _ w q2 (h.iput hd rfl) λ_=>bS.refl w
      ·exact hK _ E _ w q1 (h.iput hd rfl) λ_=>bS.refl w
    ·have hr:K (fk V o.dst s)=some r:=by cases hne:p5 T V o.op<;>(rw[hne]at hr;exact hr)
     obtain⟨v,h1,h2⟩:=mm hT h hv rfl;unfold Oper.wp;rw[h1];exact hK _ E v w hr (h.iput hd h2) λ_=>bS.refl w
   ·rename_i hv;rw[bD.kL_eq]at hr;obtain⟨V',h1,h2⟩:=bD.k_run hr;have hnq:gz Γ o=true->mq o.op=true:=by intro hq;unfold so at h1;split at h1;all_goals first | (cases h1;done) | (rename_i he;rw[he];unfold gz at hq;rw[he]at hq;simp[pY,kZ,ji,mq]at hq ⊢;done) | (rename_i he _;rw[he];unfold gz at hq;rw[he]at hq;simp[pY,kZ,ji,mq]at hq ⊢;done)
    rcases Lx hT h hd h1 with⟨v,w',E',g1,gx,g2⟩|⟨w',E',g1,g2⟩;·unfold Oper.wp;rw[g1];exact hK V' E' v w' h2 g2 λhq=>gx (hnq hq)
    ·have hnm:mq o.op=false:=by
      cases hm:mq o.op;·rfl
      ·exfalso;unfold mq at hm;split at hm;·rename_i he;unfold execOp at g1;rw[he]at g1;simp only at g1;rw[Sem.run_bind]at g1;cases hX:(Instr.makeSlice _ _ _).run P w<;>rw[hX]at g1<;>simp[Result.andThen]at g1
       ·rename_i he;unfold execOp at g1;rw[he]at g1;simp only at g1;rw[Sem.run_bind]at g1;cases hX:(Instr.alloc _ _ _).run P w<;>rw[hX]at g1<;>simp[Result.andThen]at g1
       ·rename_i he;unfold execOp at g1;rw[he]at g1;simp only at g1;rw[Sem.run_bind]at g1;cases hX:(Instr.box _ _).run P w<;>rw[hX]at g1<;>simp[Result.andThen]at g1
       ·rename_i he;unfold execOp at g1;rw[he]at g1;simp only at g1;rw[Sem.run_bind]at g1;cases hX:(Instr.buildSlice _ _ _).run P w<;>rw[hX]at g1<;>simp[Result.andThen]at g1
       ·cases hm
     unfold Oper.wp;rw[g1];exact hK V' E' undef w' h2 g2 λhq=>by rw[hnm]at hnq;exact absurd (hnq hq) (by simp)
def R.seen(h:R w0 lab0 oo n V E a w){t:Nat}(ht:t<n){b:Bool}(hb:V.slot t=.c (.bool b)):R w0 lab0 oo n (V.put t (.c (.bool b))) E a w/\a.tmps[t]? = some (.bool b):=by
 have hs:=h.slots t;rw[hb]at hs;have hbd:=h.bound;have hv:dq oo a t=.bool b:=hs;unfold dq at hv;rw[if_pos (by omega)]at hv;have hlt:t<a.tmps.size:=by rw[h.size];exact ht
 have hget:a.tmps[t]? = some (.bool b):=by rw[Array.getD_eq_getD_getElem?,Array.getElem?_eq_getElem hlt]at hv;rw[Array.getElem?_eq_getElem hlt];exact congrArg some hv
 refine⟨?_,hget⟩;have:=h.put (d:=t) (s:=.c (.bool b)) (v:=.bool b) ht rfl;have e:a.put (some t) (.bool b)=a:=by
  unfold Act.put;have:a.tmps.setIfInBounds t (.bool b)=a.tmps:=by
   apply Array.ext_getElem?;intro i;rw[Array.getElem?_setIfInBounds];by_cases e:t=i;·subst e;rw[if_pos rfl,if_pos hlt,hget]
   ·rw[if_neg e]
  simp only[this]
 rwa [e]at this
def xN(h:R w0 lab0 oo n V E a w)(hops:mH n ops=true){i:Nat}{o:Oper}(ho:ops[i]? = some o){F K:St->Option J}{r:J}(hr:mG ops o V F K=some r){G:Prop}
  (hF:∀V',R w0 lab0 oo n V' E a w->F V'=some r->Region.wanted o (yielded ops a.tmps)=true->G)
  (hK:∀V',R w0 lab0 oo n V' E (a.put o.dst undef) w->K V'=some r->Region.wanted o (yielded ops a.tmps)=false->G):G:=by
 have hd:=gX hops ho;unfold mG at hr;split at hr;·rename_i hg;exact hF V h hr (by simp[Region.wanted,hg])
 ·rename_i j want hg;split at hr
  ·rename_i t ht;have htn:t<n:=by
    unfold xG at ht;split at ht;·rename_i oj hoj;exact gX hops hoj t ht
    ·cases ht
   have hbind:(ops[j]?).bind (·.dst)=some t:=by
    unfold xG at ht;split at ht;·rename_i oj hoj;rw[hoj];exact ht
    ·cases ht
   split at hr
   ·rename_i b hb;obtain⟨h1,h2⟩:=h.seen htn hb;have hy:yielded ops a.tmps j=some b:=by unfold yielded;rw[hbind];simp[h2]
    have hw:Region.wanted o (yielded ops a.tmps)=(b == want):=by unfold Region.wanted;rw[hg];simp only[hy];cases b<;>cases want<;>rfl
    cases b<;>cases want
    ·exact hF _ h1 hr (by rw[hw];rfl)
    ·exact hK _ (h1.iput (s:=.tup []) hd ⟨#[],rfl,trivial⟩) hr (by rw[hw];rfl)
    ·exact hK _ (h1.iput (s:=.tup []) hd ⟨#[],rfl,trivial⟩) hr (by rw[hw];rfl)
    ·exact hF _ h1 hr (by rw[hw];rfl)
   ·rename_i l hb;have hs:=h.slots t;rw[hb]at hs;obtain⟨arr,hv,_⟩:=hs;have hbd:=h.bound;unfold dq at hv;rw[if_pos (by omega)]at hv;have hlt:t<a.tmps.size:=by rw[h.size];exact htn
    have hy:yielded ops a.tmps j=none:=by unfold yielded;rw[hbind];rw[Array.getD_eq_getD_getElem?,Array.getElem?_eq_getElem hlt]at hv;have hv:a.tmps[t]=.tuple arr:=hv;simp[Array.getElem?_eq_getElem hlt,hv]
    exact hK _ (h.iput (s:=.tup []) hd ⟨#[],rfl,trivial⟩) hr (by unfold Region.wanted;rw[hg];simp[hy])
   ·cases hr
  ·cases hr
def L7(h:R w0 lab0 oo n V E a w)(hops:mH n ops=true){i:Nat}{o:Oper}(ho:ops[i]? = some o){F K:St->Option J}{r:J}(hr:mG ops o V F K=some r){G:Prop}
  (hF:∀V',R w0 lab0 oo n V' E a w->(o.guard=none->V'=V)->F V'=some r->Region.wanted o (yielded ops a.tmps)=true->G)
  (hK:∀V',R w0 lab0 oo n V' E (a.put o.dst undef) w->K V'=some r->Region.wanted o (yielded ops a.tmps)=false->G):G:=by
 cases hg:o.guard with
 |none =>unfold mG at hr;rw[hg]at hr;exact hF V h (λ_=>rfl) hr (by simp[Region.wanted,hg])
 |some q=>exact xN h hops ho hr (λV' h' hF' hw=>hF V' h' (λhn=>by rw[hg]at hn;cases hn) hF' hw) hK
def nX{i:Nat}{o:Oper}(ho:ops[i]? = some o){next:Act->World->Prop}{Q:Exit->Act->World->Prop}(hw:Region.wanted o (yielded ops a.tmps)=true)(h:o.wp P a w next Q):wpOp P ops Q i next a w:=by unfold wpOp;rw[ho];simp only[hw,if_true];exact .inl h
def Cx{i:Nat}{o:Oper}(ho:ops[i]? = some o){next:Act->World->Prop}{Q:Exit->Act->World->Prop}(hw:Region.wanted o (yielded ops a.tmps)=false)(h:next (a.put o.dst undef) w):wpOp P ops Q i next a w:=by unfold wpOp;rw[ho];simp only[hw];exact h
def L8(a:Act)(p:dz):Prop:=∀e k,p.el=some (e,k)->0<=k/\∃g m c,a.eval (.tmp p.d)=.slice (some ⟨g,0,none⟩) m c/\k<m/\a.eval (.tmp e)=.pointer (some ⟨g,k.toNat,none⟩)
def gY(V:St)(E:aP)(a:Act)(w:World)(pin:Option dz):Prop:=∀p,pin=some p->p.d<100000->(∃row,w7 V E w p.r p.i p.f row (a.eval (.tmp p.d)))/\L8 a p
def Cy(hT:be P T)(h:R w0 lab0 oo n V E a w){o:Oper}{p:dz}(hp:sN T V o=some p)(hd:∀d,o.dst=some d->d<n){c:Bool}{s:SV}(hv:cz T V o.op=some (c,s))(hc:c=true) :
  o.guard=none/\∃v,(execOp a.eval o).run P w=.ok (.value v) w/\aL V E w s v/\gY (fk V o.dst s) E (a.put o.dst v) w (some p):=by
 obtain⟨v,h1,h2⟩:=mm hT h hv hc;have hbd:=h.bound;obtain⟨dst,op,oty,pos,after,guard⟩:=o;unfold sN at hp;simp only at hp hd h1 ⊢;split at hp
 ·rename_i t x d;split at hp
  ·rename_i r i f hx;split at hp
   ·rename_i row ti hrow ht;cases hq:(row.deep&&(ti.el.isSome&&!ti.agg));·rw[hq]at hp;cases hp
    rw[hq]at hp;injection hp with hp;subst hp;simp only[Bool.and_eq_true,Bool.not_eq_true']at hq;refine⟨rfl,v,h1,h2,λp hp hlt=>?_⟩;injection hp with hp;subst hp;have hdn:=hd d rfl;have rx:=bm h x;rw[hx]at rx;obtain⟨row',g,m,c',e1,e2,e3,e4,e5,e6⟩:=rx.c_inv;rw[hrow]at e1;injection e1 with e1;subst e1;refine⟨⟨row,hrow,hq.1,e3,e4,g,m,c',e2, ?_⟩,λe k he=>by cases he⟩;have hev:(a.put (some d) v).eval (.tmp d)=v:=by show(a.tmps.setIfInBounds d v).getD d undef=v;rw[rU _ _ _ _ (by rw[h.size];exact hdn),if_pos rfl]
    rw[hev];have hagg:=Bs hT ht w;rw[hq.2.2]at hagg;simp only[execOp,e6]at h1;obtain⟨u,hcl⟩:∃u,w.cell? ⟨g,i.toNat*row.t.nc+f,none⟩=some u:=by
     have hal:kQ V (.elt r i f) 1=some (((dZ row.t (row.xs.getD i.toNat row.t.dflt) (cond row.deep (some r) none)).drop f).take 1):=by simp only[kQ,hrow];rw[show Nat.ble (f+1) row.t.nc=true from Nat.ble_eq_true_of_le (by omega)];rfl
     obtain⟨ad,vs,f',k1,k2,k3,_⟩:=v7 h hal rx.c_inv;rw[e6]at k1;injection k1 with k1;injection k1 with k1;exact⟨vs[f'],by rw[k1];exact k3 f' _ (List.getElem?_eq_getElem (by omega))⟩
    simp[Instr.loadAt,Instr.sureAddr,loadVar,hagg,hcl]at h1;rw[hcl,h1]
   ·cases hp
  ·cases hp
 ·cases hp
def Ma(hT:be P T)(hΓ:mI P w0 lab0 Γ)(h:R w0 lab0 oo n V E a w){o:Oper}(hd:∀d,o.dst=some d->d<n){p:dz}{f:Nat}{args:List Operand}(hcall:pZ V o.op=some (f,args))
  {en:aQ} (hen:Γ.g f=some en) (hio:p6 p.d (gU en.sig.ps args)=true) (hone:dQ en.sig.ps=true) (hpin:gY V E a w (some p)) {K:St->Option J}{r:J} (hr:Cs Γ N p f args o.dst V K=some r) {next:Act->World->Prop}{Q:Exit->Act->World->Prop}
  (hK:∀V' E' v w',K V'=some r->R w0 lab0 oo n V' E' (a.put o.dst v) w'->next (a.put o.dst v) w'):o.wp P a w next Q:=by
 cases hr
def Cz(hT:be P T)(h:R w0 lab0 oo n V E a w){o:Oper}{p:dz}{e:Nat}{k:Int}{t:Nat}{x:Operand}(hput:xC p o.op o.dst=some (e,k,t,x))(hpin:gY V E a w (some p)){K:St->Option J}{r:J}(hr:xH T p k t x V K=some r){next:Act->World->Prop}{Q:Exit->Act->World->Prop}
  (hK:∀V' E' v w',K V'=some r->R w0 lab0 oo n V' E' (a.put o.dst v) w'->next (a.put o.dst v) w'):o.wp P a w next Q:=by
 cases hr
def CA(hT:be P T)(h:R w0 lab0 oo n V E a w){o:Oper}{p p':dz}(hp:xA T V p o.op o.dst=some p')(hd:∀d,o.dst=some d->d<n)(hpin:gY V E a w (some p)){c:Bool}{s:SV}(hv:cz T V o.op=some (c,s))(hc:c=true) :
  ∃v,(execOp a.eval o).run P w=.ok (.value v) w/\aL V E w s v/\gY (fk V o.dst s) E (a.put o.dst v) w (some p'):=by
 cases hp
def nY(hT:be P T)(hΓ:mI P w0 lab0 Γ)(hops:mH n ops=true){Q:Exit->Act->World->Prop}{K:St->Option J}{r:J}
  (hK:∀V' E' a' w',K V'=some r->R w0 lab0 oo n V' E' a' w'->Q .normal a' w') :
  ∀(is:List Nat) {pin:Option dz}{V:St}{E:aP}{a:Act}{w:World},R w0 lab0 oo n V E a w->gY V E a w pin->k9 Γ T N ops is pin V K=some r->wpOps P ops Q is a w
 |[],pin,V,E,a,w,h,_,hr=>hK V E a w hr h
 |i::dV,pin,V,E,a,w,h,hpin,hr=>by
  have nopin:∀{V:St}{E:aP}{a:Act}{w:World},gY V E a w none:=λp hp=>by cases hp
  rw[wpOps_cons];simp only[k9]at hr;split at hr
  ·rename_i o ho;split at hr;·refine xN h hops ho hr (λV' h' hF hw=>nX ho hw ?_) (λV' h' hr' hw=>Cx ho hw (nY hT hΓ hops hK dV h' nopin hr'));exact Cw hT hΓ h' (gX hops ho) hF λσ2 E2 v w2 hr2 h2 _=>nY hT hΓ hops hK dV h2 nopin hr2
   ·rename_i p hm;split at hr
    ·rename_i c s hv;rw[xD,xE]at hr;cases c;·cases hr
     simp only[cond_true]at hr;obtain⟨hg,v,h1,h2,h3⟩:o.guard=none/\∃v,(execOp a.eval o).run P w=.ok (.value v) w/\aL V E w s v/\gY (fk V o.dst s) E (a.put o.dst v) w (some p):=by
      unfold sP at hm;split at hm;·rename_i p' hp';injection hm with hm;subst hm;exact Cy hT h hp' (gX hops ho) hv rfl
      ·split at hm;·cases hm
       ·rename_i p' ;split at hm;·cases hm
        ·rename_i hg;split at hm
         ·split at hm;·rename_i en _;cases hq:(p6 p'.d (gU en.sig.ps _)&&dQ en.sig.ps)<;>rw[hq]at hm<;>cases hm
          ·cases hm
         ·split at hm;·rename_i p2 hel;injection hm with hm;subst hm;obtain⟨v,h1,h2,h3⟩:=CA hT h hel (gX hops ho) hpin hv rfl;exact⟨hg,v,h1,h2,h3⟩
          split at hm;·cases hm
          cases hq:(ji o.op&&(jh p'.d o.dst&&k7 p' o.dst));·rw[hq]at hm;cases hm
          rw[hq]at hm;injection hm with hm;subst hm;simp only[Bool.and_eq_true]at hq;obtain⟨v,h1,h2⟩:=mm hT h hv rfl;refine⟨hg,v,h1,h2,λp hp hlt=>?_⟩;obtain⟨⟨row,k1,k2,k3,k4,k5⟩,hE⟩:=hpin p hp hlt;injection hp with hp;subst hp;have keep:∀z,jh z o.dst=true->(a.put o.dst v).eval (.tmp z)=a.eval (.tmp z):=by
           intro z hz;cases hdst:o.dst with
           |none=>rfl
           |some e =>
            have he:=gX hops ho e hdst;rw[hdst]at hz;show(a.tmps.setIfInBounds e v).getD z undef=a.tmps.getD z undef;rw[rU _ _ _ _ (by rw[h.size];exact he),if_neg];rintro rfl
            simp[jh]at hz
          refine⟨⟨row,⟨?_,k2,k3,k4, ?_⟩⟩,λe k he=>?_⟩;rotate_left 2
          ·obtain⟨q1,g,m,c,q2,q3,q4⟩:=hE e k he;refine⟨q1,g,m,c,by rw[keep _ hq.2.1];exact q2,q3, ?_⟩;rw[keep _ (by have:=hq.2.2;unfold k7 at this;rw[he]at this;exact this)];exact q4
          ·cases hdst:o.dst<;>exact k1
          ·rw[keep _ hq.2.1];exact k5
     refine nX ho (by simp[Region.wanted,hg]) ?_;unfold Oper.wp;rw[h1];exact nY hT hΓ hops hK dV (h.iput (gX hops ho) h2) h3 hr
    ·cases hr
   ·rename_i p f args hm;unfold sP at hm;split at hm;·cases hm
    ·split at hm;·cases hm
     ·rename_i p';split at hm;·cases hm
      ·rename_i hg;split at hm
       ·rename_i f' args' hcall;split at hm
        ·rename_i en hen;cases hq:(p6 p'.d (gU en.sig.ps args')&&dQ en.sig.ps);·rw[hq]at hm;cases hm
         rw[hq]at hm;injection hm with e1 e2 e3;subst e1 e2 e3;simp only[Bool.and_eq_true]at hq;refine nX ho (by simp[Region.wanted,hg]) ?_;exact Ma hT hΓ h (gX hops ho) hcall hen hq.1 hq.2 hpin hr λV' E' v w' hr' h'=>nY hT hΓ hops hK dV h' nopin hr'
        ·cases hm
       ·split at hm;·cases hm
        split at hm;·cases hm
        ·cases hq:(ji o.op&&(jh p'.d o.dst&&k7 p' o.dst))<;>rw[hq]at hm<;>cases hm
   ·rename_i p e k t x hm;unfold sP at hm;split at hm;·cases hm
    ·split at hm;·cases hm
     ·rename_i p';split at hm;·cases hm
      ·rename_i hg;split at hm
       ·split at hm;·rename_i en _;cases hq:(p6 p'.d (gU en.sig.ps _)&&dQ en.sig.ps)<;>rw[hq]at hm<;>cases hm
        ·cases hm
       ·split at hm;·cases hm
        split at hm;·rename_i e1 k1 t1 x1 hput;injection hm with q1 q2 q3 q4 q5;subst q1 q2 q3 q4 q5;refine nX ho (by simp[Region.wanted,hg]) ?_;exact Cz hT h hput hpin hr λV' E' v w' hr' h'=>nY hT hΓ hops hK dV h' nopin hr'
        ·cases hq:(ji o.op&&(jh p'.d o.dst&&k7 p' o.dst))<;>rw[hq]at hm<;>cases hm
  ·cases hr
def NP(Q:Exit->Act->World->Prop):Prop:=∀c a a' w,Q (.panic c) a w->Q (.panic c) a' w
def xO{f:Nat->Bool}{i:Nat}:∀{l:List Nat},sQ f l=some i->i∈l/\f i=true
 |[],h=>by cases h
 |j::l,h=>by
  simp only[sQ]at h;cases hb:f j;·rw[hb]at h;exact⟨List.mem_cons_of_mem _ (xO h).1,(xO h).2⟩
  ·rw[hb]at h;injection h with h;subst h;exact⟨List.mem_cons_self,hb⟩
def CB(hT:be P T)(h:R w0 lab0 oo n V E a w){o:Oper}{pin:Option dz}(hd:∀d,o.dst=some d->d<n)(hpin:o.guard=none->gY V E a w pin){c:Bool}{s:SV}(hv:cz T V o.op=some (c,s))(hc:c=true)
  {v:Value} (h1:(execOp a.eval o).run P w=.ok (.value v) w):gY (fk V o.dst s) E (a.put o.dst v) w (xI T V o pin):=by
 have nopin:∀{V:St}{E:aP}{a:Act}{w:World},gY V E a w none:=λp hp=>by cases hp
 have same:∀{v'},(execOp a.eval o).run P w=.ok (.value v') w->v'=v:=λ{v'} h2=>by rw[h1]at h2;injection h2 with h2;injection h2 with h2;exact h2.symm
 unfold xI;split;·rename_i p hp;obtain⟨_,v',k1,_,k2⟩:=Cy hT h hp hd hv hc;obtain rfl:=same k1;exact k2
 ·split
  ·rename_i p hg;have hpin:=hpin hg;split;·rename_i p' hp';obtain⟨v',k1,_,k2⟩:=CA hT h hp' hd hpin hv hc;obtain rfl:=same k1;exact k2
   ·cases hq:(jh p.d o.dst&&k7 p o.dst);·exact nopin
    ·simp only[Bool.and_eq_true]at hq;intro p' hp' hlt;injection hp' with hp';subst hp';obtain⟨⟨row,k1,k2,k3,k4,k5⟩,hE⟩:=hpin p rfl hlt;have keep:∀z,jh z o.dst=true->(a.put o.dst v).eval (.tmp z)=a.eval (.tmp z):=by
      intro z hz;cases hdst:o.dst with
      |none=>rfl
      |some e =>
       have he:=hd e hdst;rw[hdst]at hz;show(a.tmps.setIfInBounds e v).getD z undef=a.tmps.getD z undef;rw[rU _ _ _ _ (by rw[h.size];exact he),if_neg];rintro rfl
       simp[jh]at hz
     refine⟨⟨row,⟨?_,k2,k3,k4, ?_⟩⟩,λe k he=>?_⟩;·cases hdst:o.dst<;>exact k1
     ·rw[keep _ hq.1];exact k5
     ·obtain⟨q1,g,m,c,q2,q3,q4⟩:=hE e k he;refine⟨q1,g,m,c,by rw[keep _ hq.1];exact q2,q3, ?_⟩;rw[keep _ (by have:=hq.2;unfold k7 at this;rw[he]at this;exact this)];exact q4
  ·exact nopin
def lb(hT:be P T)(hΓ:mI P w0 lab0 Γ)(hops:mH n ops=true)(hsel:Region.noSelect ops=true){Q:Exit->Act->World->Prop}(hQ:NP Q){K:St->Option J}{r:J}
  (hK:∀V' E' a' w',K V'=some r->R w0 lab0 oo n V' E' a' w'->Q .normal a' w') :
  ∀(fuel:Nat) (listed:Array Bool) {pin:Option dz}{V:St}{E:aP}{a:Act}{w:World},iY ops listed->R w0 lab0 oo n V E a w->gY V E a w pin->kc Γ T N ops fuel listed pin V K=some r->gv P ops (la Γ ops) Q fuel listed a w
 |0,listed,pin,V,E,a,w,hcl,h,hpin,hr=>by
  simp only[kc]at hr;cases hq:(Region.ready .any ops listed).isEmpty;·rw[hq]at hr;cases hr
  ·rw[hq]at hr;exact⟨by simpa using hq,hK V E a w hr h⟩
 |fuel+1,listed,pin,V,E,a,w,hcl,h,hpin,hr=>by
  have nopin:∀{V:St}{E:aP}{a:Act}{w:World},gY V E a w none:=λp hp=>by cases hp
  simp only[kc]at hr;split at hr;·rename_i hre;exact LE hre (hK V E a w hr h) _
  ·rename_i i0 rs hre;split at hr
   ·rename_i i hi;obtain⟨hmem,hfs⟩:=xO hi;rw[<-hre]at hmem;split at hr
    ·rename_i o ho;obtain⟨hfree,hH⟩:Region.free .any ops listed i=true/\la Γ ops i=false:=by unfold Cu at hfs;rw[ho]at hfs;simp only[Bool.and_eq_true,Bool.not_eq_true']at hfs;exact⟨hfs.2.1,hfs.2.2⟩
     refine L7 h hops ho hr (λV' h' hsame hF hw=>?_) (λV' h' hr' hw=>?_)
     ·unfold Ct at hF;split at hF
      ·rename_i c s hv;rw[xD,xE]at hF;cases hso:wN o.op s;·rw[hso]at hF;cases hF
       ·rw[hso]at hF;cases c;·cases hF
        ·cases hpo:mr o.op;·obtain⟨v,h1,h2⟩:=Lz hT h' hv rfl hso;exact BU hH ho hpo hsel hcl hfree hmem (λc a' w' hq=>hQ c _ _ _ hq) (.inl ⟨hw,h1⟩) (lb hT hΓ hops hsel hQ hK fuel _ (hcl.put hmem) (h'.iput (gX hops ho) h2) (CB hT h' (gX hops ho) (λhg=>by have:=hsame hg;subst this;exact hpin) hv rfl (h1 w (bS.refl w))) hF)
         ·obtain⟨v,h1,h2⟩:=LA hT h' hv rfl hpo;exact BV ho hsel hfree hmem (λc a' w' hq=>hQ c _ _ _ hq) (.inl ⟨hw,λw' _=>h1 w'⟩) (lb hT hΓ hops hsel hQ hK fuel _ (hcl.put hmem) (h'.iput (gX hops ho) h2) (CB hT h' (gX hops ho) (λhg=>by have:=hsame hg;subst this;exact hpin) hv rfl (h1 w)) hF)
      ·cases hF
     ·cases hpo:mr o.op;·exact BU hH ho hpo hsel hcl hfree hmem (λc a' w' hq=>hQ c _ _ _ hq) (.inr ⟨hw,rfl⟩) (lb hT hΓ hops hsel hQ hK fuel _ (hcl.put hmem) h' nopin hr')
      ·exact BV ho hsel hfree hmem (λc a' w' hq=>hQ c _ _ _ hq) (.inr ⟨hw,rfl⟩) (lb hT hΓ hops hsel hQ hK fuel _ (hcl.put hmem) h' nopin hr')
    ·cases hr
   ·refine⟨(λhe=>by rw[hre]at he;cases he),λi hi=>?_⟩;rw[hre]at hi;have hr:=Co hr i hi;split at hr
    ·rename_i o ho;cases hq:(gz Γ o||jz ops (la Γ ops) i);·rw[hq]at hr;cases hr
     ·rw[hq]at hr;simp only[cond_true]at hr;have hext:∀{w'},(gz Γ o=true->bS w w')->jz ops (la Γ ops) i=false->bS w w':=λh1 h2=>h1 (by simpa[h2]using hq);split at hr
      ·rename_i p e k t x hput;cases hlb:jz ops (la Γ ops) i;·rw[hlb]at hr;cases hr
       rw[hlb]at hr;simp only[cond_true]at hr;unfold Cv at hput;split at hput
       ·rename_i p' hg;split at hput;·rename_i y hy;injection hput with hput;injection hput with q1 q2;subst q1 q2;refine nX ho (by simp[Region.wanted,hg]) ?_;exact Cz hT h hy hpin hr λV' E' v w' hr' h'=>⟨(λhlf=>by cases hlf),lb hT hΓ hops hsel hQ hK fuel _ (hcl.put (by rw[hre];exact hi)) h' nopin hr'⟩
        ·cases hput
       ·cases hput
      refine xN h hops ho hr (λV' h' hF hw=>nX ho hw ?_) (λV' h' hr' hw=>Cx ho hw ⟨λ_=>bS.refl w,lb hT hΓ hops hsel hQ hK fuel _ (hcl.put (by rw[hre];exact hi)) h' nopin hr'⟩);exact Cw hT hΓ h' (gX hops ho) hF λσ2 E2 v w2 hr2 h2 h3=>⟨hext h3,lb hT hΓ hops hsel hQ hK fuel _ (hcl.put (by rw[hre];exact hi)) h2 nopin hr2⟩
    ·cases hr
def Mb(hT:be P T)(hΓ:mI P w0 lab0 Γ)(hm:P.follows .mixedOrders=true)(hops:mH n ops=true){Q:Exit->Act->World->Prop}(hQ:NP Q){K:St->Option J}{r:J}{id:Nat}{draw:Bool}
  (hK:∀V' E' a' w',K V'=some r->R w0 lab0 oo n V' E' a' w'->Q .normal a' w') (h:R w0 lab0 oo n V E a w) (hr:xJ Γ T N ops draw V K=some r):(Code.region id ops draw).wp P Q a w:=by
 unfold xJ at hr;cases draw;·exact wp_region (nY hT hΓ hops hK _ h (λp hp=>by cases hp) hr)
 ·simp only[cond_true]at hr;cases hsel:Region.noSelect ops;·rw[hsel]at hr;cases hr
  ·rw[hsel]at hr;refine wp_region_any hm (BS _ _ _ _ (lb hT hΓ hops hsel hQ hK _ _ iY.none (h.ext ?_) (λp hp=>by cases hp) hr));exact⟨rfl,⟨rfl,λ_=>Nat.le_succ _⟩,rfl,Nat.le_refl _,λ_ _=>rfl⟩
end
def aA{α:Type}:List (Nat×α)->Nat->Option α
 |[],_=>none
 | (k,v)::l,t=>cond (Nat.beq t k) (some v) (aA l t)
structure fH where
 bx:Bool
 k:Nat
 i:Nat
structure qd where
 loc:fH
 nm:Nat
 e:Nat
 t:Ty
 deep:Bool
structure ab where
 slots:List Nat
 boxes:List Nat
 nils:List qd
 frz:List (fH×Nat×Ty)
 rows:List (fH×Nat)
def mJ(V:St)(l:fH):Option ai :=
 cond l.bx (match V.box l.k with
  |some (_,cs)=>cs[l.i]?
  |none=>none)
 (match V.slot l.k with
  |.c x=>cond (Nat.beq l.i 0) (some x) none
  |.agg cs=>cs[l.i]?
  |.tup _=>none)
def sS(V:St)(l:fH)(c:ai):St :=
 cond l.bx (match V.box l.k with
  |some (te,cs)=>⟨V.slot,au V.box l.k (some (te,cs.set l.i c)),V.row⟩
  |none=>V)
 (match V.slot l.k with
  |.c _=>V.put l.k (.c c)
  |.agg cs=>V.put l.k (.agg (cs.set l.i c))
  |.tup _=>V)
def xP(V:St)(d:qd):Option St:=match mJ V d.loc with
 |some .nil=>match V.row d.nm with
  |none=>some (sS (V.withRow (au V.row d.nm (some ⟨d.e,d.t,[],d.deep,true⟩))) d.loc (.own d.nm))
  |some _=>none
 |some (.own r)=>match V.row r with
  |some row=>match sm row d.deep with
   |some row'=>some { V with row:=au V.row r (some row') }
   |none=>some V
  |none=>some V
 |_=>some V
def sT:List qd->St->Option St
 |[],V=>some V
 |d::ds,V=>match xP V d with
  |some V'=>sT ds V'
  |none=>none
def xQ(V:St)(d:fH×Nat×Ty):Option St:=match mJ V d.1 with
 |some (.own r)=>absorb r none V
 |some .nil=>some (sS V d.1 (.sn d.2.1 d.2.2 [] none))
 |_=>some V
def sU:List (fH×Nat×Ty)->St->Option St
 |[],V=>some V
 |d::ds,V=>match xQ V d with
  |some V'=>sU ds V'
  |none=>none
def CC(V:St):List (fH×Nat)->Option (List (Nat×Nat))
 |[]=>some []
 | (l,q)::ls=>match mJ V l,CC V ls with
  |some (.own r),some m=>some ((r,q)::m)
  |_,_=>none
def iw(m:List (Nat×Nat))(f:Nat->ai)(r:Nat):ai:=match aA m r with
 |some q=>f q
 |none=>.undef
def fO(m:List (Nat×Nat))(bs:List Nat):ai->ai
 |.own r=>iw m .own r
 |.part r lo n=>iw m (λq=>.part q lo n) r
 |.elt r i f=>iw m (λq=>.elt q i f) r
 |.sn e t xs (some r)=>iw m (λq=>.sn e t xs (some q)) r
 |.full e t xs (some r)=>iw m (λq=>.full e t xs (some q)) r
 |.selt t x (some r) f=>iw m (λq=>.selt t x (some q) f) r
 |.box b f=>cond (bF b bs) (.box b f) .undef
 |.mp b=>cond (bF b bs) (.mp b) .undef
 |.fn f caps=>cond (caps.all λp=>bF p.1 bs) (.fn f caps) .undef
 |c=>c
def xR(q:Nat):Bool:=Nat.ble 1000000000 q
def mK(q:Nat)(row:ae):ae:=⟨row.e,row.t,row.xs,row.deep,xR q&&row.nilE⟩
def sV(V:St)(f:ai->ai):List Nat->Option (List (Nat×(Nat×List ai)))
 |[]=>some []
 |b::bs=>match V.box b,sV V f bs with
  |some (te,cs),some l=>some ((b,(te,cs.map f))::l)
  |_,_=>none
def nZ(V:St):List (Nat×Nat)->Option (List (Nat×ae))
 |[]=>some []
 | (r,q)::m=>match V.row r,nZ V m with
  |some row,some l=>some ((q,mK q row)::l)
  |_,_=>none
def fP(sl:List (Nat×SV))(t:Nat):SV:=match aA sl t with
 |some s=>s
 |none=>.c .undef
def af(sl:List (Nat×SV))(bx:List (Nat×(Nat×List ai)))(rw:List (Nat×ae)):St:=⟨fP sl,aA bx,aA rw⟩
def qe(V:St)(f:ai->ai):List Nat->List (Nat×SV)
 |[]=>[]
 |t::ts=>(t,(V.slot t).map f)::qe V f ts
def gZ(cl:ab)(V:St):Option St:=match(sT cl.nils V).bind (sU cl.frz)with
 |some σ1=>match CC σ1 cl.rows with
  |some m=>cond (dL (m.map (·.1))&&dL (m.map (·.2))) (match sV σ1 (fO m cl.boxes) cl.boxes,nZ σ1 m with
   |some bx,some rw=>some (af (qe σ1 (fO m cl.boxes) cl.slots) bx rw)
   |_,_=>none) none
  |none=>none
 |none=>none
section
variable {P : Program} {V V' : St} {E E' : aP} {w w' : World} {w0 : World} {lab0 : Nat → aC} {oo : Nat → Value} {n : Nat} {a : Act} [DC]
def R.reslot(h:R w0 lab0 oo n V E a w){t:Nat}{s:SV}(hs:∀v,aL V E w (V.slot t) v->aL V E w s v):R w0 lab0 oo n (V.put t s) E a w:=by
 have m:cI V E w (V.put t s) E w:=cI.same rfl rfl;refine⟨h.bound,h.size,h.defers,λt'=>?_,λb te cs hb=>?_,h.rows,h.same⟩
 ·by_cases e:t'=t;·subst e;show aL _ _ _ (au V.slot t' s t') _;rw[a6];exact(hs _ (h.slots t')).move m
  ·show aL _ _ _ (au V.slot t s t') _;rw[bi _ _ e];exact(h.slots t').move m
 ·obtain⟨arr,h1,h2,h3,h4⟩:=h.boxes b te cs hb;exact⟨arr,h1,h2,h3.imp λ_ _ h=>h.move m,h4⟩
def R.rebox(h:R w0 lab0 oo n V E a w){b te:Nat}{cs cs':List ai}(hb:V.box b=some (te,cs))(hl:cs'.length=cs.length)(hs:∀vs,ak (am V E w) cs vs->ak (am V E w) cs' vs) :
  R w0 lab0 oo n ⟨V.slot,au V.box b (some (te,cs')),V.row⟩ E a w:=by
 have m:cI V E w ⟨V.slot,au V.box b (some (te,cs')),V.row⟩ E w:=by
  refine⟨λr row h=>⟨row,h,rfl,rfl,Nat.le_refl _⟩,λb' te' cs0 hb'=>?_,λ_ _ _ h1 h2=>⟨h1,h2⟩,λ_ _ _ _ h=>h⟩;by_cases e:b'=b;·subst e;rw[hb]at hb';injection hb' with hb';injection hb' with e1 e2;subst e1 e2;exact⟨te,cs',a6 _ _ _,rfl,hl⟩
  ·exact⟨te',cs0,(bi _ _ e).trans hb',rfl,rfl⟩
 refine⟨h.bound,h.size,h.defers,λt'=>(h.slots t').move m,λb' te' cs0 hb'=>?_,h.rows,h.same⟩;by_cases e:b'=b;·subst e;have hb':au V.box b' (some (te,cs')) b'=some (te',cs0):=hb';rw[a6]at hb';injection hb' with hb';injection hb' with e1 e2;subst e1 e2;obtain⟨arr,h1,h2,h3,h4⟩:=h.boxes b' te cs hb;exact⟨arr,h1,h2,(hs _ h3).imp λ_ _ h=>h.move m,h4⟩
 ·have hb':au V.box b (some (te,cs')) b'=some (te',cs0):=hb';rw[bi _ _ e]at hb';obtain⟨arr,h1,h2,h3,h4⟩:=h.boxes b' te' cs0 hb';exact⟨arr,h1,h2,h3.imp λ_ _ h=>h.move m,h4⟩
def ak.reset{Q:ai->Value->Prop}{c c':ai}(hs:∀v,Q c v->Q c' v):∀{cs:List ai}{vs:List Value}{i:Nat},cs[i]? = some c->ak Q cs vs->ak Q (cs.set i c') vs
 |[],_,_,h,_=>by simp at h
 |x::cs,[],_,_,h=>h.elim
 |x::cs,v::vs,0,h,h2=>by simp at h;subst h;exact⟨hs _ h2.1,h2.2⟩
 |x::cs,v::vs,i+1,h,h2=>⟨h2.1,ak.reset hs (by simpa using h) h2.2⟩
def R.resetAt(h:R w0 lab0 oo n V E a w){l:fH}{c c':ai}(hc:mJ V l=some c)(hs:∀v,am V E w c v->am V E w c' v):R w0 lab0 oo n (sS V l c') E a w:=by
 obtain⟨bx,k,i⟩:=l;unfold mJ at hc;unfold sS;cases bx
 ·simp only[cond_false]at hc ⊢;split at hc
  ·rename_i x hx;cases hi:Nat.beq i 0;·rw[hi]at hc;cases hc
   ·rw[hi]at hc;injection hc with hc;subst hc;exact h.reslot λv hv=>by rw[hx]at hv;exact hs v hv
  ·rename_i cs hx;refine h.reslot λv hv=>?_;rw[hx]at hv;obtain⟨arr,e,hv⟩:=hv;exact⟨arr,e,hv.reset hs hc⟩
  ·cases hc
 ·simp only[cond_true]at hc ⊢;split at hc;·rename_i te cs hx;exact h.rebox hx (by simp) λvs hv=>hv.reset hs hc
  ·cases hc
def Mc(h:R w0 lab0 oo n V E a w){d:qd}(hr:xP V d=some V'):∃E',R w0 lab0 oo n V' E' a w:=by
 unfold xP at hr;split at hr
 ·rename_i hc;split at hr
  ·rename_i hfree;injection hr with hr;subst hr;have G:=h.nilRow (r:=d.nm) (e:=d.e) (t:=d.t) (deep:=d.deep) hfree;refine⟨_,R.resetAt (c:=.nil) G ?_ λv hv=>?_⟩;·exact hc
   ·obtain rfl:v=_:=hv;exact⟨(a6 _ _ _).symm,by show(au V.row d.nm _ d.nm).isSome=true;rw[a6];rfl,none,0,0,rfl⟩
  ·cases hr
 ·split at hr
  ·rename_i row hrow;split at hr;·rename_i row' hsh;injection hr with hr;subst hr;exact⟨E,(h.shal hrow hsh).2.2.2⟩
   ·injection hr with hr;subst hr;exact⟨E,h⟩
  ·injection hr with hr;subst hr;exact⟨E,h⟩
 ·injection hr with hr;subst hr;exact⟨E,h⟩
def CD:∀{ds:List qd}{V V':St}{E:aP},R w0 lab0 oo n V E a w->sT ds V=some V'->∃E',R w0 lab0 oo n V' E' a w
 |[],V,V',E,h,hr=>by injection hr with hr;subst hr;exact⟨E,h⟩
 |d::ds,V,V',E,h,hr=>by
  simp only[sT]at hr;split at hr;·rename_i σ1 h1;obtain⟨E1,g1⟩:=Mc h h1;exact CD g1 hr
  ·cases hr
def Md(h:R w0 lab0 oo n V E a w){d:fH×Nat×Ty}(hr:xQ V d=some V'):∃E',R w0 lab0 oo n V' E' a w:=by
 unfold xQ at hr;split at hr;·rename_i r hc;obtain⟨lab',g,_⟩:=R.absorbs (p:=none) (qs:=[r]) (V':=V') h (by simp[Fw.absorbs,hr]) (λ_ h=>by cases h);exact⟨_,g⟩
 ·rename_i hc;injection hr with hr;subst hr;exact⟨E,h.resetAt hc λv hv=>by obtain rfl:v=_:=hv;exact⟨none,0,0,rfl,rfl,Nat.le_refl _,Nat.zero_le _,.inl rfl⟩⟩
 ·injection hr with hr;subst hr;exact⟨E,h⟩
def CE:∀{ds:List (fH×Nat×Ty)}{V V':St}{E:aP},R w0 lab0 oo n V E a w->sU ds V=some V'->∃E',R w0 lab0 oo n V' E' a w
 |[],V,V',E,h,hr=>by injection hr with hr;subst hr;exact⟨E,h⟩
 |d::ds,V,V',E,h,hr=>by
  simp only[sU]at hr;split at hr;·rename_i σ1 h1;obtain⟨E1,g1⟩:=Md h h1;exact CE g1 hr
  ·cases hr
def n7(m:List (Nat×Nat)):aC->aC
 |.row r=>match aA m r with
  |some q=>.row q
  |none=>.dead
 |.inn r=>match aA m r with
  |some q=>.inn q
  |none=>.dead
 |l=>l
def CF{m:List (Nat×Nat)}{p p':Option Nat}(h:(p=none/\p'=none)\/∃r q,p=some r/\p'=some q/\aA m r=some q):n7 m (bB p)=bB p':=by
 rcases h with⟨rfl,rfl⟩|⟨r,q,rfl,rfl,h⟩;·rfl
 ·simp[bB,n7,h]
def R.ren(h:R w0 lab0 oo n V E a w){m:List (Nat×Nat)}{bs:List Nat}(hslot:∀t,V'.slot t=(V.slot t).map (fO m bs)\/V'.slot t=.c .undef)
  (hbox:∀b te cs,V'.box b=some (te,cs)->∃cs0,V.box b=some (te,cs0)/\cs=cs0.map (fO m bs))
  (hbox':∀b te cs,bF b bs=true->V.box b=some (te,cs)->V'.box b=some (te,cs.map (fO m bs)))
  (hrow:∀q row',V'.row q=some row'->∃r row,aA m r=some q/\V.row r=some row/\row'=mK q row)
  (hrow':∀r q row,aA m r=some q->V.row r=some row->V'.row q=some (mK q row))
  (inj:∀r r' q,aA m r=some q->aA m r'=some q->r=r'):∃E',R w0 lab0 oo n V' E' a w:=by
 classical
 let E':aP:=⟨λk=>n7 m (E.lab k),λq=>if hq:∃r,aA m r=some q then E.rv hq.choose else undef,E.bb⟩;have hrv:∀r q,aA m r=some q->E'.rv q=E.rv r:=by intro r q hq;have hex:∃r,aA m r=some q:=⟨r,hq⟩;show(if hq:∃r,aA m r=some q then E.rv hq.choose else undef)=_;rw[dif_pos hex,inj _ _ _ hex.choose_spec hq]
 have hlab:∀k,E'.lab k=n7 m (E.lab k):=λk=>rfl;have rd:∀{p p':Option Nat}{t:Ty}{cs:List Value}{x:t.den},((p=none/\p'=none)\/∃r q,p=some r/\p'=some q/\aA m r=some q)->Rd w (λk=>E.lab k=bB p) t cs x->Rd w (λk=>E'.lab k=bB p') t cs x:=by intro p p' t cs x hp hr;refine hr.mono λk hk=>?_;rw[hlab,hk];exact CF hp
 have selt:∀{p p':Option Nat}{t:Ty}{x:t.den}{f:Nat}{v:Value},((p=none/\p'=none)\/∃r q,p=some r/\p'=some q/\aA m r=some q)->am V E w (.selt t x p f) v->am V' E' w (.selt t x p' f) v:=by intro p p' t x f v hp hr;obtain⟨ad,cs,h1,h2,h3,h4,h5⟩:=hr;exact⟨ad,cs,h1,h2,by rw[hlab,h3];exact CF hp,rd hp h4,h5⟩
 have hc:∀c v,am V E w c v->am V' E' w (fO m bs c) v:=by
  intro c v hv;cases c with
  |undef=>trivial
  |int _ _=>exact hv
  |bool _=>exact hv
  |str _=>exact hv
  |err _=>exact hv
  |bor v0 e t xs=>exact⟨hv.1,rd (p:=none) (p':=none) (.inl ⟨rfl,rfl⟩) hv.2⟩
  |nil=>exact hv
  |sn e t xs p =>
   cases p with
   |none=>exact rd (p:=none) (p':=none) (.inl ⟨rfl,rfl⟩) hv
   |some r =>
    simp only[fO,iw];split;·rename_i q hq;exact rd (p:=some r) (p':=some q) (.inr ⟨r,q,rfl,rfl,hq⟩) hv
    ·trivial
  |full e t xs p =>
   cases p with
   |none=>exact⟨rd (p:=none) (p':=none) (.inl ⟨rfl,rfl⟩) hv.1,hv.2⟩
   |some r =>
    simp only[fO,iw];split;·rename_i q hq;exact⟨rd (p:=some r) (p':=some q) (.inr ⟨r,q,rfl,rfl,hq⟩) hv.1,hv.2⟩
    ·trivial
  |own r =>
   simp only[fO,iw];split;·rename_i q hq;obtain⟨rfl,h1,h2⟩:=hv;obtain⟨row,hr⟩:=Option.isSome_iff_exists.1 h1;exact⟨(hrv r q hq).symm,by rw[hrow' r q row hq hr];rfl,h2⟩
   ·trivial
  |part r lo n =>
   simp only[fO,iw];split;·rename_i q hq;obtain⟨row,A,c,h1,h2,h3,h4,h5,h6,h7,h8⟩:=hv;refine⟨mK q row,A,c,hrow' r q row hq h1,h2,h3,h4,h5,h6,h7,λhn=>?_⟩;rw[hrv r q hq];exact h8 hn
   ·trivial
  |box b f =>
   simp only[fO];cases hb:bF b bs;·trivial
   ·obtain⟨rfl,te,cs,h1,h2⟩:=hv;exact⟨rfl,te,_,hbox' b te cs hb h1,by simpa using h2⟩
  |mp b =>
   simp only[fO];cases hb:bF b bs;·trivial
   ·obtain⟨rfl,te,cs,h1⟩:=hv;exact⟨rfl,te,_,hbox' b te cs hb h1⟩
  |mset t xs=>exact hv
  |elt r i f =>
   simp only[fO,iw];split;·rename_i q hq;obtain⟨row,g,n,c,h1,h2,h3,h4,h5,h6⟩:=hv;exact⟨mK q row,g,n,c,hrow' r q row hq h1,by rw[hrv r q hq];exact h2,h3,h4,h5,h6⟩
   ·trivial
  |selt t x p f =>
   cases p with
   |none=>exact selt (p:=none) (p':=none) (.inl ⟨rfl,rfl⟩) hv
   |some r =>
    simp only[fO,iw];split;·rename_i q hq;exact selt (p:=some r) (p':=some q) (.inr ⟨r,q,rfl,rfl,hq⟩) hv
    ·trivial
  |fn f caps =>
   simp only[fO];cases hb:caps.all λp=>bF p.1 bs;·trivial
   ·obtain⟨rfl,hv⟩:=hv;refine⟨rfl,λp hp=>?_⟩;obtain⟨te,cs,h1,h2⟩:=hv p hp;exact⟨te,_,hbox' p.1 te cs (List.all_eq_true.1 hb p hp) h1,by simpa using h2⟩
 refine⟨E',h.bound,h.size,h.defers,λt=>?_,λb te cs hb=>?_,λq row' hq=>?_, ?_⟩
 ·rcases hslot t with e|e;·rw[e];exact(h.slots t).mapl hc
  ·rw[e];show aL V' E' w (.c .undef) (dq oo a t);exact True.intro
 ·obtain⟨cs0,h1,rfl⟩:=hbox b te cs hb;obtain⟨arr,k1,k2,k3,k4⟩:=h.boxes b te cs0 h1;exact⟨arr,k1,by rw[hlab,k2];rfl,k3.mapl hc,k4⟩
 ·obtain⟨r,row,h1,h2,rfl⟩:=hrow q row' hq;obtain⟨css,k1,k2,k3,k4⟩:=h.rows r row h2;rw[hrv r q h1];refine⟨css,k1,λk hk=>by rw[hlab,k2 k hk];simp[n7,h1], ?_,λh=>k4 (Bool.and_eq_true_iff.1 h).2⟩;show cond row.deep _ _;cases hd:row.deep;·rw[hd]at k3;exact ak.imp (λc y hy=>Rd.mono (λk hk=>(by rw[hlab,hk];rfl)) hy) (show ak (λc y=>Rd w (λk=>E.lab k=.st) row.t c y) css row.xs from k3)
  ·rw[hd]at k3;obtain⟨Ls,j1,j2,j3⟩:=k3;exact⟨Ls,j1,j2,λk hk=>by rw[hlab,j3 k hk];simp[n7,h1]⟩
 ·refine⟨h.same.os,h.same.tape,h.same.output,h.same.size,λk hk hl=>?_,λk hk hl=>?_⟩;·obtain⟨g1,g2⟩:=h.same.old k hk hl;exact⟨by rw[hlab,g1];rfl,g2⟩
  ·obtain⟨g1,g2⟩:=h.same.gone k hk hl;exact⟨by rw[hlab,g1];rfl,g2⟩
def n8{a b:Nat}:Nat.beq a b=true↔a=b:=⟨Nat.eq_of_beq_eq_true,λe=>by subst e;exact Nat.beq_refl a⟩
def ft{α:Type}:∀{l:List (Nat×α)}{t:Nat}{v:α},aA l t=some v->(t,v)∈l
 |[],_,_,h=>by cases h
 | (k,u)::l,t,v,h=>by
  simp only[aA]at h;cases hb:Nat.beq t k;·rw[hb]at h;exact List.mem_cons_of_mem _ (ft h)
  ·rw[hb]at h;injection h with h;rw[<-h,n8.1 hb];exact List.mem_cons_self
def CG{f:ai->ai}(t:Nat):∀ts:List Nat,aA (qe V f ts) t=some ((V.slot t).map f)\/aA (qe V f ts) t=none
 |[]=>.inr rfl
 |t'::ts=>by
  simp only[qe,aA];cases hb:Nat.beq t t';·exact CG t ts
  ·rw[n8.1 hb];exact .inl rfl
def xS{f:ai->ai}(b:Nat):∀{bs:List Nat}{l:List (Nat×(Nat×List ai))},sV V f bs=some l ->
  (∀te cs,aA l b=some (te,cs)->∃cs0,V.box b=some (te,cs0)/\cs=cs0.map f)/\(∀te cs,bF b bs=true->V.box b=some (te,cs)->aA l b=some (te,cs.map f))
 |[],l,h=>by injection h with h;subst h;exact⟨(λte cs h=>by cases h),λte cs h=>by cases h⟩
 |b'::bs,l,h=>by
  simp only[sV]at h;split at h
  ·rename_i te cs l' hb hl;injection h with h;subst h;obtain⟨g1,g2⟩:=xS b hl;simp only[aA,bF];cases hq:Nat.beq b b';·exact⟨g1,λte cs hm=>g2 te cs (by simpa using hm)⟩
   ·obtain rfl:=n8.1 hq;refine⟨λte' cs' h'=>?_,λte' cs' _ h'=>?_⟩;·simp only[cond_true,Option.some.injEq,Prod.mk.injEq]at h';obtain⟨rfl,rfl⟩:=h';exact⟨cs,hb,rfl⟩
    ·rw[hb]at h';injection h' with h';injection h' with e1 e2;rw[e1,e2];rfl
  ·cases h
def CH(q:Nat):∀{m:List (Nat×Nat)}{l:List (Nat×ae)},nZ V m=some l->∀row',aA l q=some row'->∃r row,(r,q)∈m/\V.row r=some row/\row'=mK q row
 |[],l,h,row',h'=>by injection h with h;subst h;cases h'
 | (r,q')::m,l,h,row',h'=>by
  simp only[nZ]at h;split at h
  ·rename_i row l' hr hl;injection h with h;subst h;simp only[aA]at h';cases hb:Nat.beq q q';·rw[hb]at h';obtain⟨r',row2,k1,k2,k3⟩:=CH q hl row' h';exact⟨r',row2,List.mem_cons_of_mem _ k1,k2,k3⟩
   ·rw[hb]at h';injection h' with h';obtain rfl:=n8.1 hb;exact⟨r,row,List.mem_cons_self,hr,h'.symm⟩
  ·cases h
def CI{r q:Nat}{row:ae}(hrow:V.row r=some row):∀{m:List (Nat×Nat)}{l:List (Nat×ae)},nZ V m=some l->(m.map (·.2)).Nodup->(r,q)∈m->aA l q=some (mK q row)
 |[],l,h,_,hm=>by cases hm
 | (r',q')::m,l,h,hn,hm=>by
  simp only[nZ]at h;split at h
  ·rename_i row' l' hr hl;injection h with h;subst h;simp only[aA];simp only[List.map_cons,List.nodup_cons]at hn;rcases List.mem_cons.1 hm with e|hm;·injection e with e1 e2;subst e1 e2;rw[hr]at hrow;injection hrow with hrow;rw[Nat.beq_refl,hrow];rfl
   ·have hne:Nat.beq q q'=false:=by
     cases hb:Nat.beq q q';·rfl
     ·exact absurd (List.mem_map.2 ⟨(r,q),hm,n8.1 hb⟩) hn.1
    rw[hne];exact CI hrow hl hn.2 hm
  ·cases h
def Me{m:List (Nat×Nat)}(h:(m.map (·.2)).Nodup){r r' q:Nat}(h1:(r,q)∈m)(h2:(r',q)∈m):r=r':=by
 induction m with
 |nil=>cases h1
 |cons p m ih =>
  simp only[List.map_cons,List.nodup_cons]at h;rcases List.mem_cons.1 h1 with e|h1
  ·rcases List.mem_cons.1 h2 with e'|h2;·rw[<-e]at e';injection e' with e' _;exact e'.symm
   ·exact absurd (List.mem_map.2 ⟨_,h2,by rw[<-e]⟩) h.1
  ·rcases List.mem_cons.1 h2 with e'|h2;·exact absurd (List.mem_map.2 ⟨_,h1,by rw[<-e']⟩) h.1
   ·exact ih h.2 h1 h2
def Mf{m:List (Nat×Nat)}{r q:Nat}(h:(r,q)∈m)(hn:(m.map (·.1)).Nodup):aA m r=some q:=by
 induction m with
 |nil=>cases h
 |cons p m ih =>
  obtain⟨k,u⟩:=p;simp only[List.map_cons,List.nodup_cons]at hn;simp only[aA];rcases List.mem_cons.1 h with e|h;·injection e with e1 e2;subst e1 e2;rw[Nat.beq_refl];rfl
  ·cases hb:Nat.beq r k;·exact ih h hn.2
   ·exact absurd (List.mem_map.2 ⟨_,h,n8.1 hb⟩) hn.1
def xT(h:R w0 lab0 oo n V E a w){cl:ab}(hr:gZ cl V=some V'):∃E',R w0 lab0 oo n V' E' a w:=by
 unfold gZ at hr;split at hr
 ·rename_i σ1 h1;obtain⟨σ2,h1,h2⟩:=Option.bind_eq_some_iff.1 h1;obtain⟨E2,G2⟩:=CD h h1;obtain⟨E1,G⟩:=CE G2 h2;split at hr
  ·rename_i m hm;cases hq:(dL (m.map (·.1))&&dL (m.map (·.2)))
   ·rw[hq]at hr;cases hr
   ·rw[hq]at hr;simp only[Bool.and_eq_true]at hq;simp only[cond_true]at hr;have n1:=iW hq.1;have n2:=iW hq.2;split at hr
    ·rename_i bx rw' hbx hrw;injection hr with hr;subst hr;refine G.ren (m:=m) (bs:=cl.boxes) (λt=>?_) (λb te cs hb=>?_) (λb te cs hm hb=>?_) (λq row' hq=>?_) (λr q row hl hrow=>?_) (λr r' q hl hl'=>?_)
     ·show fP _ t=_\/fP _ t=_;unfold fP;rcases CG (V:=σ1) (f:=fO m cl.boxes) t cl.slots with e|e;·rw[e];exact .inl rfl
      ·rw[e];exact .inr rfl
     ·exact(xS b hbx).1 te cs hb
     ·exact(xS b hbx).2 te cs hm hb
     ·obtain⟨r,row,k1,k2,k3⟩:=CH q hrw row' hq;exact⟨r,row,Mf k1 n1,k2,k3⟩
     ·exact CI hrow hrw n2 (ft hl)
     ·exact Me n2 (ft hl) (ft hl')
    ·cases hr
  ·cases hr
 ·cases hr
end
inductive Ex where
 |nrm
 |exit (id:Nat)
 |ret
def Mg:Ex->Exit
 |.nrm=>.normal
 |.exit id=>.exit id
 |.ret=>.ret
inductive cP where
 |n
 |mk (join:Option ab) (lp:Option ab) (a b:cP)
def cP.fst:cP->cP
 |.n=>.n
 |.mk _ _ a _=>a
def cP.snd:cP->cP
 |.n=>.n
 |.mk _ _ _ b=>b
def cP.join:cP->Option ab
 |.n=>none
 |.mk j _ _ _=>j
def cP.lp:cP->Option ab
 |.n=>none
 |.mk _ l _ _=>l
def sW:Option ab->St->Option St
 |none,V=>some V
 |some cl,V=>gZ cl V
def sX(V:St)(l:fH):Bool:=match mJ V l with
 |some (.own r)=>match V.row r with
  |some row=>row.nilE||Nat.blt 0 row.xs.length
  |none=>true
 |_=>true
def xU(V:St)(l:fH):St:=match mJ V l with
 |some (.own r)=>match V.row r with
  |some row=>⟨V.slot,V.box,au V.row r (some ⟨row.e,row.t,row.xs,row.deep,true⟩)⟩
  |none=>V
 |_=>V
def Mh:Option ab->List (fH×Nat)
 |none=>[]
 |some cl=>cl.rows
section
variable {J : Type}
def qf(F:St->Option J):List (fH×Nat)->St->Option J
 |[],V=>F V
 | (l,q)::ls,V=>cond (xR q) (cond (sX V l) (qf F ls (xU V l)) none) (qf F ls V)
abbrev ay(j:Option ab)(K:Ex->St->Option J):Ex->St->Option J
 |.nrm,V=>(sW j V).bind (K .nrm)
 |.exit i,V=>K (.exit i) V
 |.ret,V=>K .ret V
abbrev cA(F:St->Option J)(K:Ex->St->Option J):Ex->St->Option J
 |.nrm,V=>F V
 |.exit i,V=>K (.exit i) V
 |.ret,V=>K .ret V
abbrev qg(id:Nat)(K:Ex->St->Option J):Ex->St->Option J
 |.nrm,V=>K .nrm V
 |.exit i,V=>cond (Nat.beq i id) (K .nrm V) (K (.exit i) V)
 |.ret,V=>K .ret V
def cg(f:St->(Ex->St->Option J)->Option J)(cl:ab):Nat->St->(Ex->St->Option J)->Option J
 |0,_,_=>none
 |N+1,V,K=>f V (ay (some cl) (cA (λV''=>cg f cl N V'' K) K))
noncomputable def an(Γ:Gm)(T:bj)(B:Nat->Option ab)(N:Nat):Code->cP->St->(Ex->St->Option J)->Option J
 |.skip,_,V,K=>K .nrm V
 |.label _,_,V,K=>K .nrm V
 |.region _ ops draw,_,V,K=>xJ Γ T N ops draw V (K .nrm)
 |.seq a b,pl,V,K=>an Γ T B N a pl.fst V (ay pl.join (cA (λV'=>an Γ T B N b pl.snd V' K) K))
 |.cond c a b,pl,V,K=>match ev V c with
  |.c (.bool t)=>cond t (an Γ T B N a pl.fst V K) (an Γ T B N b pl.snd V K)
  |_=>none
 |.block id c,pl,V,K=>an Γ T B N c pl.fst V (ay pl.join (qg id K))
 |.loop c,pl,V,K=>match pl.lp with
  |some cl=>match pl.join with
   |none=>(gZ cl V).bind λσ0=>cg (λV K=>an Γ T B N c pl.fst V K) cl N σ0 K
   |some cl1=>(gZ cl1 V).bind λσ0=>an Γ T B N c pl.snd σ0 (ay (some cl) (cA (λV''=>cg (λV K=>an Γ T B N c pl.fst V K) cl N V'' K) K))
  |none=>none
 |.exit id,_,V,K=>(sW (B id) V).bind (K (.exit id))
 |.ret,_,V,K=>qf (λV=>(sW (B 1000000) V).bind (K .ret)) (Mh (B 1000000)) V
 |_,_,_,_=>none
end
def eT(n:Nat):Code->Bool
 |.region _ ops _=>mH n ops
 |.seq a b=>eT n a&&eT n b
 |.cond _ a b=>eT n a&&eT n b
 |.block _ c=>eT n c
 |.loop c=>eT n c
 |_=>true
section
variable {P : Program} {V V' : St} {E E' : aP} {w w' : World} {w0 : World} {lab0 : Nat → aC} {oo : Nat → Value} {n : Nat} {a : Act} {T : bj} {Γ : Gm} {J : Type} {B : Nat → Option ab} {N : Nat} [DC]
def xV{p:Nat->Prop}(h:∃n,p n):∃n,p n/\∀m,p m->n<=m:=by
 classical
 obtain⟨n,hn⟩:=h;induction n using Nat.strongRecOn with
 |_ n ih =>
  by_cases hex:∃m,m<n/\p m;·obtain⟨m,h1,h2⟩:=hex;exact ih m h1 h2
  ·exact⟨n,hn,λm hm=>Nat.le_of_not_lt λhlt=>hex ⟨m,hlt,hm⟩⟩
noncomputable def jj{p:Nat->Prop}(h:∃n,p n):Nat:=(xV h).choose
def Mi{p:Nat->Prop}(h:∃n,p n):p (jj h):=(xV h).choose_spec.1
def Mj{p:Nat->Prop}(h:∃n,p n){m:Nat}(hm:p m):jj h<=m:=(xV h).choose_spec.2 m hm
def xW(h:R w0 lab0 oo n V E a w){cl:Option ab}(hr:sW cl V=some V'):∃E',R w0 lab0 oo n V' E' a w:=by
 cases cl with
 |none =>injection hr with hr;subst hr;exact⟨E,h⟩
 |some cl=>exact xT h hr
def Mk(h:R w0 lab0 oo n V E a w){l:fH}(hc:sX V l=true):R w0 lab0 oo n (xU V l) E a w:=by
 have key:∀r row,V.row r=some row->(row.nilE||Nat.blt 0 row.xs.length)=true->R w0 lab0 oo n ⟨V.slot,V.box,au V.row r (some ⟨row.e,row.t,row.xs,row.deep,true⟩)⟩ E a w:=by
  intro r row hrow' hc;have m:cI V E w ⟨V.slot,V.box,au V.row r (some ⟨row.e,row.t,row.xs,row.deep,true⟩)⟩ E w:=by
   refine⟨λr' row1 h1=>?_,λb te cs hb=>⟨te,cs,hb,rfl,rfl⟩,λ_ _ _ h1 h2=>⟨h1,h2⟩,λ_ _ _ _ h=>h⟩;by_cases e:r'=r;·subst e;rw[hrow']at h1;injection h1 with h1;subst h1;exact⟨_,a6 _ _ _,rfl,rfl,Nat.le_refl _⟩
   ·exact⟨row1,(bi _ _ e).trans h1,rfl,rfl,Nat.le_refl _⟩
  refine⟨h.bound,h.size,h.defers,λt=>(h.slots t).move m,λb te cs hb=>?_,λr' row1 h1=>?_,h.same⟩;·obtain⟨arr,h1,h2,h3,h4⟩:=h.boxes b te cs hb;exact⟨arr,h1,h2,h3.imp λ_ _ h=>h.move m,h4⟩
  ·by_cases e:r'=r
   ·subst e;have h1':au V.row r' (some ⟨row.e,row.t,row.xs,row.deep,true⟩) r'=some row1:=h1;rw[a6]at h1';injection h1' with h1';subst h1';obtain⟨css,k1,k2,k3,k4⟩:=h.rows r' row hrow';refine⟨css,k1,k2,k3,λ_ hl=>?_⟩;have hl':row.xs.length=0:=hl;cases hn:row.nilE;·rw[hn,hl']at hc;cases hc
    ·exact k4 hn hl'
   ·have h1':au V.row r (some ⟨row.e,row.t,row.xs,row.deep,true⟩) r'=some row1:=h1;rw[bi _ _ e]at h1';exact h.rows r' row1 h1'
 unfold xU;split
 ·rename_i r hr;split;·rename_i row hrow;refine key r row hrow ?_;unfold sX at hc;rw[hr]at hc;simp only[hrow]at hc;exact hc
  ·exact h
 ·exact h
def xX{F:St->Option J}{r:J}:∀{ls:List (fH×Nat)}{V:St}{E:aP},R w0 lab0 oo n V E a w->qf F ls V=some r->∃V',R w0 lab0 oo n V' E a w/\F V'=some r
 |[],V,E,h,hr=>⟨V,h,hr⟩
 | (l,q)::ls,V,E,h,hr=>by
  simp only[qf]at hr;cases hq:xR q;·rw[hq]at hr;exact xX h hr
  ·rw[hq]at hr;cases hc:sX V l;·rw[hc]at hr;cases hr
   ·rw[hc]at hr;exact xX (Mk h hc) hr
def NP.then{Q:Exit->Act->World->Prop}(h:NP Q)(next:Act->World->Prop):NP (Exit.then next Q):=λc a a' w hq=>h c a a' w hq
def NP.block{Q:Exit->Act->World->Prop}(h:NP Q)(id:Nat):NP (Exit.inBlock id Q):=λc a a' w hq=>h c a a' w hq
def g0(w0:World)(lab0:Nat->aC)(oo:Nat->Value)(n:Nat)(K:Ex->St->Option J)(r:J)(Q:Exit->Act->World->Prop):Prop :=
 ∀e V' E' a' w',K e V'=some r->R w0 lab0 oo n V' E' a' w'->Q (Mg e) a' w'
def g0.join{K:Ex->St->Option J}{r:J}{Q:Exit->Act->World->Prop}(h:g0 w0 lab0 oo n K r Q)(j:Option ab):g0 w0 lab0 oo n (ay j K) r Q:=by
 intro e V' E' a' w' hr hR;cases e with
 |nrm =>obtain⟨σ2,h1,h2⟩:=Option.bind_eq_some_iff.1 hr;obtain⟨E2,g⟩:=xW hR h1;exact h .nrm σ2 E2 a' w' h2 g
 |exit i=>exact h (.exit i) V' E' a' w' hr hR
 |ret=>exact h .ret V' E' a' w' hr hR
def ix(hT:be P T)(hΓ:mI P w0 lab0 Γ)(hm:P.follows .mixedOrders=true):∀(c:Code) (pl:cP) {V:St}{E:aP}{a:Act}{w:World}{K:Ex->St->Option J}{r:J}{Q:Exit->Act->World->Prop},
  eT n c=true->R w0 lab0 oo n V E a w->an Γ T B N c pl V K=some r->NP Q->g0 w0 lab0 oo n K r Q->c.wp P Q a w
 |.skip,pl,V,E,a,w,K,r,Q,_,h,hr,_,hK=>wp_skip (hK .nrm V E a w hr h)
 |.label l,pl,V,E,a,w,K,r,Q,_,h,hr,_,hK=>wp_label (hK .nrm V E a w hr h)
 |.region id ops draw,pl,V,E,a,w,K,r,Q,hc,h,hr,hQ,hK=>Mb hT hΓ hm hc hQ (λV' E' a' w' hr' h'=>hK .nrm V' E' a' w' hr' h') h hr
 |.seq x y,pl,V,E,a,w,K,r,Q,hc,h,hr,hQ,hK=>by
  simp only[eT,Bool.and_eq_true]at hc;refine wp_seq (ix hT hΓ hm x pl.fst hc.1 h hr (hQ.then _) (g0.join ?_ _));intro e V' E' a' w' hr' h';cases e with
  |nrm=>exact ix hT hΓ hm y pl.snd hc.2 h' hr' hQ hK
  |exit i=>exact hK (.exit i) V' E' a' w' hr' h'
  |ret=>exact hK .ret V' E' a' w' hr' h'
 |.cond c x y,pl,V,E,a,w,K,r,Q,hc,h,hr,hQ,hK=>by
  simp only[eT,Bool.and_eq_true]at hc;simp only[an]at hr;split at hr
  ·rename_i t ht;have hv:=bm h c;rw[ht]at hv;cases t;·exact wp_cond_false hv (ix hT hΓ hm y pl.snd hc.2 h hr hQ hK)
   ·exact wp_cond_true hv (ix hT hΓ hm x pl.fst hc.1 h hr hQ hK)
  ·cases hr
 |.block id c,pl,V,E,a,w,K,r,Q,hc,h,hr,hQ,hK=>by
  refine wp_block (ix hT hΓ hm c pl.fst hc h hr (hQ.block id) (g0.join ?_ _));intro e V' E' a' w' hr' h';cases e with
  |nrm=>exact hK .nrm V' E' a' w' hr' h'
  |exit i =>
   show if i=id then Q .normal a' w' else Q (.exit i) a' w'
   simp only[qg]at hr';cases hb:Nat.beq i id;·rw[hb]at hr';rw[if_neg λe=>by subst e;rw[Nat.beq_refl]at hb;cases hb];exact hK (.exit i) V' E' a' w' hr' h'
   ·rw[hb]at hr';rw[if_pos (Nat.eq_of_beq_eq_true hb)];exact hK .nrm V' E' a' w' hr' h'
  |ret=>exact hK .ret V' E' a' w' hr' h'
 |.loop c,pl,V,E,a,w,K,r,Q,hc,h,hr,hQ,hK=>by
  simp only[an]at hr;split at hr
  ·rename_i cl hcl
   classical
   let F:Nat->St->Option J:=λM V=>cg (λV K=>an Γ T B N c pl.fst V K) cl M V K;let At:Nat->Act->World->Prop:=λM a w=>(∃V E,R w0 lab0 oo n V E a w/\F M V=some r) \/
    (M=N+1/\∃V E,R w0 lab0 oo n V E a w/\an Γ T B N c pl.snd V (ay (some cl) (cA (F N) K))=some r)
   have hstart:∃M,At M a w:=by
    split at hr;·obtain⟨σ0,h1,h2⟩:=Option.bind_eq_some_iff.1 hr;obtain⟨E0,g⟩:=xT h h1;exact⟨N,.inl ⟨σ0,E0,g,h2⟩⟩
    ·obtain⟨σ0,h1,h2⟩:=Option.bind_eq_some_iff.1 hr;obtain⟨E0,g⟩:=xT h h1;exact⟨N+1,.inr ⟨rfl,σ0,E0,g,h2⟩⟩
   refine wp_loop (I:=λa w=>∃M,At M a w) (μ:=λa w=>if hex:∃M,At M a w then jj hex else 0) hstart ?_;intro a w hI;have hμ:(if hex:∃M,At M a w then jj hex else 0)=jj hI:=dif_pos hI;simp only[hμ];have next:∀M V' E' a' w',M<jj hI->F M V'=some r->R w0 lab0 oo n V' E' a' w'->(∃M,At M a' w')/\(if hex:∃M,At M a' w' then jj hex else 0)<jj hI:=by intro M V' E' a' w' hM hr' h';have hA:At M a' w':=.inl ⟨V',E',h',hr'⟩;refine⟨⟨M,hA⟩, ?_⟩;have hμ':(if hex:∃M,At M a' w' then jj hex else 0)=jj (⟨M,hA⟩:∃M,At M a' w'):=dif_pos ⟨M,hA⟩;rw[hμ'];have:=Mj (⟨M,hA⟩:∃M,At M a' w') hA;omega
   rcases Mi hI with⟨σ1,E1,g1,hr1⟩|⟨hM,σ1,E1,g1,hr1⟩
   ·generalize hM:jj hI=M at hr1 next
    cases M with
    |zero=>cases hr1
    |succ M =>
     simp only[F,cg]at hr1;refine ix hT hΓ hm c pl.fst hc g1 hr1 (hQ.then _) (g0.join ?_ _);intro e V' E' a' w' hr' h';cases e with
     |nrm=>exact next M V' E' a' w' (Nat.lt_succ_self M) hr' h'
     |exit i=>exact hK (.exit i) V' E' a' w' hr' h'
     |ret=>exact hK .ret V' E' a' w' hr' h'
   ·refine ix hT hΓ hm c pl.snd hc g1 hr1 (hQ.then _) (g0.join ?_ _);intro e V' E' a' w' hr' h';cases e with
    |nrm=>exact next N V' E' a' w' (by omega) hr' h'
    |exit i=>exact hK (.exit i) V' E' a' w' hr' h'
    |ret=>exact hK .ret V' E' a' w' hr' h'
  ·cases hr
 |.exit id,pl,V,E,a,w,K,r,Q,_,h,hr,_,hK=>by obtain⟨σ2,h1,h2⟩:=Option.bind_eq_some_iff.1 hr;obtain⟨E2,g⟩:=xW h h1;exact wp_exit (hK (.exit id) σ2 E2 a w h2 g)
 |.ret,pl,V,E,a,w,K,r,Q,_,h,hr,_,hK=>by obtain⟨σ1,h,hr⟩:=xX h hr;obtain⟨σ2,h1,h2⟩:=Option.bind_eq_some_iff.1 hr;obtain⟨E2,g⟩:=xW h h1;exact wp_ret (hK .ret σ2 E2 a w h2 g)
 |.rangeFunc _ _ _ _,_,_,_,_,_,_,_,_,_,_,hr,_,_=>by cases hr
 |.scope _,_,_,_,_,_,_,_,_,_,_,hr,_,_=>by cases hr
 |.goto _,_,_,_,_,_,_,_,_,_,_,hr,_,_=>by cases hr
 |.refuse _,_,_,_,_,_,_,_,_,_,_,hr,_,_=>by cases hr
end
def lc(agg:Bool)(cs:List ai):SV:=match agg,cs with
 |true,cs=>.agg cs
 |false,[c]=>.c c
 |false,_=>.c .undef
def ge:(ps:List PT)->av ps->Nat->List (Nat×SV)×List (Nat×ae)
 |[],_,_=>([],[])
 |⟨t,agg,io⟩::ps,X,i=>match io with
  |false=>((i,lc agg (dZ t X.1 none))::(ge ps X.2 (i+1)).1,(ge ps X.2 (i+1)).2)
  |true=>match aK (100000+i) t X.1 0 with
   | (cs,rows,_)=>((i,lc agg cs)::(100000+i,lc agg cs)::(ge ps X.2 (i+1)).1,rows)
def bu(ps:List PT)(X:av ps):St:=af (ge ps X 0).1 [] (ge ps X 0).2
def jA(T:bj)(V:St):List ResultVar->Option (List SV)
 |[]=>some []
 |.tmp t::rs=>match jA T V rs with
  |some l=>some (ev V (.tmp t)::l)
  |none=>none
 |.cell x ty::rs=>match ev V (.tmp x),T ty,jA T V rs with
  |.c c,some i,some l=>match pF V c i.agg i.zero.length with
   |some s=>some (s::l)
   |none=>none
  |_,_,_=>none
def n9(look:Nat->Option ae):(rs:List PT)->List SV->Option (av rs)
 |[],[]=>some ()
 |p::ps,s::ss=>match gy p.agg s with
  |some cs=>ee (dJ look p.t cs) (n9 look ps ss)
  |none=>none
 |[],_::_=>none
 |_::_,[]=>none
def iy:List PT->List SV->List ai
 |p::ps,s::ss=>(match gy p.agg s with|some cs=>cs|none=>[])++iy ps ss
 |_,_=>[]
def qi(V:St):(ps:List PT)->Nat->Option (de ps)
 |[],_=>some ()
 |⟨t,agg,false⟩::ps,i=>qi V ps (i+1)
 |⟨t,agg,true⟩::ps,i=>match gy agg (V.slot (100000+i))with
  |some cs=>dJ V.row t cs
  |none=>none
def mL(V:St):(ps:List PT)->Nat->List ai
 |[],_=>[]
 |⟨t,agg,false⟩::ps,i=>mL V ps (i+1)
 |⟨t,agg,true⟩::ps,i=>match gy agg (V.slot (100000+i))with
  |some cs=>cs
  |none=>[]
def qj(look:Nat->Option ae):List ai->Bool
 |[.nil]=>true
 |[.own r]=>match look r with
  |some row=>row.nilE||Nat.blt 0 row.xs.length
  |none=>false
 |_=>false
def iz{α:Type}(look:Nat->Option ae):List PT->List SV->Option α->Option α
 |p::ps,s::ss,X=>cond p.io (match gy p.agg s with
  |some cs=>cond (qj look cs) (iz look ps ss X) none
  |none=>none) (iz look ps ss X)
 |[],_,X=>X
 |_::_,[],X=>X
def xY(look:Nat->Option ae):List PT->List SV->Prop
 |p::ps,s::ss=>(p.io=true->∀cs,gy p.agg s=some cs->qj look cs=true)/\xY look ps ss
 |[],_=>True
 |_::_,[]=>True
def qk{α:Type}{look:Nat->Option ae}{r:α}:∀{rs:List PT}{ss:List SV}{X:Option α},iz look rs ss X=some r->xY look rs ss/\X=some r
 |[],_,_,h=>⟨trivial,h⟩
 |_::_,[],_,h=>⟨trivial,h⟩
 |p::ps,s::ss,X,h=>by
  simp only[iz]at h;cases hio:p.io;·rw[hio]at h;obtain⟨h1,h2⟩:=qk (show iz look ps ss X=some r from h);exact⟨⟨(λhq=>by rw[hio]at hq;cases hq),h1⟩,h2⟩
  ·rw[hio]at h;simp only[cond_true]at h;split at h
   ·rename_i cs hcs;cases hq:qj look cs;·rw[hq]at h;cases h
    rw[hq]at h;obtain⟨h1,h2⟩:=qk (show iz look ps ss X=some r from h);exact⟨⟨λ_ cs' hcs'=>by rw[hcs]at hcs';injection hcs' with hcs';subst hcs';exact hq,h1⟩,h2⟩
   ·cases h
def sY(T:bj)(sig:ba)(rv:List ResultVar)(V:St):Option (de sig.ps×av sig.rs) :=
 match jA T V rv with
 |some ss=>cond (dL (aH (iy sig.rs ss++mL V sig.ps 0))) (iz V.row sig.rs ss (ee (qi V sig.ps 0) (n9 V.row sig.rs ss))) none
 |none=>none
def xZ(T:bj)(sig:ba)(rv:List ResultVar):Ex->St->Option (de sig.ps×av sig.rs)
 |.nrm,V=>sY T sig rv V
 |.ret,V=>sY T sig rv V
 |.exit _,_=>none
section
variable {P : Program} {V V' : St} {E E' : aP} {w w' : World} {w0 : World} {lab0 : Nat → aC} {oo : Nat → Value} {n : Nat} {a : Act} {T : bj} {Γ : Gm} {B : Nat → Option ab} {N : Nat} [DC]
def qn{agg:Bool}{cs:List ai}{us:List Value}{v:Value}(hc:gd agg v us)(h:ak (am V E w) cs us):aL V E w (lc agg cs) v:=by
 cases agg
 ·obtain rfl:us=[v]:=hc;cases cs with
  |nil=>exact True.intro
  |cons c cs=>cases cs with
   |nil=>exact h.1
   |cons _ _=>exact True.intro
 ·obtain⟨arr,rfl,rfl⟩:=hc;exact⟨arr,rfl,h⟩
def qo{α:Type}:∀{l l':List (Nat×α)}{t:Nat},aA (l++l') t=match aA l t with|some v=>some v|none=>aA l' t
 |[],_,_=>rfl
 | (k,v)::l,l',t=>by
  simp only[List.cons_append,aA];cases Nat.beq t k;·exact qo
  ·rfl
def ya(d:Nat)(t:Ty):∀(y:t.den) (j:Nat),∀p∈(aK d t y j).2.1,aA (aK d t y j).2.1 p.1=some p.2:=by
 induction t with
 |int k=>intro y j p hp;simp[aK]at hp
 |bool=>intro y j p hp;simp[aK]at hp
 |fnc g=>intro y j p hp;simp[aK]at hp
 |str=>intro y j p hp;simp[aK]at hp
 |err=>intro y j p hp;simp[aK]at hp
 |sl e t _ =>intro y j p hp;simp only[aK,List.mem_singleton]at hp;subst hp;simp[aK,aA]
 |pair t1 t2 ih1 ih2 =>
  intro y j p hp;simp only[aK,List.mem_append]at hp ⊢;rw[qo];rcases hp with hp|hp;·rw[ih1 _ _ p hp]
  ·cases hl:aA (aK d t1 y.1 j).2.1 p.1 with
   |none=>exact ih2 _ _ p hp
   |some v =>have h1:=(gS d).2 _ (ft hl);have h2:=(gS d).2 p hp;obtain⟨i1,_,a1,b1⟩:=h1;obtain⟨i2,a2,_,b2⟩:=h2;have:=mz (b1.symm.trans b2);exact absurd (Nat.lt_of_lt_of_le a1 a2) (by rw[this];exact Nat.lt_irrefl _)
def Ml{L:List Nat}:∀{ps:List PT}{vs:List Value}{X:av ps}{i:Nat},ej w L ps vs X->(ck ps=true->L=[])->dQ ps=true->L.Nodup ->
  ∃(f:Nat->aC) (rvf:Nat->Value),(∀k∈L,f k≠.st) /\
   ∀(V:St) (E:aP),(∀k,k∈L->E.lab k=f k)->(∀k,k∉L->E.lab k=.st)->E.rv=rvf->(∀r row,aA (ge ps X i).2 r=some row->V.row r=some row) ->
    (∀p∈(ge ps X i).1,∃j v,vs[j]? = some v/\(p.1=i+j\/p.1=100000+(i+j))/\aL V E w p.2 v) /\
    (∀r row,aA (ge ps X i).2 r=some row->bZ w E.lab r row (E.rv r)):=by
 intro ps;have ro:∀{p:PT}{v:Value}{x:p.t.den}{V:St}{E:aP},(∃cs,gd p.agg v cs/\Rd w (λk=>k∉L) p.t cs x)->(∀k,k∉L->E.lab k=.st)->aL V E w (lc p.agg (dZ p.t x none)) v:=by
  rintro p v x V E ⟨cs,h1,h2⟩ hl
  exact qn h1 (md (p:=none) (h2.mono λk hk=>hl k hk))
 have ros:∀{ps:List PT}{vs:List Value}{X:av ps}{i:Nat},ck ps=true->ej w L ps vs X->(ge ps X i).2=[]/\∀(V:St) (E:aP),(∀k,k∉L->E.lab k=.st)->∀p∈(ge ps X i).1,∃j v,vs[j]? = some v/\(p.1=i+j\/p.1=100000+(i+j))/\aL V E w p.2 v:=by
  intro ps;induction ps with
  |nil=>intro vs X i _ _;exact⟨rfl,λV E _ p hp=>by simp[ge]at hp⟩
  |cons p ps ih =>
   intro vs X i hn ha;cases vs with
   |nil=>exact ha.elim
   |cons v vs =>
    obtain⟨t,agg,io⟩:=p;simp only[ck,List.all_cons,Bool.and_eq_true,Bool.not_eq_true']at hn;obtain⟨hio,hn⟩:=hn;subst hio;obtain⟨h1,h2⟩:=ha;obtain⟨g1,g2⟩:=ih (i:=i+1) hn h2;refine⟨g1,λV E hl p hp=>?_⟩;rcases List.mem_cons.1 hp with rfl|hp;·exact⟨0,v,rfl,.inl rfl,ro (p:=⟨t,agg,false⟩) h1 hl⟩
    ·obtain⟨j,v',k1,k2,k3⟩:=g2 V E hl p hp;exact⟨j+1,v',(by simpa using k1),k2.elim (λe=>.inl (by omega)) (λe=>.inr (by omega)),k3⟩
 induction ps with
 |nil =>intro vs X i ha hn ho hL;have hL0:=hn rfl;subst hL0;refine⟨λ_=>.dead,λ_=>undef,(λk hk=>by cases hk),λV E _ _ _ _=>⟨λp hp=>by simp[ge]at hp,λr row hr=>by simp[ge,aA]at hr⟩⟩
 |cons p ps ih =>
  intro vs X i ha hn ho hL;cases vs with
  |nil=>exact ha.elim
  |cons v vs =>
   obtain⟨t,agg,io⟩:=p;obtain⟨h1,h2⟩:=ha;cases io
   ·obtain⟨f,rvf,k1,k2⟩:=ih (i:=i+1) h2 (λhq=>hn (by simpa[ck]using hq)) ho hL;refine⟨f,rvf,k1,λV E e1 e2 e3 e4=>?_⟩;obtain⟨g1,g2⟩:=k2 V E e1 e2 e3 e4;refine⟨λp hp=>?_,g2⟩;rcases List.mem_cons.1 hp with rfl|hp;·exact⟨0,v,rfl,.inl rfl,ro (p:=⟨t,agg,false⟩) h1 e2⟩
    ·obtain⟨j,v',k1,k2,k3⟩:=g1 p hp;exact⟨j+1,v',(by simpa using k1),k2.elim (λe=>.inl (by omega)) (λe=>.inr (by omega)),k3⟩
   ·obtain⟨cs,hcv,hown⟩:=h1;have hown:aB w t L cs X.1:=hown;obtain⟨f,rvf,k1,k2⟩:=mA (100000+i) (j:=0) hown hL;obtain⟨r1,r2⟩:=ros (i:=i+1) ho h2;have hrows:(ge (⟨t,agg,true⟩::ps) X i).2=(aK (100000+i) t X.1 0).2.1:=rfl;refine⟨f,rvf,λk hk=>?_,λV E e1 e2 e3 e4=>?_⟩;·obtain⟨i',_,_,hf⟩:=k1 k hk;rcases hf with hf|hf<;>rw[hf]<;>simp
    ·rw[hrows]at e4;have hmem:∀p∈(aK (100000+i) t X.1 0).2.1,aA (aK (100000+i) t X.1 0).2.1 p.1=some p.2:=ya _ _ _ _;obtain⟨g1,g2⟩:=k2 V E e1 (λp hp=>by rw[e3]) (λp hp=>e4 _ _ (hmem p hp));refine⟨λp hp=>?_,λr row hr=>?_⟩
     ·rcases List.mem_cons.1 hp with rfl|hp;·exact⟨0,v,rfl,.inl rfl,qn hcv g1⟩
      rcases List.mem_cons.1 hp with rfl|hp;·exact⟨0,v,rfl,.inr rfl,qn hcv g1⟩
      ·obtain⟨j,v',k1,k2,k3⟩:=r2 V E e2 p hp;exact⟨j+1,v',(by simpa using k1),k2.elim (λe=>.inl (by omega)) (λe=>.inr (by omega)),k3⟩
     ·rw[hrows]at hr;exact g2 (r,row) (ft hr)
def yb{sl:List (Nat×SV)}{σ0:St}{v:Value}{t:Nat}(h:∀p∈sl,p.1=t->aL σ0 E w p.2 v):aL σ0 E w (fP sl t) v:=by
 unfold fP;split;·rename_i s hs;exact h _ (ft hs) rfl
 ·exact(show am σ0 E w .undef v from True.intro)
def ke(ts:Array Value):ResultVar->Sem Value
 |.tmp t=>pure (ts.getD t undef)
 |.cell x t=>do loadVar t (<-asAddr (ts.getD x undef))
def Mm(fn:Func)(ts:Array Value):results fn ts=(do let vs <-fn.results.mapM (ke ts);pure (if h:vs.size=1 then vs[0]else .tuple vs)):=by
 unfold results;have:(λx:ResultVar=>match x with
  |.tmp t=>pure (ts.getD t undef)
  |.cell x t=>do loadVar t (<-asAddr (ts.getD x undef)))=ke ts:=by
  funext x;cases x<;>rfl
 rw[<-this];rfl
def qp(hT:be P T)(h:R w0 lab0 oo n V E a w):∀{rv:List ResultVar}{ss:List SV},jA T V rv=some ss ->
  ∃vs:List Value,ak (aL V E w) ss vs/\(rv.mapM (ke a.tmps)).run P w=.ok vs w:=by
 intro rv;induction rv with
 |nil =>intro ss hr;injection hr with hr;subst hr;exact⟨[],trivial,by simp⟩
 |cons r rv ih =>
  intro ss hr;cases r with
  |tmp t =>
   simp only[jA]at hr;split at hr;·rename_i l hl;injection hr with hr;subst hr;obtain⟨vs,h1,h3⟩:=ih hl;refine⟨a.eval (.tmp t)::vs,⟨bm h (.tmp t),h1⟩, ?_⟩;have h0:(ke a.tmps (.tmp t)).run P w=.ok (a.eval (.tmp t)) w:=rfl;rw[List.mapM_cons,Sem.run_bind,h0];show((do let bs <-rv.mapM (ke a.tmps);pure (a.eval (.tmp t)::bs)):Sem (List Value)).run P w=_;rw[Sem.run_bind,h3];rfl
   ·cases hr
  |cell x ty =>
   simp only[jA]at hr;split at hr
   ·rename_i c i l hc hi hl;split at hr
    ·rename_i s hs;injection hr with hr;subst hr;obtain⟨vs,h1,h3⟩:=ih hl;have hx:=bm h (.tmp x);rw[hc]at hx;obtain⟨v,g1,g2⟩:=v8 hT h hi hs hx;have g1:=g1 w (bS.refl w);have hx2:a.eval (.tmp x)=a.tmps.getD x undef:=rfl;rw[hx2]at g1;refine⟨v::vs,⟨g2,h1⟩, ?_⟩;have h0:(ke a.tmps (.cell x ty)).run P w=.ok v w:=by
      have ha:∃ad,a.tmps.getD x undef=.pointer (some ad):=by
       obtain⟨cs,hl',_⟩:∃cs,kQ V c i.zero.length=some cs/\True:=by
        unfold pF at hs;split at hs;·rename_i cs hcs;exact⟨cs,hcs,trivial⟩
        ·cases hs
       obtain⟨ad,vs',f,e,_⟩:=v7 h hl' (show am V E w c (a.tmps.getD x undef)from hx);exact⟨_,e⟩
      obtain⟨ad,ha⟩:=ha;show((do loadVar ty (<-asAddr (a.tmps.getD x undef)):Sem Value)).run P w=_;rw[ha]at g1 ⊢;exact g1
     rw[List.mapM_cons,Sem.run_bind,h0];show((do let bs <-rv.mapM (ke a.tmps);pure (v::bs)):Sem (List Value)).run P w=_;rw[Sem.run_bind,h3];rfl
    ·cases hr
   ·cases hr
def qq{fn:Func}{vs:List Value}(h:(fn.results.toList.mapM (ke a.tmps)).run P w=.ok vs w):∃v,(results fn a.tmps).run P w=.ok v w/\mv vs v:=by
 have h2:(fn.results.mapM (ke a.tmps)).run P w=.ok vs.toArray w:=by rw[show fn.results=fn.results.toList.toArray from by simp,List.mapM_toArray];simp[h]
 rw[Mm,Sem.run_bind,h2];match vs with
 |[]=>exact⟨.tuple #[],by simp,rfl⟩
 |[u]=>exact⟨u,by simp,rfl⟩
 |u::u'::vs=>exact⟨.tuple (u::u'::vs).toArray,by simp,rfl⟩
def Mn(h:R w0 lab0 oo n V E a w){io:Bool}{t:Ty}{cs:List ai}{us:List Value}{y:t.den}(hz:io=true->qj V.row cs=true)(hp:dJ V.row t cs=some y)(hc:ak (am V E w) cs us):wQ io t us y:=by
 cases t with
 |sl e t =>
  intro hio hl;have hz:=hz hio;rcases wh (show iU V.row e t cs=some y from hp)with⟨rfl,rfl⟩|⟨r,row,rfl,hr,rfl,hd,rfl,rfl⟩;·obtain⟨u,rfl,hu⟩:=cv hc;obtain rfl:u=_:=hu;rfl
  ·obtain⟨u,rfl,hu⟩:=cv hc;obtain⟨rfl,_⟩:=hu;obtain⟨css,_,_,_,h4⟩:=h.rows r row hr;have hl:row.xs.length=0:=hl;simp only[qj,hr,hl]at hz;rw[h4 (by simpa using hz) hl]
 |int k=>trivial
 |bool=>trivial
 |str=>trivial
 |err=>trivial
 |fnc g=>trivial
 |pair a b=>trivial
def sZ(h:R w0 lab0 oo n V E a w):∀{rs:List PT}{ss:List SV}{vs:List Value}{Y:av rs},n9 V.row rs ss=some Y->xY V.row rs ss->ak (aL V E w) ss vs->(aH (iy rs ss)).Nodup ->
  ∃Lr,mt w rs vs Y Lr/\Lr.Nodup/\∀k∈Lr,∃q∈aH (iy rs ss),dM E.lab q k
 |[],[],[],Y,_,_,_,_=>⟨[],rfl,List.nodup_nil,λk hk=>by cases hk⟩
 |p::ps,s::ss,v::vs,Y,hp,hz,hs,hn=>by
  simp only[n9]at hp;split at hp
  ·rename_i cs hcs;obtain⟨h1,h2⟩:=ef hp;obtain⟨us,k1,k2⟩:=mC hcs hs.1;have hcells:iy (p::ps) (s::ss)=cs++iy ps ss:=by simp[iy,hcs]
   rw[hcells,gP]at hn ⊢;obtain⟨n1,n2,n3⟩:=List.nodup_append.1 hn;obtain⟨L1,o1,o2,o3⟩:=gR h h1 k2 n1;obtain⟨L2,g1,g2,g3⟩:=sZ h h2 hz.2 hs.2 n2;refine⟨L1++L2,⟨us,L1,L2,rfl,k1,o1,Mn h (λhio=>hz.1 hio cs hcs) h1 k2,g1⟩,List.nodup_append.2 ⟨o2,g2,λx hx y hy e=>?_⟩,λk hk=>?_⟩;·subst e;obtain⟨q,q1,q2⟩:=o3 x hx;obtain⟨q',q1',q2'⟩:=g3 x hy;exact n3 q q1 q' q1' (jZ q2 q2')
   ·rcases List.mem_append.1 hk with hk|hk;·obtain⟨q,q1,q2⟩:=o3 k hk;exact⟨q,List.mem_append_left _ q1,q2⟩
    ·obtain⟨q,q1,q2⟩:=g3 k hk;exact⟨q,List.mem_append_right _ q1,q2⟩
  ·cases hp
 |[],[],_::_,_,_,_,hs,_=>hs.elim
 |[],_::_,_,_,hp,_,_,_=>by cases hp
 |_::_,[],_,_,hp,_,_,_=>by cases hp
 |_::_,_::_,[],_,_,_,hs,_=>hs.elim
def yc(h:R w0 lab0 oo n V E a w):∀{ps:List PT}{i:Nat}{vs:List Value}{y:de ps},qi V ps i=some y->vs.length=ps.length->(∀j v,vs[j]? = some v->oo (100000+(i+j))=v)->(aH (mL V ps i)).Nodup ->
  ∃L',kU w L' ps vs y/\L'.Nodup/\∀k∈L',∃q∈aH (mL V ps i),dM E.lab q k
 |[],i,vs,y,_,_,_,_=>⟨[],rfl,List.nodup_nil,λk hk=>by cases hk⟩
 |⟨t,agg,false⟩::ps,i,v::vs,y,hr,hl,hv,hn=>by obtain⟨L',g1,g2,g3⟩:=yc h (ps:=ps) (i:=i+1) (vs:=vs) (y:=y) hr (by simpa using hl) (λj v' hj=>by have:=hv (j+1) v' (by simpa using hj);rwa [show i+1+j=i+(j+1)from by omega]) hn;exact⟨L',g1,g2,g3⟩
 |⟨t,agg,true⟩::ps,i,v::vs,y,hr,hl,hv,hn=>by
  simp only[qi]at hr;simp only[mL]at hn ⊢;split at hr
  ·rename_i cs hcs;rw[hcs]at hn;simp only at hn ⊢;have hs:=h.slots (100000+i);have hval:dq oo a (100000+i)=v:=by unfold dq;rw[if_neg (by omega)];exact hv 0 v rfl
   rw[hval]at hs;obtain⟨us,k1,k2⟩:=mC hcs hs;obtain⟨L,o1,o2,o3⟩:=gR h hr k2 hn;exact⟨L,⟨us,k1,o1⟩,o2,o3⟩
  ·cases hr
 |_::_,_,[],_,_,hl,_,_=>by simp at hl
def ej.len{L:List Nat}:∀{ps:List PT}{vs:List Value}{X:av ps},ej w L ps vs X->vs.length=ps.length
 |[],[],_,_=>rfl
 |p::ps,v::vs,X,h=>by simp[ej.len h.2]
 |[],_::_,_,h=>h.elim
 |_::_,[],_,h=>h.elim
def Ty.bd:(t:Ty)->t.den->Prop
 |.sl _ t,xs=>xs.length<=maxLen/\∀x∈xs,t.bd x
 |.pair a b,x=>a.bd x.1/\b.bd x.2
 |.int _,_=>True
 |.bool,_=>True
 |.str,_=>True
 |.err,_=>True
 |.fnc _,_=>True
def CJ{α β:Type}{Q:α->β->Prop}{p:β->Prop}(hp:∀a b,Q a b->p b):∀{as:List α}{bs:List β},ak Q as bs->∀b∈bs,p b
 |[],[],_,_,hb=>by cases hb
 |_::_,_::_,h,b,hb=>by
  rcases List.mem_cons.1 hb with rfl|hb;·exact hp _ _ h.1
  ·exact CJ hp h.2 b hb
 |[],_::_,h,_,_=>h.elim
 |_::_,[],h,_,_=>h.elim
def Rd.bd{S:Nat->Prop}:∀{t:Ty}{cs:List Value}{x:t.den},Rd w S t cs x->t.bd x
 |.int _,_,_,_=>trivial
 |.bool,_,_,_=>trivial
 |.str,_,_,_=>trivial
 |.err,_,_,_=>trivial
 |.fnc _,_,_,_=>trivial
 |.pair a b,_,_,h=>by obtain⟨c1,c2,_,h1,h2⟩:=h;exact⟨h1.bd,h2.bd⟩
 |.sl e t,_,xs,h=>by
  obtain⟨A,n,c,_,h1,h2,h3,h4⟩:=h;refine⟨by omega,λx hx=>?_⟩;rcases h4 with rfl|⟨ad,css,_,_,h5,_⟩;·rw[List.eq_nil_of_length_eq_zero h1]at hx;cases hx
  ·exact CJ (p:=λx=>t.bd x) (λ_ _ hr=>hr.bd) h5 x hx
def aB.bd:∀{t:Ty}{L:List Nat}{cs:List Value}{x:t.den},aB w t L cs x->t.bd x:=λh=>(h.rd (S:=λ_=>True) λ_ _=>trivial).bd
def gA:(ps:List PT)->av ps->Prop
 |[],_=>True
 |p::ps,X=>p.t.bd X.1/\gA ps X.2
def ej.bd{L:List Nat}:∀{ps:List PT}{vs:List Value}{X:av ps},ej w L ps vs X->gA ps X
 |[],[],_,_=>trivial
 |p::ps,v::vs,X,h=>by
  refine⟨?_,h.2.bd⟩;obtain⟨cs,_,h1⟩:=h.1;cases hio:p.io;·rw[hio]at h1;exact Rd.bd h1
  ·rw[hio]at h1;exact aB.bd h1
 |[],_::_,_,h=>h.elim
 |_::_,[],_,h=>h.elim
theorem Mp [Inv P] {f : Nat} {fn : Func} {c : Code} {sig : ba} {pre : Option (av sig.ps → Bool)} {val : av sig.ps → de sig.ps × av sig.rs} {pl : cP} {je : Option ab} (hf : P.funcs[f]? = some fn) (hb : fn.body = some c) (hname : (fn.name == "runtime.NumGoroutine") = false)
  (hm:P.follows .mixedOrders=true) (hT:be P T) (hΓ:ao P Γ) (hc:eT fn.ntmps c=true) (hn:Nat.ble sig.ps.length fn.ntmps=true) (hn2:Nat.ble fn.ntmps 100000=true) (hone:dQ sig.ps=true)
  (hG:∀X,gA sig.ps X->cq pre X=true->∃N,an Γ T B N c pl (bu sig.ps X) (ay je (xZ T sig fn.results.toList))=some (val X)):aw P f ⟨sig,pre,val⟩:=by
 intro w args L X y Y ha hno hL hlt hg hI hBL;have hg:cond (cq pre X) (some (val X)) none=some (y,Y):=hg;obtain⟨N,hr⟩:∃N,an Γ T B N c pl (bu sig.ps X) (ay je (xZ T sig fn.results.toList))=some (y,Y):=by
  cases hp:cq pre X;·rw[hp]at hg;cases hg
  ·rw[hp]at hg;rw[<-hg];exact hG X ha.bd hp
 have hn:=Nat.le_of_ble_eq_true hn;have hn2:=Nat.le_of_ble_eq_true hn2;have hlen:args.size=sig.ps.length:=by have:=ej.len ha;simpa using this
 refine .inl ⟨?_, ?_⟩
 ·have h1 : ¬ fn.name = "runtime.NumGoroutine" := by simpa using hname
  have h2:¬ fn.body=none:=by rw[hb];simp
  simp[callFunc,hf,h1,h2]
 obtain⟨f0,rvf,k1,k2⟩:=Ml (i:=0) ha hno hone hL
 classical
 let lab0:Nat->aC:=λk=>if k∈L then f0 k else .st
 let E:aP:=⟨lab0,rvf,λ_=>0⟩;let oo:Nat->Value:=λt=>args.getD (t-100000) undef;have hlab1:∀k,k∈L->E.lab k=f0 k:=λk hk=>if_pos hk;have hlab2:∀k,k∉L->E.lab k=.st:=λk hk=>if_neg hk;obtain⟨g1,g2⟩:=k2 (bu sig.ps X) E hlab1 hlab2 rfl (λr row h=>h);have hsz:(args++Array.replicate (fn.ntmps-args.size) undef).size=fn.ntmps:=by rw[Array.size_append,Array.size_replicate];omega
 have hR:R w lab0 oo fn.ntmps (bu sig.ps X) E { tmps:=args++Array.replicate (fn.ntmps-args.size) undef,defers:=[] } w:=by
  refine⟨hn2,hsz,rfl,λt=>?_,λb te cs hb=>?_,λr row hr=>g2 r row hr,⟨rfl,⟨rfl,λ_=>Nat.le_refl _⟩,rfl,Nat.le_refl _,λk hk hl=>⟨hl,rfl⟩,λk hk hl=>⟨hl,rfl⟩⟩⟩
  ·show aL _ E w (fP (ge sig.ps X 0).1 t) _;refine yb λp hp e=>?_;obtain⟨j,v,j1,j2,j3⟩:=g1 p hp;have hj:j<args.size:=by have:=(List.getElem?_eq_some_iff.1 j1).1;simpa using this
   have hval:dq oo { tmps:=args++Array.replicate (fn.ntmps-args.size) undef,defers:=[] } t=v:=by
    subst e;unfold dq;rcases j2 with j2|j2
    ·rw[if_pos (by omega),j2];simp only[Nat.zero_add,Array.getD_eq_getD_getElem?];rw[Array.getElem?_append_left hj];have:args[j]? = some v:=by simpa using j1
     rw[this];rfl
    ·rw[if_neg (by omega),j2];show args.getD (100000+(0+j)-100000) undef=v;rw[show 100000+(0+j)-100000=j from by omega,Array.getD_eq_getD_getElem?];have:args[j]? = some v:=by simpa using j1
     rw[this];rfl
   rw[hval];exact j3
  ·cases hb
 have hend:∀V' E' a' w',sY T sig fn.results.toList V'=some (y,Y)->R w lab0 oo fn.ntmps V' E' a' w'->a'.defers=[]/\∃v,(results fn a'.tmps).run P w'=.ok v w' /\
   ∃vs L' Lr,Ending.returned v=Ending.returned v/\nM w sig args.toList L y Y v w' vs L' Lr:=by
  intro V' E' a' w' hfin h';refine⟨h'.defers, ?_⟩;unfold sY at hfin;split at hfin
  ·rename_i ss hss;cases hq:dL (aH (iy sig.rs ss++mL V' sig.ps 0));·rw[hq]at hfin;cases hfin
   rw[hq]at hfin;obtain⟨hz,hfin⟩:=qk (show iz V'.row sig.rs ss _=some (y,Y)from hfin);obtain⟨p1,p2⟩:=ef (z:=(y,Y)) hfin;have hnd:=iW hq;rw[gP]at hnd;obtain⟨n1,n2,n3⟩:=List.nodup_append.1 hnd;obtain⟨vs,v1,v2⟩:=qp hT h' hss;obtain⟨v,r1,r2⟩:=qq v2;obtain⟨Lr,l1,l2,l3⟩:=sZ h' p2 hz v1 n1;obtain⟨L',m1,m2,m3⟩:=yc h' (vs:=args.toList) p1 (ej.len ha) (λj u hu=>by
    show args.getD (100000+(0+j)-100000) undef=u;rw[show 100000+(0+j)-100000=j from by omega,Array.getD_eq_getD_getElem?];have:args[j]? = some u:=by simpa using hu
    rw[this];rfl) n2
   have hold:∀k q,dM E'.lab q k->k∈L\/w.heap.size<=k:=by
    intro k q hk;by_cases h1:k∈L;·exact .inl h1
    ·refine .inr (Nat.le_of_not_lt λhlt=>?_);have:=(h'.same.old k hlt (hlab2 k h1)).1;rcases hk with hk|hk<;>rw[this]at hk<;>cases hk
   refine⟨v,r1,vs,L',Lr,rfl,r2,l1,m1,List.nodup_append.2 ⟨l2,m2,λx hx z hz e=>?_⟩,λk hk=>?_,λk hk=>?_,h'.same.os,h'.same.tape,h'.same.output,h'.same.size,λk hk hkL=>(h'.same.old k hk (hlab2 k hkL)).2⟩;·subst e;obtain⟨q,q1,q2⟩:=l3 x hx;obtain⟨q',q1',q2'⟩:=m3 x hz;exact n3 q q1 q' q1' (jZ q2 q2')
   ·obtain⟨q,q1,q2⟩:=l3 k hk;exact hold k q q2
   ·obtain⟨q,q1,q2⟩:=m3 k hk;exact hold k q q2
  ·cases hfin
 refine calls_of_wp hf hb (ix hT (hΓ.at hI λk hk=>hlab2 k λhl=>hBL k hl hk) hm c pl hc hR hr ?_ (g0.join ?_ _));·intro ch a a' w' hq;obtain⟨_,v,vs,L',Lr,he,_⟩:=hq;cases he
 ·intro e V' E' a' w' hr' h';cases e with
  |nrm =>obtain⟨d1,v,d2,vs,L',Lr,d3,d4⟩:=hend V' E' a' w' hr' h';exact⟨d1,v,d2,v,vs,L',Lr,rfl,d4⟩
  |ret =>obtain⟨d1,v,d2,vs,L',Lr,d3,d4⟩:=hend V' E' a' w' hr' h';exact⟨d1,v,d2,v,vs,L',Lr,rfl,d4⟩
  |exit i=>cases hr'
end
def b8:(ps:List PT)->av ps->Nat->Nat->List (Nat×SV)×List (Nat×ae)
 |[],_,_,_=>([],[])
 |⟨t,agg,false⟩::ps,X,i,j=>((i,lc agg (dZ t X.1 none))::(b8 ps X.2 (i+1) j).1,(b8 ps X.2 (i+1) j).2)
 |⟨t,agg,true⟩::ps,X,i,j=>match aK 100000 t X.1 j with
  | (cs,rows,j1)=>((i,lc agg cs)::(b8 ps X.2 (i+1) j1).1,rows++(b8 ps X.2 (i+1) j1).2)
def fu:(rf:Rf)->(ps:List PT)->cL rf×av ps->St
 |none,ps,X=>af (b8 ps X.2 0 0).1 [] (b8 ps X.2 0 0).2
 |some p,ps,X=>match aK 100000 p.2 X.1 0 with
  | (cs,rows,j1)=>af ((0,.c (.box 100000 0))::(100000,.c (.box 100000 0))::(b8 ps X.2 1 j1).1) [(100000,(p.1,cs))] (rows++(b8 ps X.2 1 j1).2)
def s0(V:St):Rf->Option (List ai)
 |none=>some []
 |some p=>match V.box 100000 with
  |some (te,cs)=>cond (Nat.beq te p.1) (some cs) none
  |none=>none
def oa(V:St):Rf->Bool
 |none=>true
 |some _=>match V.slot 100000 with
  |.c (.box 100000 0)=>true
  |_=>false
def s4(T:bj)(rf:Rf)(rs:List PT)(rv:List ResultVar)(V:St):Option (cL rf×av rs) :=
 match jA T V rv,s0 V rf with
 |some ss,some cs=>cond (oa V rf&&dL (aH (iy rs ss++cs))) (iz V.row rs ss (ee (Ca V.row rf cs) (n9 V.row rs ss))) none
 |_,_=>none
def CK(T:bj)(rf:Rf)(rs:List PT)(rv:List ResultVar):Ex->St->Option (cL rf×av rs)
 |.nrm,V=>s4 T rf rs rv V
 |.ret,V=>s4 T rf rs rv V
 |.exit _,_=>none
def ld:Rf->List PT->Nat
 |none,ps=>ps.length
 |some _,ps=>ps.length+1
def yd:(rf:Rf)->cL rf->Prop
 |none,_=>True
 |some p,x=>p.2.bd x
section
variable {P : Program} {V V' : St} {E E' : aP} {w w' : World} {w0 : World} {lab0 : Nat → aC} {oo : Nat → Value} {n : Nat} {a : Act} {T : bj} {Γ : Gm} {B : Nat → Option ab} {N : Nat} [DC]
def dN.len{S:Nat->Prop}:∀{ps:List PT}{vs:List Value}{X:av ps}{L:List Nat},dN w S ps vs X L->vs.length=ps.length
 |[],[],_,_,_=>rfl
 |p::ps,v::vs,X,L,h=>by obtain⟨_,_,_,_,_,_,h⟩:=h;simp[dN.len h]
 |[],_::_,_,_,h=>h.elim
 |_::_,[],_,_,h=>h.elim
def dN.bd{S:Nat->Prop}:∀{ps:List PT}{vs:List Value}{X:av ps}{L:List Nat},dN w S ps vs X L->gA ps X
 |[],[],_,_,_=>trivial
 |p::ps,v::vs,X,L,h=>by
  obtain⟨cs,L1,L2,_,_,h1,h2⟩:=h;refine⟨?_,h2.bd⟩;cases hio:p.io;·rw[hio]at h1;exact Rd.bd h1.2
  ·rw[hio]at h1;exact aB.bd h1
 |[],_::_,_,_,h=>h.elim
 |_::_,[],_,_,h=>h.elim
def ye{ps:List PT}:∀{X:av ps}{i j:Nat},∀p∈(b8 ps X i j).2,∃q,j<=q/\p.1=aW 100000 q:=by
 induction ps with
 |nil=>intro X i j p hp;simp[b8]at hp
 |cons p0 ps ih =>
  intro X i j p hp;obtain⟨t,agg,io⟩:=p0;cases io;·exact ih (X:=X.2) p hp
  ·simp only[b8,List.mem_append]at hp;rcases hp with hp|hp;·obtain⟨q,q1,_,q2⟩:=(gS 100000).2 p hp;exact⟨q,q1,q2⟩
   ·obtain⟨q,q1,q2⟩:=ih (X:=X.2) p hp;exact⟨q,Nat.le_trans (gS 100000).1 q1,q2⟩
def CL{l1 l2:List (Nat×ae)}{j1:Nat}(h1:∀p∈l1,aA l1 p.1=some p.2)(h2:∀p∈l2,aA l2 p.1=some p.2)(m1:∀p∈l1,∃q,q<j1/\p.1=aW 100000 q)(m2:∀p∈l2,∃q,j1<=q/\p.1=aW 100000 q):∀p∈l1++l2,aA (l1++l2) p.1=some p.2:=by
 intro p hp;rw[qo];rcases List.mem_append.1 hp with hp|hp;·rw[h1 p hp]
 ·cases hl:aA l1 p.1 with
  |none=>exact h2 p hp
  |some v =>obtain⟨q,q1,q2⟩:=m1 _ (ft hl);obtain⟨q',q3,q4⟩:=m2 p hp;have:=mz (q2.symm.trans q4);omega
def yf{t:Ty}{y:t.den}{j:Nat}:∀p∈(aK 100000 t y j).2.1,∃q,q<(aK 100000 t y j).2.2/\p.1=aW 100000 q:=λp hp=>by obtain⟨q,_,q1,q2⟩:=(gS 100000).2 p hp;exact⟨q,q1,q2⟩
def yg{ps:List PT}:∀{X:av ps}{i j:Nat},∀p∈(b8 ps X i j).2,aA (b8 ps X i j).2 p.1=some p.2:=by
 induction ps with
 |nil=>intro X i j p hp;simp[b8]at hp
 |cons p0 ps ih =>
  intro X i j;obtain⟨t,agg,io⟩:=p0;cases io;·exact ih (X:=X.2)
  ·exact CL (ya 100000 t X.1 j) (ih (X:=X.2)) yf ye
def qr{S:Nat->Prop}:∀{ps:List PT}{vs:List Value}{X:av ps}{L:List Nat}{i j:Nat},dN w S ps vs X L->L.Nodup ->
  ∃(f:Nat->aC) (rvf:Nat->Value),(∀k∈L,∃q,f k=.row (aW 100000 q)\/f k=.inn (aW 100000 q)) /\
   ∀(V:St) (E:aP),(∀k∈L,E.lab k=f k)->(∀k,S k->E.lab k=.st)->(∀p∈(b8 ps X i j).2,E.rv p.1=rvf p.1)->(∀p∈(b8 ps X i j).2,V.row p.1=some p.2) ->
    (∀p∈(b8 ps X i j).1,∃m v,vs[m]? = some v/\p.1=i+m/\aL V E w p.2 v)/\∀p∈(b8 ps X i j).2,bZ w E.lab p.1 p.2 (E.rv p.1):=by
 intro ps;induction ps with
 |nil =>
  intro vs X L i j ha hn;cases vs with
  |cons _ _=>exact ha.elim
  |nil =>obtain rfl:L=[]:=ha;exact⟨λ_=>.st,λ_=>undef,(λk hk=>by cases hk),λV E _ _ _ _=>⟨λp hp=>by simp[b8]at hp,λp hp=>by simp[b8]at hp⟩⟩
 |cons p0 ps ih =>
  intro vs X L i j ha hn;cases vs with
  |nil=>exact ha.elim
  |cons v vs =>
   obtain⟨cs,L1,L2,rfl,hcv,h1,h2⟩:=ha;obtain⟨n1,n2,n3⟩:=List.nodup_append.1 hn;obtain⟨t,agg,io⟩:=p0;cases io
   ·obtain⟨rfl,hrd⟩:=h1;obtain⟨f,rvf,k1,k2⟩:=ih (i:=i+1) (j:=j) h2 n2;refine⟨f,rvf,k1,λV E e1 e2 e3 e4=>?_⟩;obtain⟨g1,g2⟩:=k2 V E e1 e2 e3 e4;refine⟨λp hp=>?_,g2⟩;rcases List.mem_cons.1 hp with rfl|hp;·exact⟨0,v,rfl,rfl,qn hcv (md (p:=none) (hrd.mono λk hk=>e2 k hk))⟩
    ·obtain⟨m,v',q1,q2,q3⟩:=g1 p hp;exact⟨m+1,v',by simpa using q1,by omega,q3⟩
   ·have hown:aB w t L1 cs X.1:=h1;obtain⟨f1,v1,a1,b1⟩:=mA 100000 (j:=j) hown n1;obtain⟨f2,v2,a2,b2⟩:=ih (i:=i+1) (j:=(aK 100000 t X.1 j).2.2) h2 n2;have m1:∀p∈(aK 100000 t X.1 j).2.1,∃q,q<(aK 100000 t X.1 j).2.2/\p.1=aW 100000 q:=yf;have m2:∀p∈(b8 ps X.2 (i+1) (aK 100000 t X.1 j).2.2).2,∃q,(aK 100000 t X.1 j).2.2<=q/\p.1=aW 100000 q:=ye;refine⟨λk=>if k∈L1 then f1 k else f2 k,λq=>if ∃p∈(aK 100000 t X.1 j).2.1,p.1=q then v1 q else v2 q,λk hk=>?_,λV E e1 e2 e3 e4=>?_⟩
    ·by_cases hk1:k∈L1;·obtain⟨q,_,_,hq⟩:=a1 k hk1;exact⟨q,by simpa[hk1]using hq⟩
     ·obtain⟨q,hq⟩:=a2 k ((List.mem_append.1 hk).resolve_left hk1);exact⟨q,by simpa[hk1]using hq⟩
    ·have hm:(b8 (⟨t,agg,true⟩::ps) X i j)=((i,lc agg (aK 100000 t X.1 j).1)::(b8 ps X.2 (i+1) (aK 100000 t X.1 j).2.2).1,(aK 100000 t X.1 j).2.1++(b8 ps X.2 (i+1) (aK 100000 t X.1 j).2.2).2):=rfl;rw[hm]at e3 e4 ⊢;obtain⟨g1,g2⟩:=b1 V E (λk hk=>(e1 k (List.mem_append_left _ hk)).trans (if_pos hk)) (λp hp=>(e3 p (List.mem_append_left _ hp)).trans (if_pos ⟨p,hp,rfl⟩)) (λp hp=>e4 p (List.mem_append_left _ hp));obtain⟨g3,g4⟩:=b2 V E (λk hk=>(e1 k (List.mem_append_right _ hk)).trans (if_neg λh'=>n3 k h' k hk rfl)) e2 (λp hp=>(e3 p (List.mem_append_right _ hp)).trans (if_neg λ⟨p',hp',e⟩=>by obtain⟨q,q1,q2⟩:=m1 p' hp';obtain⟨q',q3,q4⟩:=m2 p hp;have:=mz (q2.symm.trans (e.trans q4));omega)) (λp hp=>e4 p (List.mem_append_right _ hp));refine⟨λp hp=>?_,λp hp=>?_⟩
     ·rcases List.mem_cons.1 hp with rfl|hp;·exact⟨0,v,rfl,rfl,qn hcv g1⟩
      ·obtain⟨m,v',q1,q2,q3⟩:=g3 p hp;exact⟨m+1,v',by simpa using q1,by omega,q3⟩
     ·rcases List.mem_append.1 hp with hp|hp;·exact g2 p hp
      ·exact g4 p hp
structure Mq(P:Program)(w:World)(rf:Rf)(ps:List PT)(args:Array Value)(X:cL rf×av ps)(L:List Nat)(E:aP):Prop where
 inl:∀k∈L,E.lab k≠.st
 out:∀k,k∉L->E.lab k=.st
 slots:∀t s,aA (match rf,X with|none,X=>(b8 ps X.2 0 0).1|some p,X=>(0,.c (.box 100000 0))::(100000,.c (.box 100000 0))::(b8 ps X.2 1 (aK 100000 p.2 X.1 0).2.2).1) t=some s ->
  aL (fu rf ps X) E w s (if t<100000 then args.getD t undef else args.getD (t-100000) undef)
 boxes:∀b te cs,(fu rf ps X).box b=some (te,cs)->jx (fu rf ps X) E w b te cs
 rows:∀r row,(fu rf ps X).row r=some row->bZ w E.lab r row (E.rv r)
def lf{args:Array Value}{m:Nat}{v:Value}(h:args.toList[m]? = some v):args.getD m undef=v:=by
 rw[Array.getD_eq_getD_getElem?];have:args[m]? = some v:=by simpa using h
 rw[this];rfl
def qt:Rf->Bool
 |none=>true
 |some p=>Nat.blt p.1 cd
def Mr{rf:Rf}{ps:List PT}{args:Array Value}{X:cL rf×av ps}{L:List Nat}(ha:ka w (λk=>k∉L) rf ps args.toList X.1 X.2 L)(hn:L.Nodup)(hlen:ld rf ps<=100000)(hrf:qt rf=true):∃E,Mq P w rf ps args X L E:=by
 classical
 cases rf with
 |none =>
  have ha:dN w (λk=>k∉L) ps args.toList X.2 L:=ha;obtain⟨f,rvf,k1,k2⟩:=qr (i:=0) (j:=0) ha hn;have hl:=ha.len;have hlen:ps.length<=100000:=hlen;let E:aP:=⟨λk=>if k∈L then f k else .st,rvf,λ_=>0⟩;have e1:∀k∈L,E.lab k=f k:=λk hk=>if_pos hk;have e2:∀k,k∉L->E.lab k=.st:=λk hk=>if_neg hk;obtain⟨g1,g2⟩:=k2 (fu none ps X) E e1 e2 (λp hp=>rfl) (λp hp=>yg p hp);refine⟨E,⟨λk hk=>?_,e2,λt s hs=>?_,λb te cs hb=>(by cases hb),λr row hr=>g2 (r,row) (ft hr)⟩⟩;·obtain⟨q,hq⟩:=k1 k hk;rw[e1 k hk];rcases hq with hq|hq<;>rw[hq]<;>simp
  ·obtain⟨m,v,q1,q2,q3⟩:=g1 _ (ft hs);have hm:m<args.toList.length:=(List.getElem?_eq_some_iff.1 q1).1;simp only at q2;rw[if_pos (by omega),show t=m by omega,lf q1];exact q3
 |some p =>
  match hal:args.toList,ha with
  |[],ha=>exact ha.elim
  |v0::vs0,ha =>
  obtain⟨g,L1,L2,rfl,⟨hv0,arr,m1,m2,m3⟩,ha⟩:=ha;obtain⟨ng,hn12⟩:=List.nodup_cons.1 hn;obtain⟨n1,n2,n3⟩:=List.nodup_append.1 hn12;obtain⟨f1,v1,a1,b1⟩:=mA 100000 (j:=0) m3 n1;obtain⟨f2,v2,a2,b2⟩:=qr (i:=1) (j:=(aK 100000 p.2 X.1 0).2.2) ha n2;have hl:=ha.len;have hlen:ps.length+1<=100000:=hlen;have h1:∀q∈(aK 100000 p.2 X.1 0).2.1,∃i,i<(aK 100000 p.2 X.1 0).2.2/\q.1=aW 100000 i:=yf;have h2:∀q∈(b8 ps X.2 1 (aK 100000 p.2 X.1 0).2.2).2,∃i,(aK 100000 p.2 X.1 0).2.2<=i/\q.1=aW 100000 i:=ye;let E:aP:=⟨λk=>if k=g then .box 100000 else if k∈L1 then f1 k else if k∈L2 then f2 k else .st,λq=>if ∃p'∈(aK 100000 p.2 X.1 0).2.1,p'.1=q then v1 q else v2 q,λ_=>g⟩;have lg:E.lab g=.box 100000:=if_pos rfl;have l1:∀k∈L1,E.lab k=f1 k:=λk hk=>(if_neg λ(e:k=g)=>ng (by rw[<-e];exact List.mem_append_left _ hk)).trans (if_pos hk);have l2:∀k∈L2,E.lab k=f2 k:=λk hk=>(if_neg λ(e:k=g)=>ng (by rw[<-e];exact List.mem_append_right _ hk)).trans ((if_neg λh'=>n3 k h' k hk rfl).trans (if_pos hk));have lo:∀k,k∉g::(L1++L2)->E.lab k=.st:=λk hk=>(if_neg λe=>hk (by simp[e])).trans ((if_neg λh'=>hk (by simp[h'])).trans (if_neg λh'=>hk (by simp[h'])));have hall:∀q∈(aK 100000 p.2 X.1 0).2.1++(b8 ps X.2 1 (aK 100000 p.2 X.1 0).2.2).2,(fu (some p) ps X).row q.1=some q.2:=CL (ya 100000 p.2 X.1 0) yg h1 h2;obtain⟨g1,g2⟩:=b1 (fu (some p) ps X) E l1 (λq hq=>if_pos ⟨q,hq,rfl⟩) (λq hq=>hall q (List.mem_append_left _ hq));obtain⟨g3,g4⟩:=b2 (fu (some p) ps X) E l2 lo (λq hq=>if_neg λ⟨p',hp',e⟩=>by obtain⟨i,i1,i2⟩:=h1 p' hp';obtain⟨i',i3,i4⟩:=h2 q hq;have:=mz (i2.symm.trans (e.trans i4));omega) (λq hq=>hall q (List.mem_append_right _ hq));have hbox:(fu (some p) ps X).box 100000=some (p.1,(aK 100000 p.2 X.1 0).1):=rfl;have hcs:0<(aK 100000 p.2 X.1 0).1.length:=by rw[pT];exact p.2.nc_pos
  have h0:args.getD 0 undef=v0:=lf (by rw[hal];rfl);have hptr:aL (fu (some p) ps X) E w (.c (.box 100000 0)) v0:=⟨hv0,_,_,hbox,hcs⟩;refine⟨E,⟨λk hk=>?_,lo,λt s hs=>?_,λb te cs hb=>?_,λr row hr=>?_⟩⟩
  ·rcases List.mem_cons.1 hk with rfl|hk;·rw[lg];simp
   rcases List.mem_append.1 hk with hk|hk;·obtain⟨q,_,_,hq⟩:=a1 k hk;rw[l1 k hk];rcases hq with hq|hq<;>rw[hq]<;>simp
   ·obtain⟨q,hq⟩:=a2 k hk;rw[l2 k hk];rcases hq with hq|hq<;>rw[hq]<;>simp
  ·rcases List.mem_cons.1 (ft hs)with e|hm;·injection e with e1 e2;subst e1 e2;rw[if_pos (by omega),h0];exact hptr
   rcases List.mem_cons.1 hm with e|hm;·injection e with e1 e2;subst e1 e2;rw[if_neg (by omega),Nat.sub_self,h0];exact hptr
   ·obtain⟨m,v,q1,q2,q3⟩:=g3 _ hm;have hm':m<vs0.length:=(List.getElem?_eq_some_iff.1 q1).1;simp only at q2;rw[if_pos (by omega),show t=m+1 by omega,lf (by rw[hal];simpa using q1)];exact q3
  ·have hb':aA [(100000,(p.1,(aK 100000 p.2 X.1 0).1))] b=some (te,cs):=hb;have:=ft hb';simp only[List.mem_singleton,Prod.mk.injEq]at this;obtain⟨rfl,rfl,rfl⟩:=this;exact⟨arr,.inl ⟨by simpa[qt]using hrf,m1⟩,lg,g1,m2⟩
  ·have hr':aA ((aK 100000 p.2 X.1 0).2.1++(b8 ps X.2 1 (aK 100000 p.2 X.1 0).2.2).2) r=some row:=hr;rcases List.mem_append.1 (ft hr')with hm|hm;·exact g2 (r,row) hm
   ·exact g4 (r,row) hm
def ka.len{S:Nat->Prop}{rf:Rf}{ps:List PT}{vs:List Value}{x:cL rf}{X:av ps}{L:List Nat}(h:ka w S rf ps vs x X L):vs.length=ld rf ps:=by
 cases rf with
 |none=>exact dN.len h
 |some p =>
  cases vs with
  |nil=>exact h.elim
  |cons v vs =>obtain⟨g,L1,L2,_,_,h⟩:=h;simp[ld,h.len]
def ka.bd{S:Nat->Prop}{rf:Rf}{ps:List PT}{vs:List Value}{x:cL rf}{X:av ps}{L:List Nat}(h:ka w S rf ps vs x X L):yd rf x/\gA ps X:=by
 cases rf with
 |none=>exact⟨trivial,dN.bd h⟩
 |some p =>
  cases vs with
  |nil=>exact h.elim
  |cons v vs =>obtain⟨g,L1,L2,_,⟨_,arr,_,_,h1⟩,h⟩:=h;exact⟨h1.bd,h.bd⟩
theorem Mt [Inv P] {f : Nat} {fn : Func} {c : Code} {rf : Rf} {ps rs : List PT} {pre : Option (cL rf × av ps → Bool)} {val : cL rf × av ps → cL rf × av rs} {pl : cP} {je : Option ab} (hf : P.funcs[f]? = some fn) (hb : fn.body = some c) (hname : (fn.name == "runtime.NumGoroutine") = false)
  (hm:P.follows .mixedOrders=true) (hT:be P T) (hΓ:ao P Γ) (hc:eT fn.ntmps c=true) (hn:Nat.ble (ld rf ps) fn.ntmps=true) (hn2:Nat.ble fn.ntmps 100000=true)
  (hG:∀X,yd rf X.1->gA ps X.2->cq pre X=true->∃N,an Γ T B N c pl (fu rf ps X) (ay je (CK T rf rs fn.results.toList))=some (val X)) (hsm:qt rf=true:=by rfl):fp P f ⟨rf,ps,rs,pre,val⟩:=by
 intro w args L X ha hL hlt hpre hI hBL;obtain⟨hb1,hb2⟩:=ka.bd ha;obtain⟨N,hr⟩:=hG X hb1 hb2 hpre;have hn:=Nat.le_of_ble_eq_true hn;have hn2:=Nat.le_of_ble_eq_true hn2;have hlen:args.size=ld rf ps:=by have:=ka.len ha;simpa using this
 refine .inl ⟨?_, ?_⟩
 ·have h1 : ¬ fn.name = "runtime.NumGoroutine" := by simpa using hname
  have h2:¬ fn.body=none:=by rw[hb];simp
  simp[callFunc,hf,h1,h2]
 obtain⟨E,st⟩:=Mr (P:=P) ha hL (show ld rf ps<=100000 by omega) hsm;let oo:Nat->Value:=λt=>args.getD (t-100000) undef;have hsz:(args++Array.replicate (fn.ntmps-args.size) undef).size=fn.ntmps:=by rw[Array.size_append,Array.size_replicate];omega
 have hund:∀t,args.size<=t->(args++Array.replicate (fn.ntmps-args.size) undef).getD t undef=undef:=by
  intro t ht;rw[Array.getD_eq_getD_getElem?,Array.getElem?_append_right ht];by_cases h:t-args.size<fn.ntmps-args.size;·simp[Array.getElem?_replicate,h]
  ·simp[Array.getElem?_replicate,h]
 have hR:R w E.lab oo fn.ntmps (fu rf ps X) E { tmps:=args++Array.replicate (fn.ntmps-args.size) undef,defers:=[] } w:=by
  refine⟨hn2,hsz,rfl,λt=>?_,st.boxes,st.rows,⟨rfl,⟨rfl,λ_=>Nat.le_refl _⟩,rfl,Nat.le_refl _,λk hk hl=>⟨hl,rfl⟩,λk hk hl=>⟨hl,rfl⟩⟩⟩;have hval:dq oo { tmps:=args++Array.replicate (fn.ntmps-args.size) undef,defers:=[] } t=if t<100000 then args.getD t undef else args.getD (t-100000) undef:=by
   unfold dq;by_cases ht:t<100000
   ·rw[if_pos ht,if_pos ht];by_cases hlt:t<args.size;·simp only[Array.getD_eq_getD_getElem?];rw[Array.getElem?_append_left hlt]
    ·rw[hund t (by omega),Array.getD_eq_getD_getElem?,Array.getElem?_eq_none (by omega)];rfl
   ·rw[if_neg ht,if_neg ht]
  rw[hval];have key:∀l:List (Nat×SV),(fu rf ps X).slot t=fP l t->(∀s,aA l t=some s->aL (fu rf ps X) E w s (if t<100000 then args.getD t undef else args.getD (t-100000) undef))->aL (fu rf ps X) E w ((fu rf ps X).slot t) (if t<100000 then args.getD t undef else args.getD (t-100000) undef):=by
   intro l hl hh;rw[hl];unfold fP;split;·rename_i s hs;exact hh s hs
   ·show True;trivial
  cases rf with
  |none=>exact key _ rfl λs hs=>st.slots t s hs
  |some p=>exact key _ rfl λs hs=>st.slots t s hs
 have hend:∀V' E' a' w',s4 T rf rs fn.results.toList V'=some (val X)->R w E.lab oo fn.ntmps V' E' a' w'->a'.defers=[]/\∃v,(results fn a'.tmps).run P w'=.ok v w' /\
   ∃vs Lf Lr,Ending.returned v=Ending.returned v/\sH w ⟨rf,ps,rs,pre,val⟩ args.toList L (val X) v w' vs Lf Lr:=by
  intro V' E' a' w' hfin h';refine⟨h'.defers, ?_⟩;unfold s4 at hfin;split at hfin
  ·rename_i ss cs hss hrf;cases hq:(oa V' rf&&dL (aH (iy rs ss++cs)));·rw[hq]at hfin;cases hfin
   rw[hq]at hfin;simp only[Bool.and_eq_true]at hq;obtain⟨hz,hfin⟩:=qk (show iz V'.row rs ss _=some (val X)from hfin);obtain⟨p1,p2⟩:=ef (z:=val X) hfin;have hnd:=iW hq.2;rw[gP]at hnd;obtain⟨n1,n2,n3⟩:=List.nodup_append.1 hnd;obtain⟨vs,v1,v2⟩:=qp hT h' hss;obtain⟨v,r1,r2⟩:=qq v2;obtain⟨Lr,l1,l2,l3⟩:=sZ h' p2 hz v1 n1;have hold:∀k q,dM E'.lab q k->k∈L\/w.heap.size<=k:=by
    intro k q hk;by_cases h1:k∈L;·exact .inl h1
    ·refine .inr (Nat.le_of_not_lt λhlt=>?_);have:=(h'.same.old k hlt (st.out k h1)).1;rcases hk with hk|hk<;>rw[this]at hk<;>cases hk
   obtain⟨Lf,m1,m2,m3,m4⟩:∃Lf,B9 w' rf args.toList (val X).1 Lf/\Lf.Nodup/\(∀k∈Lf,∃q∈aH cs,dM E'.lab q k)/\∀g p,rf=some p->args.toList.head? = some (.pointer (some ⟨g,0,none⟩))->E'.lab g=.box 100000:=by
    cases rf with
    |none=>exact⟨[],rfl,List.nodup_nil,(λk hk=>by cases hk),λg p hp=>by cases hp⟩
    |some p =>
     simp only[s0]at hrf;split at hrf
     ·rename_i te cs' hbx;cases hte:Nat.beq te p.1;·rw[hte]at hrf;cases hrf
      rw[hte]at hrf;injection hrf with hrf;subst hrf;obtain rfl:=Nat.eq_of_beq_eq_true hte;obtain⟨arr,k1,k2,k3,k4⟩:=h'.boxes 100000 _ _ hbx;have k1:=k1.cells (by simpa[qt]using hsm);obtain⟨Lf,o1,o2,o3⟩:=gR h' p1 k3 n2;have hs0:aL V' E' w' (V'.slot 100000) (dq oo a' 100000):=h'.slots 100000;have hk:=hq.1;simp only[oa]at hk;split at hk
      ·rename_i hsl;rw[hsl]at hs0;obtain⟨hp,_⟩:=(show am V' E' w' (.box 100000 0) _ from hs0);match hal:args.toList,hlen with
       |[],hlen=>
        have:args.size=0:=by simpa using congrArg List.length hal
        rw[this]at hlen;simp[ld]at hlen
       |u::us,hlen =>
       have hu:dq oo a' 100000=u:=by unfold dq;rw[if_neg (by omega)];exact lf (by rw[hal];rfl)
       rw[hu]at hp;refine⟨Lf,⟨E'.bb 100000,⟨hp,arr,k1,k4,o1⟩,λhm=>?_⟩,o2,o3,λg p' _ hg=>?_⟩;·obtain⟨q,_,hq'⟩:=o3 _ hm;rcases hq' with hq'|hq'<;>rw[k2]at hq'<;>cases hq'
       ·simp only[List.head?_cons,Option.some.injEq]at hg;rw[hp]at hg;injection hg with hg;injection hg with hg;injection hg with hg;rw[<-hg];exact k2
      ·cases hk
     ·cases hrf
   refine⟨v,r1,vs,Lf,Lr,rfl,r2,l1,m1,List.nodup_append.2 ⟨l2,m2,λx hx z hz e=>?_⟩,λk hk=>?_,λg p hp hg hm=>?_,h'.same.os,h'.same.tape,h'.same.output,h'.same.size,λk hk hkL=>(h'.same.old k hk (st.out k hkL)).2⟩;·subst e;obtain⟨q,q1,q2⟩:=l3 x hx;obtain⟨q',q1',q2'⟩:=m3 x hz;exact n3 q q1 q' q1' (jZ q2 q2')
   ·rcases List.mem_append.1 hk with hk|hk;·obtain⟨q,q1,q2⟩:=l3 k hk;exact hold k q q2
    ·obtain⟨q,q1,q2⟩:=m3 k hk;exact hold k q q2
   ·have hlg:=m4 g p hp hg;rcases List.mem_append.1 hm with hm|hm;·obtain⟨q,_,hq'⟩:=l3 _ hm;rcases hq' with hq'|hq'<;>rw[hlg]at hq'<;>cases hq'
    ·obtain⟨q,_,hq'⟩:=m3 _ hm;rcases hq' with hq'|hq'<;>rw[hlg]at hq'<;>cases hq'
  ·cases hfin
 refine calls_of_wp hf hb (ix hT (hΓ.at hI λk hk=>st.out k λhl=>hBL k hl hk) hm c pl hc hR hr ?_ (g0.join ?_ _));·intro ch a a' w' hq;obtain⟨_,v,vs,L',Lr,he,_⟩:=hq;cases he
 ·intro e V' E' a' w' hr' h';cases e with
  |nrm =>obtain⟨d1,v,d2,vs,L',Lr,d3,d4⟩:=hend V' E' a' w' hr' h';exact⟨d1,v,d2,v,vs,L',Lr,rfl,d4⟩
  |ret =>obtain⟨d1,v,d2,vs,L',Lr,d3,d4⟩:=hend V' E' a' w' hr' h';exact⟨d1,v,d2,v,vs,L',Lr,rfl,d4⟩
  |exit i=>cases hr'
end
def aY:Gm:=⟨λ_=>none,λ_=>none,λ_=>none,λ_=>none,λ_=>none⟩
def ao.nil[DC]{P:Program}[Inv P]:ao P aY:=⟨λf en h=>(by cases h),λf en h=>(by cases h),λf en h=>(by cases h),λf en h=>(by cases h),λf en h=>(by cases h)⟩
def aI(Γ:Gm)(f:Nat)(en:aQ):Gm:=⟨λk=>cond (Nat.beq k f) (some en) (Γ.g k),Γ.m,Γ.v,Γ.n,Γ.s⟩
def addM(Γ:Gm)(f:Nat)(en:gV):Gm:=⟨Γ.g,λk=>cond (Nat.beq k f) (some en) (Γ.m k),Γ.v,Γ.n,Γ.s⟩
def addV(Γ:Gm)(f:Nat)(en:ew):Gm:=⟨Γ.g,Γ.m,λk=>cond (Nat.beq k f) (some en) (Γ.v k),Γ.n,Γ.s⟩
def addN(Γ:Gm)(f:Nat)(en:jg):Gm:=⟨Γ.g,Γ.m,Γ.v,λk=>cond (Nat.beq k f) (some en) (Γ.n k),Γ.s⟩
def addS(Γ:Gm)(f:Nat)(en:kb):Gm:=⟨Γ.g,Γ.m,Γ.v,Γ.n,λk=>cond (Nat.beq k f) (some en) (Γ.s k)⟩
def s5(rs:List PT):Bool:=rs.all λp=>p.agg||Nat.beq p.t.nc 1
def yh{rs:List PT}(hf:s5 rs=true):∀p∈rs,p.agg=false->p.t.nc=1:=λp hp ha=>by have:=List.all_eq_true.1 hf p hp;rw[ha]at this;exact Nat.eq_of_beq_eq_true (by simpa using this)
def ao.add[DC]{P:Program}[Inv P]{Γ:Gm}(h:ao P Γ){f:Nat}{en:aQ}(he:aw P f en)(hf:s5 en.sig.rs=true):ao P (aI Γ f en):=by
 refine⟨λk en' hk=>?_,h.m,h.v,h.n,h.s⟩;simp only[aI]at hk;cases hb:Nat.beq k f;·rw[hb]at hk;exact h.g k en' hk
 ·rw[hb]at hk;injection hk with hk;subst hk;obtain rfl:=Nat.eq_of_beq_eq_true hb;exact⟨he,yh hf⟩
def ao.addM[DC]{P:Program}[Inv P]{Γ:Gm}(h:ao P Γ){f:Nat}{en:gV}(he:fp P f en)(hf:s5 en.rs=true):ao P (addM Γ f en):=by
 refine⟨h.g,λk en' hk=>?_,h.v,h.n,h.s⟩;simp only[Fw.addM]at hk;cases hb:Nat.beq k f;·rw[hb]at hk;exact h.m k en' hk
 ·rw[hb]at hk;injection hk with hk;subst hk;obtain rfl:=Nat.eq_of_beq_eq_true hb;exact⟨he,yh hf⟩
def ao.addV[DC]{P:Program}[Inv P]{Γ:Gm}(h:ao P Γ){f:Nat}{en:ew}(he:dj P f en)(hf:s5 en.rs=true):ao P (addV Γ f en):=by
 refine⟨h.g,h.m,λk en' hk=>?_,h.n,h.s⟩;simp only[Fw.addV]at hk;cases hb:Nat.beq k f;·rw[hb]at hk;exact h.v k en' hk
 ·rw[hb]at hk;injection hk with hk;subst hk;obtain rfl:=Nat.eq_of_beq_eq_true hb;exact⟨he,yh hf⟩
def ao.addN[DC]{P:Program}[Inv P]{Γ:Gm}(h:ao P Γ){f:Nat}{en:jg}(he:kW P f en):ao P (addN Γ f en):=by
 refine⟨h.g,h.m,h.v,λk en' hk=>?_,h.s⟩;simp only[Fw.addN]at hk;cases hb:Nat.beq k f;·rw[hb]at hk;exact h.n k en' hk
 ·rw[hb]at hk;injection hk with hk;subst hk;obtain rfl:=Nat.eq_of_beq_eq_true hb;exact he
def ao.addS[DC]{P:Program}[Inv P]{Γ:Gm}(h:ao P Γ){f:Nat}{en:kb}(he:kY P f en):ao P (addS Γ f en):=by
 refine⟨h.g,h.m,h.v,h.n,λk en' hk=>?_⟩;simp only[Fw.addS]at hk;cases hb:Nat.beq k f;·rw[hb]at hk;exact h.s k en' hk
 ·rw[hb]at hk;injection hk with hk;subst hk;obtain rfl:=Nat.eq_of_beq_eq_true hb;exact he
def a7(f:Func):Code:=match f.body with|some c=>c|none=>.skip
def ac(n:Int):Int:=IntKind.i64.wrap n
def w8(n:Int):Int:=IntKind.u8.wrap n
def ax(n:Int)(m:Nat):Bool:=decide (0<=n)&&decide (n<(m:Int))
def oc:(l:List (Nat×Ty))->List Value->dy l->List ai
 |[],_,_=>[]
 |p::l,v::vs,x=>.bor v p.1 p.2 x.1::oc l vs x.2
 |_::_,[],_=>[]
def s6:List PT->Nat->List Nat
 |[],_=>[]
 |p::ps,i=>cond p.io (i::s6 ps (i+1)) (s6 ps (i+1))
def s7(l:List (Nat×SV)):List Nat->List (Nat×SV)
 |[]=>[]
 |i::is=>(100000+i,fP l i)::s7 l is
def s8(ps:List PT)(X:av ps):List (Nat×SV):=(0,.c (.box 100000 0))::(100000,.c (.box 100000 0))::((b8 ps X 1 0).1++s7 (b8 ps X 1 0).1 (s6 ps 1))
def dO(k:dh)(ps:List PT)(lit:List Value)(X:(dy k.fx×k.t.den)×av ps):St :=
 af (s8 ps X.2) [(100000,(k.te,oc k.fx lit X.1.1++dZ k.t X.1.2 none))] (b8 ps X.2 1 0).2
def qu:List ai->Option (List Value)
 |[]=>some []
 |.bor v _ _ _::cs=>match qu cs with
  |some l=>some (v::l)
  |none=>none
 |_=>none
def CM(V:St):(back:Bool)->(ps:List PT)->Option (gW back ps)
 |true,ps=>qi V ps 1
 |false,_=>some ()
def qv(V:St):Bool->List PT->List ai
 |true,ps=>mL V ps 1
 |false,_=>[]
def s9(T:bj)(k:dh)(ps:List PT)(back:Bool)(rs:List PT)(rv:List ResultVar)(V:St):Option (List Value×(k.t.den×(gW back ps×av rs))) :=
 match jA T V rv,s0 V (some (k.te,k.t))with
 |some ss,some cs=>cond (oa V (some (k.te,k.t))&&(dL (aH (iy rs ss++qv V back ps))&&(aH (cs.drop k.fx.length)).isEmpty))
  (iz V.row rs ss (ee (qu (cs.take k.fx.length)) (ee (dJ V.row k.t (cs.drop k.fx.length)) (ee (CM V back ps) (n9 V.row rs ss))))) none
 |_,_=>none
def CN(T:bj)(k:dh)(ps:List PT)(back:Bool)(rs:List PT)(rv:List ResultVar):Ex->St->Option (List Value×(k.t.den×(gW back ps×av rs)))
 |.nrm,V=>s9 T k ps back rs rv V
 |.ret,V=>s9 T k ps back rs rv V
 |.exit _,_=>none
def ta:(l:List (Nat×Ty))->dy l->Prop
 |[],_=>True
 |p::l,x=>(Ty.sl p.1 p.2).bd x.1/\ta l x.2
section
variable {P : Program} {V V' : St} {E E' : aP} {w w' : World} {w0 : World} {lab0 : Nat → aC} {oo : Nat → Value} {n : Nat} {a : Act} {T : bj} {Γ : Gm} {B : Nat → Option ab} {N : Nat} [DC]
def jf.bd{S:Nat->Prop}:∀{l:List (Nat×Ty)}{vs:List Value}{x:dy l},jf w S l vs x->ta l x
 |[],[],_,_=>trivial
 |p::l,v::vs,x,h=>⟨Rd.bd (t:=.sl p.1 p.2) h.1,h.2.bd⟩
 |[],_::_,_,h=>h.elim
 |_::_,[],_,h=>h.elim
def CO:∀{l:List (Nat×Ty)}{vs:List Value}{x:dy l},jf w (λk=>E.lab k=.st) l vs x->ak (am V E w) (oc l vs x) vs
 |[],[],_,_=>trivial
 |p::l,v::vs,x,h=>⟨⟨rfl,h.1⟩,CO h.2⟩
 |[],_::_,_,h=>h.elim
 |_::_,[],_,h=>h.elim
def yj:∀{cs:List ai}{l us:List Value},qu cs=some l->ak (am V E w) cs us->us=l
 |[],l,[],h,_=>by injection h with h
 |[],l,_::_,h,hc=>hc.elim
 |c::cs,l,[],h,hc=>hc.elim
 |c::cs,l,u::us,h,hc=>by
  cases c with
  |bor v e t xs =>
   simp only[qu]at h;split at h;·rename_i l' hl;injection h with h;subst h;rw[yj hl hc.2,show u=v from hc.1.1]
   ·cases h
  |_=>cases h
def CP{l:List (Nat×SV)}:∀{is:List Nat}{p:Nat×SV},p∈s7 l is->∃i∈is,p=(100000+i,fP l i)
 |i::is,p,h=>by
  rcases List.mem_cons.1 h with rfl|h;·exact⟨i,List.mem_cons_self,rfl⟩
  ·obtain⟨j,h1,h2⟩:=CP h;exact⟨j,List.mem_cons_of_mem _ h1,h2⟩
structure Mu(w:World)(k:dh)(ps:List PT)(args:Array Value)(lit:List Value)(X:(dy k.fx×k.t.den)×av ps)(g:Nat)(L:List Nat)(E:aP):Prop where
 out:∀k,k∉g::L->E.lab k=.st
 slots:∀t s,aA (s8 ps X.2) t=some s->aL (dO k ps lit X) E w s (if t<100000 then args.getD t undef else args.getD (t-100000) undef)
 boxes:∀b te cs,(dO k ps lit X).box b=some (te,cs)->jx (dO k ps lit X) E w b te cs
 rows:∀r row,(dO k ps lit X).row r=some row->bZ w E.lab r row (E.rv r)
def Mv{k:dh}{ps:List PT}{args:Array Value}{lit:List Value}{X:(dy k.fx×k.t.den)×av ps}{g:Nat}{L:List Nat}(ha:xj w (λk=>k∉g::L) k ps args.toList X lit g L)(hn:(g::L).Nodup)(hlen:ps.length+1<=100000)(hsm:Nat.blt k.te cd=true):∃E,Mu w k ps args lit X g L E:=by
 classical
 obtain⟨v0,vs0,hal,⟨hv0,arr,cm,m1,m2,m3,m4,m5⟩,ha⟩:=ha;obtain⟨ng,hnL⟩:=List.nodup_cons.1 hn;obtain⟨f2,v2,a2,b2⟩:=qr (i:=1) (j:=0) ha hnL;have hl:=ha.len;let E:aP:=⟨λk=>if k=g then .box 100000 else if k∈L then f2 k else .st,v2,λ_=>g⟩;have lg:E.lab g=.box 100000:=if_pos rfl;have l2:∀k∈L,E.lab k=f2 k:=λk hk=>(if_neg λ(e:k=g)=>ng (by rw[<-e];exact hk)).trans (if_pos hk);have lo:∀k,k∉g::L->E.lab k=.st:=λk hk=>(if_neg λe=>hk (by simp[e])).trans (if_neg λh'=>hk (by simp[h']));obtain⟨g3,g4⟩:=b2 (dO k ps lit X) E l2 lo (λq hq=>rfl) (λq hq=>yg q hq);have hbox:(dO k ps lit X).box 100000=some (k.te,oc k.fx lit X.1.1++dZ k.t X.1.2 none):=rfl;have hflat:ak (am (dO k ps lit X) E w) (dZ k.t X.1.2 none) cm:=pW m5;have hcs:0<(oc k.fx lit X.1.1++dZ k.t X.1.2 none).length:=by have e1:=hflat.len;have e2:=m5.len;have:=k.t.nc_pos;rw[List.length_append];omega
 have h0:args.getD 0 undef=v0:=lf (by rw[hal];rfl);have hptr:aL (dO k ps lit X) E w (.c (.box 100000 0)) v0:=⟨hv0,_,_,hbox,hcs⟩;have hsl:∀t s,aA (b8 ps X.2 1 0).1 t=some s->1<=t/\t<100000/\aL (dO k ps lit X) E w s (args.getD t undef):=λt s hs=>by obtain⟨m,v,q1,q2,q3⟩:=g3 _ (ft hs);have hm':m<vs0.length:=(List.getElem?_eq_some_iff.1 q1).1;simp only at q2;refine⟨by omega,by omega, ?_⟩;rw[show t=m+1 by omega,lf (by rw[hal];simpa using q1)];exact q3
 refine⟨E,⟨lo,λt s hs=>?_,λb te cs hb=>?_,λr row hr=>g4 (r,row) (ft hr)⟩⟩
 ·unfold s8 at hs;have hs2:aA ([(0,.c (.box 100000 0)),(100000,.c (.box 100000 0))]++((b8 ps X.2 1 0).1++s7 (b8 ps X.2 1 0).1 (s6 ps 1))) t=some s:=hs;rw[qo]at hs2;split at hs2
  ·rename_i s' hs';injection hs2 with hs2;subst hs2;rcases List.mem_cons.1 (ft hs')with e|hm;·injection e with e1 e2;subst e1 e2;rw[if_pos (by omega),h0];exact hptr
   rcases List.mem_cons.1 hm with e|hm;·injection e with e1 e2;subst e1 e2;rw[if_neg (by omega),Nat.sub_self,h0];exact hptr
   ·cases hm
  ·rw[qo]at hs2;split at hs2;·rename_i s' hs';injection hs2 with hs2;subst hs2;obtain⟨q1,q2,q3⟩:=hsl t _ hs';rw[if_pos q2];exact q3
   ·obtain⟨i,_,e⟩:=CP (ft hs2);injection e with e1 e2;subst e1 e2;rw[if_neg (by omega),show 100000+i-100000=i by omega];unfold fP;split;·rename_i s' hs';exact(hsl i _ hs').2.2
    ·show True;trivial
 ·have hb':aA [(100000,(k.te,oc k.fx lit X.1.1++dZ k.t X.1.2 none))] b=some (te,cs):=hb;have:=ft hb';simp only[List.mem_singleton,Prod.mk.injEq]at this;obtain⟨rfl,rfl,rfl⟩:=this;refine⟨arr,.inl ⟨by simpa using hsm,m1⟩,lg, ?_,m2⟩;rw[m3];exact ak.app (CO (m4.mono lo)) hflat
def Mw(h:R w0 lab0 oo n V E a w):∀{back:Bool}{ps:List PT}{vs:List Value}{y:gW back ps},CM V back ps=some y->vs.length=ps.length->(∀j v,vs[j]? = some v->oo (100000+(1+j))=v)->(aH (qv V back ps)).Nodup ->
  ∃Lb,sJ w Lb back ps vs y/\Lb.Nodup/\∀q∈Lb,∃r∈aH (qv V back ps),dM E.lab r q
 |false,ps,vs,y,_,_,_,_=>⟨[],rfl,List.nodup_nil,λq hq=>by cases hq⟩
 |true,ps,vs,y,hr,hl,hv,hn=>yc h (i:=1) (vs:=vs) hr hl hv hn
theorem Mx [Inv P] {f : Nat} {fn : Func} {c : Code} {k : dh} {ps rs : List PT} {back : Bool} {pre : Option ((dy k.fx × k.t.den) × av ps → Bool)} {val : (dy k.fx × k.t.den) × av ps → k.t.den × (gW back ps × av rs)} {pl : cP} {je : Option ab} (hf : P.funcs[f]? = some fn) (hb : fn.body = some c) (hname : (fn.name == "runtime.NumGoroutine") = false)
  (hm:P.follows .mixedOrders=true) (hT:be P T) (hΓ:ao P Γ) (hc:eT fn.ntmps c=true) (hn:Nat.ble (ps.length+1) fn.ntmps=true) (hn2:Nat.ble fn.ntmps 100000=true)
  (hG:∀lit X,lit.length=k.fx.length->ta k.fx X.1.1->gA ps X.2->cq pre X=true->∃N,an Γ T B N c pl (dO k ps lit X) (ay je (CN T k ps back rs fn.results.toList))=some (lit,val X)) (hsm:Nat.blt k.te cd=true:=by rfl):dj P f ⟨k,ps,back,rs,pre,val⟩:=by
 intro w args L g lit X ha hL hlt hpre hI hBL;have ha0:=ha;obtain⟨v0,vs0,hal,⟨hv0,arr0,cm0,m1,m2,m3,m4,m5⟩,hag⟩:=ha0;obtain⟨N,hr⟩:=hG lit X m4.len m4.bd hag.bd hpre;have hn:=Nat.le_of_ble_eq_true hn;have hn2:=Nat.le_of_ble_eq_true hn2;have hlen:args.size=ps.length+1:=by have hl0:vs0.length=ps.length:=hag.len;have e:=congrArg List.length hal;simp at e;omega
 refine .inl ⟨?_, ?_⟩
 ·have h1 : ¬ fn.name = "runtime.NumGoroutine" := by simpa using hname
  have h2:¬ fn.body=none:=by rw[hb];simp
  simp[callFunc,hf,h1,h2]
 obtain⟨E,st⟩:=Mv ha hL (show ps.length+1<=100000 by omega) hsm;let oo:Nat->Value:=λt=>args.getD (t-100000) undef;have hsz:(args++Array.replicate (fn.ntmps-args.size) undef).size=fn.ntmps:=by rw[Array.size_append,Array.size_replicate];omega
 have hund:∀t,args.size<=t->(args++Array.replicate (fn.ntmps-args.size) undef).getD t undef=undef:=by
  intro t ht;rw[Array.getD_eq_getD_getElem?,Array.getElem?_append_right ht];by_cases h:t-args.size<fn.ntmps-args.size;·simp[Array.getElem?_replicate,h]
  ·simp[Array.getElem?_replicate,h]
 have hR:R w E.lab oo fn.ntmps (dO k ps lit X) E { tmps:=args++Array.replicate (fn.ntmps-args.size) undef,defers:=[] } w:=by
  refine⟨hn2,hsz,rfl,λt=>?_,st.boxes,st.rows,⟨rfl,⟨rfl,λ_=>Nat.le_refl _⟩,rfl,Nat.le_refl _,λk hk hl=>⟨hl,rfl⟩,λk hk hl=>⟨hl,rfl⟩⟩⟩;have hval:dq oo { tmps:=args++Array.replicate (fn.ntmps-args.size) undef,defers:=[] } t=if t<100000 then args.getD t undef else args.getD (t-100000) undef:=by
   unfold dq;by_cases ht:t<100000
   ·rw[if_pos ht,if_pos ht];by_cases hlt:t<args.size;·simp only[Array.getD_eq_getD_getElem?];rw[Array.getElem?_append_left hlt]
    ·rw[hund t (by omega),Array.getD_eq_getD_getElem?,Array.getElem?_eq_none (by omega)];rfl
   ·rw[if_neg ht,if_neg ht]
  rw[hval];show aL (dO k ps lit X) E w (fP (s8 ps X.2) t) _;unfold fP;split;·rename_i s hs;exact st.slots t s hs
  ·show True;trivial
 have hend:∀V' E' a' w',s9 T k ps back rs fn.results.toList V'=some (lit,val X)->R w E.lab oo fn.ntmps V' E' a' w'->a'.defers=[]/\∃v,(results fn a'.tmps).run P w'=.ok v w' /\
   ∃vs Lb Lr,Ending.returned v=Ending.returned v/\xk w ⟨k,ps,back,rs,pre,val⟩ args.toList lit g L (val X) v w' vs Lb Lr:=by
  intro V' E' a' w' hfin h';refine⟨h'.defers, ?_⟩;unfold s9 at hfin;split at hfin
  ·rename_i ss cs hss hrf;cases hq:(oa V' (some (k.te,k.t))&&(dL (aH (iy rs ss++qv V' back ps))&&(aH (cs.drop k.fx.length)).isEmpty));·rw[hq]at hfin;cases hfin
   rw[hq]at hfin;simp only[Bool.and_eq_true,List.isEmpty_iff]at hq;obtain⟨hkept,hnd,hnone⟩:=hq;obtain⟨hz,hfin⟩:=qk (show iz V'.row rs ss _=some (lit,val X)from hfin);obtain⟨p0,p123⟩:=ef (z:=(lit,val X)) hfin;obtain⟨p1,p23⟩:=ef (z:=val X) p123;obtain⟨p2,p3⟩:=ef (z:=(val X).2) p23;have hnd:=iW hnd;rw[gP]at hnd;obtain⟨n1,n2,n3⟩:=List.nodup_append.1 hnd;obtain⟨vs,v1,v2⟩:=qp hT h' hss;obtain⟨v,r1,r2⟩:=qq v2;obtain⟨Lr,l1,l2,l3⟩:=sZ h' p3 hz v1 n1;simp only[s0]at hrf;split at hrf
   ·rename_i te cs' hbx;cases hte:Nat.beq te k.te;·rw[hte]at hrf;cases hrf
    rw[hte]at hrf;injection hrf with hrf;subst hrf;obtain rfl:=Nat.eq_of_beq_eq_true hte;obtain⟨arr,k1,k2,k3,k4⟩:=h'.boxes 100000 _ _ hbx;have k1:=k1.cells (by simpa using hsm);have hs0:aL V' E' w' (V'.slot 100000) (dq oo a' 100000):=h'.slots 100000;simp only[oa]at hkept;split at hkept
    ·rename_i hsl;rw[hsl]at hs0;obtain⟨hp,_⟩:=(show am V' E' w' (.box 100000 0) _ from hs0);have hu:dq oo a' 100000=v0:=by unfold dq;rw[if_neg (by omega)];exact lf (by rw[hal];rfl)
     rw[hu,hv0]at hp;injection hp with hp;injection hp with hp;injection hp with hp;rw[<-hp]at k1 k2;have e0:arr.toList.take k.fx.length=lit:=yj p0 (k3.take k.fx.length);obtain⟨L1,o1,o2,o3⟩:=gR h' p1 (k3.drop k.fx.length) (by rw[hnone];exact List.nodup_nil);have hL1:L1=[]:=by
      cases L1 with
      |nil=>rfl
      |cons x xs =>obtain⟨q,q1,_⟩:=o3 x List.mem_cons_self;rw[hnone]at q1;cases q1
     subst hL1;obtain⟨Lb,b1,b2,b3⟩:∃Lb,sJ w' Lb back ps args.toList.tail (val X).2.1/\Lb.Nodup/\∀q∈Lb,∃r∈aH (qv V' back ps),dM E'.lab r q:=by rw[hal];exact Mw (vs:=vs0) h' p2 hag.len (λj u hu=>by show args.getD (100000+(1+j)-100000) undef=u;rw[show 100000+(1+j)-100000=j+1 from by omega];exact lf (by rw[hal];simpa using hu)) n2
     have hold:∀q r,dM E'.lab r q->q∈L\/w.heap.size<=q:=by
      intro q r hk;by_cases h1:q∈g::L
      ·rcases List.mem_cons.1 h1 with rfl|h1;·rcases hk with hk|hk<;>rw[k2]at hk<;>cases hk
       ·exact .inl h1
      ·refine .inr (Nat.le_of_not_lt λhlt=>?_);have:=(h'.same.old q hlt (st.out q h1)).1;rcases hk with hk|hk<;>rw[this]at hk<;>cases hk
     refine⟨v,r1,vs,Lb,Lr,rfl,r2,l1,⟨arr,_,k1,k4, ?_,o1⟩,b1,List.nodup_append.2 ⟨l2,b2,λx hx z hz e=>?_⟩,λq hq=>?_,h'.same.os,h'.same.tape,h'.same.output,h'.same.size,λq hq hqL=>(h'.same.old q hq (st.out q hqL)).2⟩;·rw[<-e0];exact(List.take_append_drop _ _).symm
     ·subst e;obtain⟨q,q1,q2⟩:=l3 x hx;obtain⟨q',q1',q2'⟩:=b3 x hz;exact n3 q q1 q' q1' (jZ q2 q2')
     ·rcases List.mem_append.1 hq with hq|hq;·obtain⟨r,q1,q2⟩:=l3 q hq;exact hold q r q2
      ·obtain⟨r,q1,q2⟩:=b3 q hq;exact hold q r q2
    ·cases hkept
   ·cases hrf
  ·cases hfin
 refine calls_of_wp hf hb (ix hT (hΓ.at hI λk hk=>st.out k λhl=>hBL k hl hk) hm c pl hc hR hr ?_ (g0.join ?_ _));·intro ch a a' w' hq;obtain⟨_,v,vs,L',Lr,he,_⟩:=hq;cases he
 ·intro e V' E' a' w' hr' h';cases e with
  |nrm =>obtain⟨d1,v,d2,vs,L',Lr,d3,d4⟩:=hend V' E' a' w' hr' h';exact⟨d1,v,d2,v,vs,L',Lr,rfl,d4⟩
  |ret =>obtain⟨d1,v,d2,vs,L',Lr,d3,d4⟩:=hend V' E' a' w' hr' h';exact⟨d1,v,d2,v,vs,L',Lr,rfl,d4⟩
  |exit i=>cases hr'
def mM(e:Nat)(t0:Ty)(ps:List PT)(v0:Value)(X:List t0.den×av ps):St:=af ((0,.c (.bor v0 e t0 X.1))::(b8 ps X.2 1 0).1) [] []
def tb(T:bj)(k:dh)(rv:List ResultVar)(V:St):Option (List Value×k.t.den) :=
 match jA T V rv with
 |some [.c (.box b 0)]=>match V.box b with
  |some (te,cs)=>cond (Nat.beq te k.te&&(aH (cs.drop k.fx.length)).isEmpty) (ee (qu (cs.take k.fx.length)) (dJ V.row k.t (cs.drop k.fx.length))) none
  |none=>none
 |_=>none
def CQ(T:bj)(k:dh)(rv:List ResultVar):Ex->St->Option (List Value×k.t.den)
 |.nrm,V=>tb T k rv V
 |.ret,V=>tb T k rv V
 |.exit _,_=>none
theorem My [Inv P] {f : Nat} {fn : Func} {c : Code} {te e : Nat} {t0 t : Ty} {ps : List PT} {pre : Option (av (⟨.sl e t0, false, false⟩ :: ps) → Bool)} {val : av (⟨.sl e t0, false, false⟩ :: ps) → t.den} {pl : cP} {je : Option ab} (hf : P.funcs[f]? = some fn) (hb : fn.body = some c) (hname : (fn.name == "runtime.NumGoroutine") = false)
  (hm:P.follows .mixedOrders=true) (hT:be P T) (hΓ:ao P Γ) (hc:eT fn.ntmps c=true) (hn:Nat.ble (ps.length+1) fn.ntmps=true) (hn2:Nat.ble fn.ntmps 100000=true) (hno:ck ps=true)
  (hG:∀v0 X,gA (⟨.sl e t0,false,false⟩::ps) X->cq pre X=true->∃N,an Γ T B N c pl (mM e t0 ps v0 X) (ay je (CQ T ⟨te,[(e,t0)],t⟩ fn.results.toList))=some ([v0],val X)) (hsm:Nat.blt te cd=true:=by rfl):kW P f ⟨⟨te,[(e,t0)],t⟩,⟨.sl e t0,false,false⟩::ps,pre,val⟩:=by
 intro w args X ha hpre hI;have ha:dN w (λ_=>True) (⟨.sl e t0,false,false⟩::ps) args.toList X []:=ha;have hbd:=ha.bd;match hal:args.toList,ha with
 |[],ha=>exact ha.elim
 |v0::vs0,ha =>
 obtain⟨cs0,L1,L2,hLL,hcv,hrd,ha⟩:=ha;have hcv:cs0=[v0]:=hcv;subst hcv;obtain⟨rfl,hrd⟩:L1=[]/\Rd w (λ_=>True) (.sl e t0) [v0] X.1:=hrd;have hL2:L2=[]:=by simpa using hLL.symm
 subst hL2;obtain⟨N,hr⟩:=hG v0 X hbd hpre;have hn:=Nat.le_of_ble_eq_true hn;have hn2:=Nat.le_of_ble_eq_true hn2;have hl:=ha.len;have hlen:args.size=ps.length+1:=by have e:=congrArg List.length hal;simp at e;omega
 refine .inl ⟨?_, ?_⟩
 ·have h1 : ¬ fn.name = "runtime.NumGoroutine" := by simpa using hname
  have h2:¬ fn.body=none:=by rw[hb];simp
  simp[callFunc,hf,h1,h2]
 obtain⟨f2,v2,a2,b2⟩:=qr (i:=1) (j:=0) ha List.nodup_nil;let E:aP:=⟨λ_=>.st,v2,λ_=>0⟩;have hrows:(b8 ps X.2 1 0).2=[]:=by
  have:∀{ps:List PT}{X:av ps}{i j:Nat},ck ps=true->(b8 ps X i j).2=[]:=by
   intro ps;induction ps with
   |nil=>intro X i j _;rfl
   |cons p ps ih =>intro X i j h;obtain⟨t,agg,io⟩:=p;simp only[ck,List.all_cons,Bool.and_eq_true,Bool.not_eq_true']at h;obtain⟨hio,h⟩:=h;subst hio;exact ih h
  exact this hno
 obtain⟨g3,_⟩:=b2 (mM e t0 ps v0 X) E (λk hk=>by cases hk) (λ_ _=>rfl) (λp hp=>rfl) (λp hp=>by rw[hrows]at hp;cases hp);let oo:Nat->Value:=λt=>undef;have hsz:(args++Array.replicate (fn.ntmps-args.size) undef).size=fn.ntmps:=by rw[Array.size_append,Array.size_replicate];omega
 have hget:∀m v,args.toList[m]? = some v->(args++Array.replicate (fn.ntmps-args.size) undef).getD m undef=v:=λm v h=>by
  have hlt:m<args.size:=by have:=(List.getElem?_eq_some_iff.1 h).1;simpa using this
  rw[Array.getD_eq_getD_getElem?,Array.getElem?_append_left hlt];have:args[m]? = some v:=by simpa using h
  rw[this];rfl
 have hR:R w E.lab oo fn.ntmps (mM e t0 ps v0 X) E { tmps:=args++Array.replicate (fn.ntmps-args.size) undef,defers:=[] } w:=by
  refine⟨hn2,hsz,rfl,λt=>?_,λb te cs hb=>(by cases hb),λr row hr=>(by cases hr),⟨rfl,⟨rfl,λ_=>Nat.le_refl _⟩,rfl,Nat.le_refl _,λk hk hl=>⟨hl,rfl⟩,λk hk hl=>⟨hl,rfl⟩⟩⟩;show aL (mM e t0 ps v0 X) E w (fP ((0,.c (.bor v0 e t0 X.1))::(b8 ps X.2 1 0).1) t) _;refine yb λp hp ep=>?_;have hv:∀m v,args.toList[m]? = some v->t=m->dq oo { tmps:=args++Array.replicate (fn.ntmps-args.size) undef,defers:=[] } t=v:=λm v h1 h2=>by
   have hlt:m<args.size:=by have:=(List.getElem?_eq_some_iff.1 h1).1;simpa using this
   unfold dq;rw[if_pos (by omega),h2];exact hget m v h1
  rcases List.mem_cons.1 hp with rfl|hp;·rw[hv 0 v0 (by rw[hal];rfl) ep.symm];exact(show am (mM e t0 ps v0 X) E w (.bor v0 e t0 X.1) v0 from⟨rfl,hrd.mono λ_ _=>rfl⟩)
  ·obtain⟨m,v,q1,q2,q3⟩:=g3 p hp;rw[hv (m+1) v (by rw[hal];simpa using q1) (by omega)];exact q3
 have hend:∀V' E' a' w',tb T ⟨te,[(e,t0)],t⟩ fn.results.toList V'=some ([v0],val X)->R w E.lab oo fn.ntmps V' E' a' w'->a'.defers=[]/\∃v,(results fn a'.tmps).run P w'=.ok v w' /\
   ∃g,Ending.returned v=Ending.returned v/\xm w ⟨⟨te,[(e,t0)],t⟩,⟨.sl e t0,false,false⟩::ps,pre,val⟩ (v0::vs0) (val X) v w' g:=by
  intro V' E' a' w' hfin h';refine⟨h'.defers, ?_⟩;unfold tb at hfin;split at hfin
  ·rename_i b hss;split at hfin
   ·rename_i te' cs hbx;simp only at hfin;cases hq:(Nat.beq te' te&&(aH (cs.drop ([(e,t0)]:List (Nat×Ty)).length)).isEmpty);·rw[hq]at hfin;cases hfin
    rw[hq]at hfin;simp only[Bool.and_eq_true,List.isEmpty_iff]at hq;obtain⟨hte,hnone⟩:=hq;obtain rfl:=Nat.eq_of_beq_eq_true hte;obtain⟨p0,p1⟩:=ef (z:=([v0],val X)) hfin;obtain⟨vs,v1,v2⟩:=qp hT h' hss;obtain⟨v,r1,r2⟩:=qq v2;match vs,v1 with
    |[],v1=>exact v1.elim
    |_::_::_,v1=>exact v1.2.elim
    |[u],v1 =>
    obtain rfl:v=u:=r2;obtain⟨hp,_⟩:=(show am V' E' w' (.box b 0) v from v1.1);obtain⟨arr,k1,k2,k3,k4⟩:=h'.boxes b _ _ hbx;have k1:=k1.cells (by simpa using hsm);have e0:arr.toList.take ([(e,t0)]:List (Nat×Ty)).length=[v0]:=yj p0 (k3.take _);obtain⟨L1,o1,o2,o3⟩:=gR h' p1 (k3.drop _) (by rw[hnone];exact List.nodup_nil);have hL1:L1=[]:=by
     cases L1 with
     |nil=>rfl
     |cons x xs =>obtain⟨q,q1,_⟩:=o3 x List.mem_cons_self;rw[hnone]at q1;cases q1
    subst hL1;refine⟨v,r1,E'.bb b,rfl,hp,Nat.le_of_not_lt λhlt=>?_,⟨arr,_,k1,k4, ?_,o1⟩,h'.same.os,h'.same.tape,h'.same.output,h'.same.size,λq hq=>(h'.same.old q hq rfl).2⟩;·have:=(h'.same.old _ hlt rfl).1;rw[k2]at this;cases this
    ·show arr.toList=(v0::vs0).take 1++_;rw[show(v0::vs0).take 1=[v0]from rfl,<-e0];exact(List.take_append_drop _ _).symm
   ·cases hfin
  ·cases hfin
 refine calls_of_wp hf hb (ix hT (hΓ.at hI λk hk=>rfl) hm c pl hc hR hr ?_ (g0.join ?_ _));·intro ch a a' w' hq;obtain⟨_,v,g,he,_⟩:=hq;cases he
 ·intro ex V' E' a' w' hr' h';cases ex with
  |nrm =>obtain⟨d1,v,d2,g,d3,d4⟩:=hend V' E' a' w' hr' h';exact⟨d1,v,d2,v,g,rfl,d4⟩
  |ret =>obtain⟨d1,v,d2,g,d3,d4⟩:=hend V' E' a' w' hr' h';exact⟨d1,v,d2,v,g,rfl,d4⟩
  |exit i=>cases hr'
end
def od(ps:List PT)(X:av ps):St:=af (b8 ps X 0 0).1 [] []
def tc(T:bj)(e:Nat)(t:Ty)(rv:List ResultVar)(V:St):Option (List t.den) :=
 match jA T V rv with
 |some [.c (.own r)]=>match V.row r with
  |some row=>cond (Nat.beq row.e e&&!row.deep) (dI row.t t row.xs) none
  |none=>none
 |_=>none
def CR(T:bj)(e:Nat)(t:Ty)(rv:List ResultVar):Ex->St->Option (List t.den)
 |.nrm,V=>tc T e t rv V
 |.ret,V=>tc T e t rv V
 |.exit _,_=>none
section
variable {P : Program} {T : bj} {Γ : Gm} {B : Nat → Option ab} [DC]
theorem Mz [Inv P] {f : Nat} {fn : Func} {c : Code} {e : Nat} {t : Ty} {ps : List PT} {pre : Option (av ps → Bool)} {val : av ps → List t.den} {pl : cP} {je : Option ab} (hf : P.funcs[f]? = some fn) (hb : fn.body = some c) (hname : (fn.name == "runtime.NumGoroutine") = false)
  (hm:P.follows .mixedOrders=true) (hT:be P T) (hΓ:ao P Γ) (hc:eT fn.ntmps c=true) (hn:Nat.ble ps.length fn.ntmps=true) (hn2:Nat.ble fn.ntmps 100000=true) (hno:ck ps=true)
  (hG:∀X,gA ps X->cq pre X=true->∃N,an Γ T B N c pl (od ps X) (ay je (CR T e t fn.results.toList))=some (val X)):kY P f ⟨ps,e,t,pre,val⟩:=by
 intro w args S X ha hpre hI hBS;have ha:dN w S ps args.toList X []:=ha;obtain⟨N,hr⟩:=hG X ha.bd hpre;have hn:=Nat.le_of_ble_eq_true hn;have hn2:=Nat.le_of_ble_eq_true hn2;have hlen:args.size=ps.length:=by have:=ha.len;simpa using this
 refine .inl ⟨?_, ?_⟩
 ·have h1 : ¬ fn.name = "runtime.NumGoroutine" := by simpa using hname
  have h2:¬ fn.body=none:=by rw[hb];simp
  simp[callFunc,hf,h1,h2]
 obtain⟨f2,v2,a2,b2⟩:=qr (i:=0) (j:=0) ha List.nodup_nil
 classical
 let E:aP:=⟨λk=>if S k then .st else .dead,v2,λ_=>0⟩;have hst:∀k,S k->E.lab k=.st:=λk hk=>if_pos hk;have hdd:∀k,¬ S k->E.lab k=.dead:=λk hk=>if_neg hk;have hrows:(b8 ps X 0 0).2=[]:=by
  have:∀{ps:List PT}{X:av ps}{i j:Nat},ck ps=true->(b8 ps X i j).2=[]:=by
   intro ps;induction ps with
   |nil=>intro X i j _;rfl
   |cons p ps ih =>intro X i j h;obtain⟨t,agg,io⟩:=p;simp only[ck,List.all_cons,Bool.and_eq_true,Bool.not_eq_true']at h;obtain⟨hio,h⟩:=h;subst hio;exact ih h
  exact this hno
 obtain⟨g3,_⟩:=b2 (od ps X) E (λk hk=>by cases hk) hst (λp hp=>rfl) (λp hp=>by rw[hrows]at hp;cases hp);let oo:Nat->Value:=λt=>undef;have hsz:(args++Array.replicate (fn.ntmps-args.size) undef).size=fn.ntmps:=by rw[Array.size_append,Array.size_replicate];omega
 have hR:R w E.lab oo fn.ntmps (od ps X) E { tmps:=args++Array.replicate (fn.ntmps-args.size) undef,defers:=[] } w:=by
  refine⟨hn2,hsz,rfl,λt=>?_,λb te cs hb=>(by cases hb),λr row hr=>(by cases hr),⟨rfl,⟨rfl,λ_=>Nat.le_refl _⟩,rfl,Nat.le_refl _,λk hk hl=>⟨hl,rfl⟩,λk hk hl=>⟨hl,rfl⟩⟩⟩;show aL (od ps X) E w (fP (b8 ps X 0 0).1 t) _;refine yb λp hp ep=>?_;obtain⟨m,v,q1,q2,q3⟩:=g3 p hp;have hlt:m<args.size:=by have:=(List.getElem?_eq_some_iff.1 q1).1;simpa using this
  have hv:dq oo { tmps:=args++Array.replicate (fn.ntmps-args.size) undef,defers:=[] } t=v:=by
   unfold dq;rw[if_pos (by omega),show t=m by omega];show(args++Array.replicate (fn.ntmps-args.size) undef).getD m undef=v;rw[Array.getD_eq_getD_getElem?,Array.getElem?_append_left hlt];have:args[m]? = some v:=by simpa using q1
   rw[this];rfl
  rw[hv];exact q3
 have hend:∀V' E' a' w',tc T e t fn.results.toList V'=some (val X)->R w E.lab oo fn.ntmps V' E' a' w'->a'.defers=[]/\∃v,(results fn a'.tmps).run P w'=.ok v w'/\sM w S e t (val X) v w':=by
  intro V' E' a' w' hfin h';refine⟨h'.defers, ?_⟩;unfold tc at hfin;split at hfin
  ·rename_i r hss;split at hfin
   ·rename_i row hrow;cases hq:(Nat.beq row.e e&&!row.deep);·rw[hq]at hfin;cases hfin
    rw[hq]at hfin;simp only[Bool.and_eq_true,Bool.not_eq_true']at hq;obtain⟨hqe,hqd⟩:=hq;obtain⟨e2,t2,xs2,dp2,nl2⟩:=row;obtain rfl:e2=e:=Nat.eq_of_beq_eq_true hqe;obtain rfl:dp2=false:=hqd;obtain⟨htt,hys⟩:=gQ (show dI t2 t xs2=some (val X)from hfin);obtain rfl:t2=t:=htt;have hys:xs2=val X:=hys;obtain⟨vs,v1,v2⟩:=qp hT h' hss;obtain⟨v,r1,r2⟩:=qq v2;match vs,v1 with
    |[],v1=>exact v1.elim
    |_::_::_,v1=>exact v1.2.elim
    |[u],v1 =>
    obtain rfl:v=u:=r2;obtain⟨hv,_,_⟩:=(show am V' E' w' (.own r) v from v1.1);obtain⟨css,k1,k2,k3,_⟩:=h'.rows r _ hrow;rw[<-hv]at k1 k2;have k3:ak (λc y=>Rd w' (λk=>E'.lab k=.st) t2 c y) css xs2:=k3;have fr:∀k,k<w.heap.size->E'.lab k=E.lab k/\w'.heap[k]? = w.heap[k]?:=λk hk=>by
     by_cases hs:S k;·have:=h'.same.old k hk (hst k hs);exact⟨this.1.trans (hst k hs).symm,this.2⟩
     ·have:=h'.same.gone k hk (hdd k hs);exact⟨this.1.trans (hdd k hs).symm,this.2⟩
    refine⟨v,r1,⟨css,by rw[<-hys];exact k1,by
     rw[<-hys];refine k3.imp λc y hy=>hy.mono λk hk=>⟨λhv'=>?_, ?_⟩;·have:=k2 k hv';rw[this]at hk;cases hk
     ·by_cases hlt:k<w.heap.size;·refine .inl (Classical.byContradiction λhs=>?_);have:=(fr k hlt).1;rw[hk,hdd k hs]at this;cases this
      ·exact .inr (Nat.le_of_not_lt hlt)⟩,λk hk=>Nat.le_of_not_lt λhlt=>?_,h'.same.os,h'.same.tape,h'.same.output,h'.same.size,λk hk=>(fr k hk).2⟩
    have h1:=k2 k hk;rw[(fr k hlt).1]at h1;by_cases hs:S k;·rw[hst k hs]at h1;cases h1
    ·rw[hdd k hs]at h1;cases h1
   ·cases hfin
  ·cases hfin
 refine calls_of_wp hf hb (ix hT (hΓ.at hI λk hk=>hst k (hBS k hk)) hm c pl hc hR hr ?_ (g0.join ?_ _));·intro ch a a' w' hq;obtain⟨_,v,he,_⟩:=hq;cases he
 ·intro ex V' E' a' w' hr' h';cases ex with
  |nrm =>obtain⟨d1,v,d2,d3⟩:=hend V' E' a' w' hr' h';exact⟨d1,v,d2,v,rfl,d3⟩
  |ret =>obtain⟨d1,v,d2,d3⟩:=hend V' E' a' w' hr' h';exact⟨d1,v,d2,v,rfl,d3⟩
  |exit i=>cases hr'
end
def MA[DC]{P:Program}[Inv P]{Γ:Gm}{T:bj}{B:Nat->Option ab}{f:Nat}{fn:Func}{c:Code}{e:Nat}{t:Ty}{ps:List PT}{pre:Option (av ps->Bool)}{val:av ps->List t.den}{pl:cP}{je:Option ab}
  {W:Nat->av ps->(Ex->St->Option (List t.den))->Option (List t.den)} (hf:P.funcs[f]? = some fn) (hT:be P T) (hΓ:ao P Γ)
  (ht:∀N X K,an Γ T B N c pl (od ps X) (ay je K)=W N X K)
  (hb : (fn.body, fn.name == "runtime.NumGoroutine", P.follows .mixedOrders, eT fn.ntmps c && (Nat.ble ps.length fn.ntmps && (Nat.ble fn.ntmps 100000 && ck ps))) = (some c, false, true, true))
  (hG:∀X,gA ps X->cq pre X=true->∃N,W N X (CR T e t fn.results.toList)=some (val X)):kY P f ⟨ps,e,t,pre,val⟩:=by
 have h4:=congrArg (λq=>q.2.2.2) hb;simp only[Bool.and_eq_true]at h4;exact Mz hf (congrArg Prod.fst hb) (congrArg (λq=>q.2.1) hb) (congrArg (λq=>q.2.2.1) hb) hT hΓ h4.1 h4.2.1 h4.2.2.1 h4.2.2.2 (λX h1 h2=>by obtain⟨N,h⟩:=hG X h1 h2;exact⟨N,(ht N X _).trans h⟩)
abbrev KT(J:Type):Type:=Ex->St->Option J
section
variable {J : Type} {Γ : Gm} {T : bj} {B : Nat → Option ab} {N : Nat} {c a b : Code} {p pa pb : cP} {V : St} {K : KT J}
def CS{x:Operand}{t:Bool}{A A' W:Option J}(hc:c=.cond x a b)(hp:p=.mk none none pa pb)(hx:ev V x=.c (.bool t))
  (h1:an Γ T B N a pa V K=A) (h2:an Γ T B N b pb V K=A') (e:cond t A A'=W):an Γ T B N c p V K=W:=by
 subst hc hp h1 h2;rw[<-e];show(match ev V x with|.c (.bool t)=>cond t (an Γ T B N a pa V K) (an Γ T B N b pb V K)|_=>none)=_;rw[hx]
def CT{id:Nat}{lm:ab}{Z W:Option J}(hc:c=.block id a)(hp:p=.mk (some lm) none pa .n)
  (h1:an Γ T B N a pa V (ay (some lm) (qg id K))=Z) (e:Z=W):an Γ T B N c p V K=W:=by
 subst hc hp e;exact h1
def CU{cl:ab}{V':St}{Z W:Option J}(hc:c=.loop a)(hp:p=.mk none (some cl) pa .n)(hs:gZ cl V=some V')
  (h1:cg (λV K=>an Γ T B N a pa V K) cl N V' K=Z) (e:Z=W):an Γ T B N c p V K=W:=by
 subst hc hp e;show((gZ cl V).bind λσ0=>cg (λV K=>an Γ T B N a pa V K) cl N σ0 K)=_;rw[hs];exact h1
def MC{β:Type}(f:β->Option J){cl1 cl:ab}{V':St}{Z W:Option J}{k k':β}(hc:(c,p,gZ cl1 V)=(Code.loop a,cP.mk (some cl1) (some cl) pa pb,some V'))
  (h1:an Γ T B N a pb V' (ay (some cl) (cA (λV''=>cg (λV K=>an Γ T B N a pa V K) cl N V'' K) K))=Z) (h2:k=k') (e:(Z,f k')=(f k,W)):an Γ T B N c p V K=W:=by
 obtain⟨rfl,rfl,hs⟩:c=Code.loop a/\p=cP.mk (some cl1) (some cl) pa pb/\gZ cl1 V=some V':=⟨congrArg Prod.fst hc,congrArg (λq=>q.2.1) hc,congrArg (λq=>q.2.2) hc⟩;subst h2;have e1:Z=f k:=congrArg Prod.fst e;have e2:f k=W:=congrArg Prod.snd e;rw[<-e2,<-e1,<-h1];show((gZ cl1 V).bind λσ0=>an Γ T B N a pb σ0 (ay (some cl) (cA (λV''=>cg (λV K=>an Γ T B N a pa V K) cl N V'' K) K)))=_;rw[hs];rfl
end
abbrev I2(α:Type):Type:=Int->Int->α
abbrev I3(α:Type):Type:=Int->Int->Int->α
abbrev I4(α:Type):Type:=Int->Int->Int->Int->α
abbrev I5(α:Type):Type:=Int->Int->Int->Int->Int->α
abbrev I6(α:Type):Type:=Int->Int->Int->Int->Int->Int->α
abbrev I7(α:Type):Type:=Int->Int->Int->Int->Int->Int->Int->α
abbrev I8(α:Type):Type:=Int->Int->Int->Int->Int->Int->Int->Int->α
def aT:Nat->Code->Nat->Code
 |0,c,_=>c
 |F+1,c,n=>cond (Nat.ble n 1) c (match c with
  |.seq a b=>cond (Nat.beq (n%2) 0) (aT F a (n / 2)) (aT F b (n / 2))
  |.cond _ a b=>cond (Nat.beq (n%2) 0) (aT F a (n / 2)) (aT F b (n / 2))
  |.block _ c=>aT F c (n / 2)
  |.loop c=>aT F c (n / 2)
  |c=>c)
abbrev yi(n:Int):ai:=.int .i64 n
abbrev xi(n:Int):SV:=.c (.int .i64 n)
abbrev xo(n:Nat):SV:=.c (.own n)
abbrev xb(n:Nat):SV:=.c (.box n 0)
abbrev xB(b:Bool):SV:=.c (.bool b)
abbrev tI:Ty:=.int .i64
abbrev tM(e:Nat):Ty:=.pair tI (.pair tI (.sl e tI))
abbrev LI:Type:=List Int
abbrev LL:Type:=List (List Int)
abbrev MT:Type:=Int×Int×List Int
abbrev LM:Type:=List MT
def cV{α0 α1 β:Type}{f g:α0->α1->β}(h:∀x0 x1,f x0 x1=g x0 x1):f=g:=funext λx0=>funext λx1=>h x0 x1
def cF{α0 α1 α2 β:Type}{f g:α0->α1->α2->β}(h:∀x0 x1 x2,f x0 x1 x2=g x0 x1 x2):f=g:=funext λx0=>funext λx1=>funext λx2=>h x0 x1 x2
def d7{α0 α1 α2 α3 β:Type}{f g:α0->α1->α2->α3->β}(h:∀x0 x1 x2 x3,f x0 x1 x2 x3=g x0 x1 x2 x3):f=g:=funext λx0=>funext λx1=>funext λx2=>funext λx3=>h x0 x1 x2 x3
def cn{α0 α1 α2 α3 α4 β:Type}{f g:α0->α1->α2->α3->α4->β}(h:∀x0 x1 x2 x3 x4,f x0 x1 x2 x3 x4=g x0 x1 x2 x3 x4):f=g:=funext λx0=>funext λx1=>funext λx2=>funext λx3=>funext λx4=>h x0 x1 x2 x3 x4
def cB{α0 α1 α2 α3 α4 α5 β:Type}{f g:α0->α1->α2->α3->α4->α5->β}(h:∀x0 x1 x2 x3 x4 x5,f x0 x1 x2 x3 x4 x5=g x0 x1 x2 x3 x4 x5):f=g:=funext λx0=>funext λx1=>funext λx2=>funext λx3=>funext λx4=>funext λx5=>h x0 x1 x2 x3 x4 x5
def eA{α0 α1 α2 α3 α4 α5 α6 β:Type}{f g:α0->α1->α2->α3->α4->α5->α6->β}(h:∀x0 x1 x2 x3 x4 x5 x6,f x0 x1 x2 x3 x4 x5 x6=g x0 x1 x2 x3 x4 x5 x6):f=g:=funext λx0=>funext λx1=>funext λx2=>funext λx3=>funext λx4=>funext λx5=>funext λx6=>h x0 x1 x2 x3 x4 x5 x6
def du{α0 α1 α2 α3 α4 α5 α6 α7 β:Type}{f g:α0->α1->α2->α3->α4->α5->α6->α7->β}(h:∀x0 x1 x2 x3 x4 x5 x6 x7,f x0 x1 x2 x3 x4 x5 x6 x7=g x0 x1 x2 x3 x4 x5 x6 x7):f=g:=funext λx0=>funext λx1=>funext λx2=>funext λx3=>funext λx4=>funext λx5=>funext λx6=>funext λx7=>h x0 x1 x2 x3 x4 x5 x6 x7
def dT{α0 α1 α2 α3 α4 α5 α6 α7 α8 β:Type}{f g:α0->α1->α2->α3->α4->α5->α6->α7->α8->β}(h:∀x0 x1 x2 x3 x4 x5 x6 x7 x8,f x0 x1 x2 x3 x4 x5 x6 x7 x8=g x0 x1 x2 x3 x4 x5 x6 x7 x8):f=g:=funext λx0=>funext λx1=>funext λx2=>funext λx3=>funext λx4=>funext λx5=>funext λx6=>funext λx7=>funext λx8=>h x0 x1 x2 x3 x4 x5 x6 x7 x8
def dA{α0 α1 α2 α3 α4 α5 α6 α7 α8 α9 β:Type}{f g:α0->α1->α2->α3->α4->α5->α6->α7->α8->α9->β}(h:∀x0 x1 x2 x3 x4 x5 x6 x7 x8 x9,f x0 x1 x2 x3 x4 x5 x6 x7 x8 x9=g x0 x1 x2 x3 x4 x5 x6 x7 x8 x9):f=g:=funext λx0=>funext λx1=>funext λx2=>funext λx3=>funext λx4=>funext λx5=>funext λx6=>funext λx7=>funext λx8=>funext λx9=>h x0 x1 x2 x3 x4 x5 x6 x7 x8 x9
def fQ{α0 α1 α2 α3 α4 α5 α6 α7 α8 α9 α10 β:Type}{f g:α0->α1->α2->α3->α4->α5->α6->α7->α8->α9->α10->β}(h:∀x0 x1 x2 x3 x4 x5 x6 x7 x8 x9 x10,f x0 x1 x2 x3 x4 x5 x6 x7 x8 x9 x10=g x0 x1 x2 x3 x4 x5 x6 x7 x8 x9 x10):f=g:=funext λx0=>funext λx1=>funext λx2=>funext λx3=>funext λx4=>funext λx5=>funext λx6=>funext λx7=>funext λx8=>funext λx9=>funext λx10=>h x0 x1 x2 x3 x4 x5 x6 x7 x8 x9 x10
def og{α0 α1 α2 α3 α4 α5 α6 α7 α8 α9 α10 α11 β:Type}{f g:α0->α1->α2->α3->α4->α5->α6->α7->α8->α9->α10->α11->β}(h:∀x0 x1 x2 x3 x4 x5 x6 x7 x8 x9 x10 x11,f x0 x1 x2 x3 x4 x5 x6 x7 x8 x9 x10 x11=g x0 x1 x2 x3 x4 x5 x6 x7 x8 x9 x10 x11):f=g:=funext λx0=>funext λx1=>funext λx2=>funext λx3=>funext λx4=>funext λx5=>funext λx6=>funext λx7=>funext λx8=>funext λx9=>funext λx10=>funext λx11=>h x0 x1 x2 x3 x4 x5 x6 x7 x8 x9 x10 x11
def qw{α0 α1 α2 α3 α4 α5 α6 α7 α8 α9 α10 α11 α12 β:Type}{f g:α0->α1->α2->α3->α4->α5->α6->α7->α8->α9->α10->α11->α12->β}(h:∀x0 x1 x2 x3 x4 x5 x6 x7 x8 x9 x10 x11 x12,f x0 x1 x2 x3 x4 x5 x6 x7 x8 x9 x10 x11 x12=g x0 x1 x2 x3 x4 x5 x6 x7 x8 x9 x10 x11 x12):f=g:=funext λx0=>funext λx1=>funext λx2=>funext λx3=>funext λx4=>funext λx5=>funext λx6=>funext λx7=>funext λx8=>funext λx9=>funext λx10=>funext λx11=>funext λx12=>h x0 x1 x2 x3 x4 x5 x6 x7 x8 x9 x10 x11 x12
def td{α0 α1 α2 α3 α4 α5 α6 α7 α8 α9 α10 α11 α12 α13 β:Type}{f g:α0->α1->α2->α3->α4->α5->α6->α7->α8->α9->α10->α11->α12->α13->β}(h:∀x0 x1 x2 x3 x4 x5 x6 x7 x8 x9 x10 x11 x12 x13,f x0 x1 x2 x3 x4 x5 x6 x7 x8 x9 x10 x11 x12 x13=g x0 x1 x2 x3 x4 x5 x6 x7 x8 x9 x10 x11 x12 x13):f=g:=funext λx0=>funext λx1=>funext λx2=>funext λx3=>funext λx4=>funext λx5=>funext λx6=>funext λx7=>funext λx8=>funext λx9=>funext λx10=>funext λx11=>funext λx12=>funext λx13=>h x0 x1 x2 x3 x4 x5 x6 x7 x8 x9 x10 x11 x12 x13
def ME{α0 α1 α2 α3 α4 α5 α6 α7 α8 α9 α10 α11 α12 α13 α14 β:Type}{f g:α0->α1->α2->α3->α4->α5->α6->α7->α8->α9->α10->α11->α12->α13->α14->β}(h:∀x0 x1 x2 x3 x4 x5 x6 x7 x8 x9 x10 x11 x12 x13 x14,f x0 x1 x2 x3 x4 x5 x6 x7 x8 x9 x10 x11 x12 x13 x14=g x0 x1 x2 x3 x4 x5 x6 x7 x8 x9 x10 x11 x12 x13 x14):f=g:=funext λx0=>funext λx1=>funext λx2=>funext λx3=>funext λx4=>funext λx5=>funext λx6=>funext λx7=>funext λx8=>funext λx9=>funext λx10=>funext λx11=>funext λx12=>funext λx13=>funext λx14=>h x0 x1 x2 x3 x4 x5 x6 x7 x8 x9 x10 x11 x12 x13 x14
def CV{α0 α1 α2 α3 α4 α5 α6 α7 α8 α9 α10 α11 α12 α13 α14 α15 β:Type}{f g:α0->α1->α2->α3->α4->α5->α6->α7->α8->α9->α10->α11->α12->α13->α14->α15->β}(h:∀x0 x1 x2 x3 x4 x5 x6 x7 x8 x9 x10 x11 x12 x13 x14 x15,f x0 x1 x2 x3 x4 x5 x6 x7 x8 x9 x10 x11 x12 x13 x14 x15=g x0 x1 x2 x3 x4 x5 x6 x7 x8 x9 x10 x11 x12 x13 x14 x15):f=g:=funext λx0=>funext λx1=>funext λx2=>funext λx3=>funext λx4=>funext λx5=>funext λx6=>funext λx7=>funext λx8=>funext λx9=>funext λx10=>funext λx11=>funext λx12=>funext λx13=>funext λx14=>funext λx15=>h x0 x1 x2 x3 x4 x5 x6 x7 x8 x9 x10 x11 x12 x13 x14 x15
def gh{α:Type}(μ:α->Nat)(pre:α->Bool)(m:Nat)(X:α):Bool:=Nat.blt (μ X) m&&pre X
def fp.rec[DC]{P:Program}[Inv P]{f:Nat}{rf:Rf}{ps rs:List PT}{pre:cL rf×av ps->Bool}{val:cL rf×av ps->cL rf×av rs}(μ:cL rf×av ps->Nat)
  (step:∀m,fp P f ⟨rf,ps,rs,some (gh μ pre m),val⟩->fp P f ⟨rf,ps,rs,some (gh μ pre (m+1)),val⟩):fp P f ⟨rf,ps,rs,some pre,val⟩:=by
 have all:∀m,fp P f ⟨rf,ps,rs,some (gh μ pre m),val⟩:=by
  intro m;induction m with
  |zero =>
   intro w args L X _ _ _ hG _ _;have:gh μ pre 0 X=false:=by simp[gh]
   simp[cq,this]at hG
  |succ m ih=>exact step m ih
 intro w args L X h1 h2 h3 hG hI hB;have hp:pre X=true:=hG;refine dg.mono (all (μ X+1) w args L X h1 h2 h3 (show gh μ pre (μ X+1) X=true by simp[gh,hp]) hI hB) ?_;rintro e w' ⟨v,vs,Lf,Lr,he,A⟩
 exact⟨v,vs,Lf,Lr,he,⟨A.ret,A.res,A.ref,A.nodup,A.fresh,A.notg,A.os,A.tape,A.output,A.size,A.old⟩⟩
end Go.Fw
