/- The framework: what a symbolic run of the model's code tells, proved sound. Nothing is assumed. -/
import Derived.Test.YtakkbbpdfmkbnaaFwb
set_option linter.defProp false
set_option linter.unusedVariables false
set_option linter.unusedSectionVars false
set_option linter.unusedSimpArgs false
namespace Go.Fw
open Go.RowKit
structure Gm where
 g:Nat->Option a8
 m:Nat->Option jm
 v:Nat->Option d7
 n:Nat->Option iC
 s:Nat->Option mo
def kK:Op->Option (Operand×Operand×Operand)
 |.pick c x y=>some (c,x,y)
 |_=>none
def pI:Op->Option (Nat×List Operand)
 |.call { callee:=.value (.func f),args:=args,argTypes:=_ }=>some (f,args.toList)
 |_=>none
def pJ(V:St):Op->Option (Nat×List Operand)
 |.call { callee:=.value x,args:=args,argTypes:=_ }=>match ev V x with
  |.c (.fn f [])=>some (f,args.toList)
  |_=>none
 |_=>none
noncomputable def bg{J:Type}(a b:Option J):Option J:=by classical exact if a=b then a else none
@[reducible] noncomputable def bo{J:Type}(a:Option J):Option J:=bg a a
def Bq{J:Type}{a b:Option J}{r:J}(h:bg a b=some r):a=some r/\b=some r:=by
 unfold bg at h;split at h;·rename_i e;exact⟨h,e▸h⟩
 ·cases h
def fD{J:Type}(a:Option J):bg a a=a:=by unfold bg;exact if_pos rfl
noncomputable def wM{J:Type}(step:Nat->Option J):List Nat->Option J
 |[]=>none
 |[i]=>step i
 |i::j::is=>bg (step i) (wM step (j::is))
def Br{J:Type}{step:Nat->Option J}{r:J}:∀{is:List Nat},wM step is=some r->∀i∈is,step i=some r
 |[],h,_,_=>by cases h
 |[i],h,j,hj=>by obtain rfl:=List.mem_singleton.1 hj;exact h
 |i::j::is,h,k,hk=>by
  obtain⟨h1,h2⟩:=Bq h;rcases List.mem_cons.1 hk with rfl|hk;·exact h1
  ·exact Br h2 k hk
def Bs:BinOp->Bool
 |.eql=>true
 |.neq=>true
 |_=>false
def pL(T:bc)(V:St):Op->Bool
 |.binOp op t x y _=>Bs op&&(match T t,ev V x,ev V y with
  |some ti,.c (.sn _ _ _ _),.c .nil=>ti.el.isSome
  |some ti,.c (.own r),.c .nil=>ti.el.isSome&&(match V.row r with
   |some row=>!row.nilE
   |none=>false)
  |_,_,_=>false)
 |_=>false
structure cX where
 d:Nat
 r:Nat
 i:Int
 f:Nat
 el:Option (Nat×Int)
def sC(T:bc)(V:St)(o:Oper):Option cX:=match o.guard,o.op,o.dst with
 |none,.load t x,some d=>match ev V x with
  |.c (.elt r i f)=>match V.row r,T t with
   |some row,some ti=>cond (row.deep&&(ti.el.isSome&&!ti.agg)) (some ⟨d,r,i,f,none⟩) none
   |_,_=>none
  |_=>none
 |_,_,_=>none
inductive Ja where
 |no
 |still (p:cX)
 |sub (p:cX) (f:Nat) (args:List Operand)
 |put (p:cX) (e:Nat) (k:Int) (t:Nat) (x:Operand)
def nF(d:Nat):Option Operand->Bool
 |some (.tmp e)=>Nat.beq e d&&Nat.blt d 100000
 |_=>false
def iD(d:Nat):Option Nat->Bool
 |some e=>!(Nat.beq e d)
 |none=>true
def sD(T:bc)(V:St)(p:cX)(op:Op)(dst:Option Nat):Option cX:=match op,dst with
 |.indexAddr t (.tmp d) i,some e=>cond (Nat.beq d p.d&&(Nat.blt d 100000&&!(Nat.beq e d))) (match ev V (.tmp d),ev V i,T t with
  |.c (.sn _ _ _ _),.c (.int _ k),some ti=>match ti.el with
   |some el=>match T el,V.row p.r with
    |some ei,some row=>cond (Nat.beq ei.zero.length 1) (match jU row.t (row.xs.getD p.i.toNat row.t.dflt) p.f with
     |some ⟨(_,.int _),_⟩=>some ⟨p.d,p.r,p.i,p.f,some (e,k)⟩
     |_=>none) none
    |_,_=>none
   |none=>none
  |_,_,_=>none) none
 |_,_=>none
def sE(p:cX)(op:Op)(dst:Option Nat):Option (Nat×Int×Nat×Operand):=match op,dst,p.el with
 |.store t (.tmp e') x,none,some (e,k)=>cond (Nat.beq e' e&&(Nat.blt e 100000&&Nat.blt p.d 100000)) (some (e,k,t,x)) none
 |_,_,_=>none
def kM(p:cX)(dst:Option Nat):Bool:=match p.el with
 |some (e,_)=>iD e dst
 |none=>true
def lk(N:Nat)(b:Bool):Bool:=match N with
 |0=>b
 |_+1=>b
def aC(N:Nat)(b:Bool):lk N b=b:=by cases N<;>rfl
def pM(N:Nat):af->af
 |.bool b=>.bool (lk N b)
 |c=>c
def pN(N:Nat):SV->SV
 |.c x=>.c (pM N x)
 |.agg l=>.agg l
 |.tup l=>.tup (l.map λp=>(p.1,p.2.map (pM N)))
def Bt(N:Nat)(c:af):pM N c=c:=by cases c<;>simp[pM,aC]
def Bu(N:Nat)(s:SV):pN N s=s:=by have h:pM N=id:=funext (Bt N);cases s<;>simp[pN,Bt,h]
def pO(N:Nat)(op:Op)(c:Bool):Bool:=match op with
 |.binOp .quo _ _ _ _=>lk N c
 |.binOp .rem _ _ _ _=>lk N c
 |.binOp .shl _ _ _ _=>lk N c
 |.binOp .shr _ _ _ _=>lk N c
 |.indexAddr _ _ _=>lk N c
 |.index _ _ _=>lk N c
 |.slice _ _ _ _ _=>lk N c
 |_=>c
def pP(N:Nat)(op:Op)(s:SV):SV:=match op with
 |.binOp _ _ _ _ _=>pN N s
 |.lookup _ _ _ _=>pN N s
 |_=>s
def wN(N:Nat)(op:Op)(c:Bool):pO N op c=c:=by unfold pO;split<;>first|rfl|exact aC N c
def wO(N:Nat)(op:Op)(s:SV):pP N op s=s:=by unfold pP;split<;>first|rfl|exact Bu N s
def kN{α:Type}(N:Nat)(p:Option (α->Bool))(X:α):Bool:=match p with
 |none=>true
 |some f=>lk N (f X)
def nG{α:Type}(N:Nat)(p:Option (α->Bool))(X:α):kN N p X=bZ p X:=by
 unfold kN bZ;split;·rfl
 ·exact aC N _
def nH(N:Nat)(d:Option Nat)(V:St):St:=match d with
 |some d=>V.put d (pN N (V.slot d))
 |none=>V
def sF(N:Nat)(d:Option Nat)(V:St):nH N d V=V:=by
 cases d with
 |none=>rfl
 |some d =>
  unfold nH;simp only[Bu];unfold St.put;congr 1;funext t;unfold am;cases hb:Nat.beq t d;·rfl
  ·rw[Nat.eq_of_beq_eq_true hb];rfl
def bj.kL{J:Type}(N:Nat):bj->(St->Option J)->Option J
 |.fail,_=>none
 |.ok V,K=>K V
 |.chk c o,K=>cond (lk N c) (o.kL N K) none
 |.br b o1 o2,K=>cond b (o1.kL N K) (o2.kL N K)
 |.call x f,K=>x.bind λb=>(f b).kL N K
def bj.kL_eq{J:Type}(N:Nat)(K:St->Option J):∀o:bj,o.kL N K=o.k K
 |.fail=>rfl
 |.ok V=>rfl
 |.chk c o=>by simp only[bj.kL,bj.k,aC,bj.kL_eq N K o]
 |.br b o1 o2=>by simp only[bj.kL,bj.k,bj.kL_eq N K o1,bj.kL_eq N K o2]
 |.call x f=>by simp only[bj.kL,bj.k];congr 1;funext b;exact bj.kL_eq N K (f b)
section
variable {J : Type}
noncomputable def sG(Γ:Gm)(T:bc)(N:Nat)(o:Oper)(V:St)(K:St->Option J):Option J :=
 match kK o.op with
 |some (c,x,y)=>match ev V c with
  |.c (.bool b)=>cond b (K (eE V o.dst (ev V x))) (K (eE V o.dst (ev V y)))
  |_=>none
 |none=>match pJ V o.op with
  |some (f,args)=>match Γ.g f with
   |some en=>match wj en V (args.map (ev V))with
    |some X=>cond (kN N en.pre X) (match wk en V o.dst (args.map (ev V)) (en.val X)with
     |some V'=>K (nH N o.dst V')
     |none=>none) none
    |none=>none
   |none=>match Γ.m f with
    |some en=>match wt en V (args.map (ev V))with
     |some (qs,X)=>cond (kN N en.pre X) (match su en V o.dst (args.map (ev V)) qs (en.val X)with
      |some V'=>K (nH N o.dst V')
      |none=>none) none
     |none=>none
    |none=>match Γ.v f with
     |some en=>match wE en V (args.map (ev V))with
      |some (qs,X)=>cond (kN N en.pre X) (match wF en V o.dst (args.map (ev V)) qs (en.val X)with
       |some V'=>K (nH N o.dst V')
       |none=>none) none
      |none=>none
     |none=>match Γ.n f with
      |some en=>match wG en V (args.map (ev V))with
       |some X=>cond (kN N en.pre X) (match wH en V o.dst (args.map (ev V)) (en.val X)with
        |some V'=>K V'
        |none=>none) none
       |none=>none
      |none=>match Γ.s f with
       |some en=>match pH en.ps (args.map (ev V))with
        |some X=>cond (kN N en.pre X) (match wK en V o.dst (en.val X)with
         |some V'=>K V'
         |none=>none) none
        |none=>none
       |none=>none
  |none=>match cd T V o.op with
   |some (c,s)=>cond (pL T V o.op) (cond (lk N c) (K (eE V o.dst s)) (bg (K (eE V o.dst (.c (.bool true)))) (K (eE V o.dst (.c (.bool false))))))
    (cond (pO N o.op c) (K (eE V o.dst (pP N o.op s))) none)
   |none=>(r7 T V o.dst o.op).kL N K
def wP(ops:Array Oper)(j:Nat):Option Nat:=match ops[j]? with
 |some o=>o.dst
 |none=>none
def mq(ops:Array Oper)(o:Oper)(V:St)(F:St->Option J)(K:St->Option J):Option J :=
 match o.guard with
 |none=>F V
 |some (j,want)=>match wP ops j with
  |some t=>match V.slot t with
   |.c (.bool b)=>cond b
    (cond want (F (V.put t (.c (.bool true)))) (K (eE (V.put t (.c (.bool true))) o.dst (.tup []))))
    (cond want (K (eE (V.put t (.c (.bool false))) o.dst (.tup []))) (F (V.put t (.c (.bool false)))))
   |.tup _=>K (eE V o.dst (.tup []))
   |_=>none
  |none=>none
def iE:Op->Bool
 |.move _=>true
 |.assign _=>true
 |.load _ _=>true
 |.indexAddr _ _ _=>true
 |.fieldAddr _ _ _=>true
 |.binOp _ _ _ _ _=>true
 |.unOp _ _ _=>true
 |.index _ _ _=>true
 |.call { callee:=.builtin .len,args:=_,argTypes:=_ }=>true
 |.call { callee:=.builtin .min,args:=_,argTypes:=_ }=>true
 |.call { callee:=.builtin .max,args:=_,argTypes:=_ }=>true
 |.convert _ _ _=>true
 |.extract _ _=>true
 |.nilCheck _=>true
 |_=>false
noncomputable def wQ(Γ:Gm)(N:Nat)(p:cX)(f:Nat)(args:List Operand)(dst:Option Nat)(V:St)(K:St->Option J):Option J :=
 match Γ.g f,V.row p.r with
 |some en,some row=>match mj row p.r p.i p.f V.row en.sig.ps (args.map (ev V))with
  |some X=>cond (kN N en.pre X) (match pD row p.i p.f en.sig.ps (en.val X).1 with
   |some x'=>match pB en V dst [p.r] (am V.row p.r (some ⟨row.e,row.t,row.xs.set p.i.toNat x',row.deep,row.nilE⟩)) (en.val X).2 with
    |some V'=>K (nH N dst V')
    |none=>none
   |none=>none) none
  |none=>none
 |_,_=>none
def sH(T:bc)(p:cX)(k:Int)(t:Nat)(x:Operand)(V:St)(K:St->Option J):Option J :=
 match V.row p.r,T t,ev V x with
 |some row,some ti,.c (.int kk m)=>cond (Nat.beq ti.zero.length 1) (match jU row.t (row.xs.getD p.i.toNat row.t.dflt) p.f with
  |some ⟨(_,.int k'),ys⟩=>cond (jO kk k') (match jV row.t (row.xs.getD p.i.toNat row.t.dflt) p.f (.int k') (ys.set k.toNat m)with
   |some x'=>K ((gQ [p.r] V).withRow (am V.row p.r (some ⟨row.e,row.t,row.xs.set p.i.toNat x',row.deep,row.nilE⟩)))
   |none=>none) none
  |_=>none) none
 |_,_,_=>none
def sI(Γ:Gm)(T:bc)(V:St)(o:Oper)(pin:Option cX):Ja:=match sC T V o with
 |some p=>.still p
 |none=>match pin with
  |none=>.no
  |some p=>match o.guard with
   |some _=>.no
   |none=>match pJ V o.op with
    |some (f,args)=>match Γ.g f with
     |some en=>cond (nF p.d (fC en.sig.ps args)&&dA en.sig.ps) (.sub p f args) .no
     |none=>.no
    |none=>match sD T V p o.op o.dst with
     |some p'=>.still p'
     |none=>match sE p o.op o.dst with
      |some (e,k,t,x)=>.put p e k t x
      |none=>cond (iE o.op&&(iD p.d o.dst&&kM p o.dst)) (.still p) .no
noncomputable def kO(Γ:Gm)(T:bc)(N:Nat)(ops:Array Oper):List Nat->Option cX->St->(St->Option J)->Option J
 |[],_,V,K=>K V
 |i::ej,pin,V,K=>match ops[i]? with
  |some o=>match sI Γ T V o pin with
   |.no=>mq ops o V (λV=>sG Γ T N o V λV'=>kO Γ T N ops ej none V' K) λV'=>kO Γ T N ops ej none V' K
   |.still p=>match cd T V o.op with
    |some (c,s)=>cond (pO N o.op c) (kO Γ T N ops ej (some p) (eE V o.dst (pP N o.op s)) K) none
    |none=>none
   |.sub p f args=>wQ Γ N p f args o.dst V λV'=>kO Γ T N ops ej none V' K
   |.put p _ k t x=>sH T p k t x V λV'=>kO Γ T N ops ej none V' K
  |none=>none
def Bv(T:bc)(N:Nat)(o:Oper)(V:St)(K:St->Option J):Option J :=
 match cd T V o.op with
 |some (c,s)=>cond (vY o.op s) (cond (pO N o.op c) (K (eE V o.dst (pP N o.op s))) none) none
 |none=>none
def sJ(f:Nat->Bool):List Nat->Option Nat
 |[]=>none
 |i::l=>cond (f i) (some i) (sJ f l)
def fR(Γ:Gm)(o:Oper):Bool:=match pI o.op with
 |some (f,_)=>match Γ.g f with
  |some en=>b7 en.sig.ps
  |none=>false
 |none=>match kK o.op with
  |some _=>true
  |none=>match o.op with
   |.slice _ _ _ _ _=>true
   |.build _ _=>true
   |.makeSlice _ _ _=>true
   |.alloc _=>true
   |.box _ _=>true
   |.buildSlice _ _ _=>true
   |_=>iE o.op
def kP(Γ:Gm)(ops:Array Oper)(j:Nat):Bool:=match ops[j]? with
 |some oj=>!(l9 oj.op)&&(List.range ops.size).any λi=>!(Nat.beq i j)&&(match ops[i]? with
  |some oi=>!(fR Γ oi)&&!(fN ops 4 i j||fN ops 4 j i)
  |none=>false)
 |none=>false
def Bw(Γ:Gm)(ops:Array Oper)(listed:Array Bool)(i:Nat):Bool:=match ops[i]? with
 |some o=>iE o.op&&(Region.free .any ops listed i&&!(kP Γ ops i))
 |none=>false
def wR(T:bc)(V:St)(o:Oper)(pin:Option cX):Option cX:=match sC T V o with
 |some p=>some p
 |none=>match pin,o.guard with
  |some p,none=>match sD T V p o.op o.dst with
   |some p'=>some p'
   |none=>cond (iD p.d o.dst&&kM p o.dst) (some p) none
  |_,_=>none
def Bx(o:Oper)(pin:Option cX):Option (cX×Nat×Int×Nat×Operand):=match pin,o.guard with
 |some p,none=>match sE p o.op o.dst with
  |some y=>some (p,y)
  |none=>none
 |_,_=>none
noncomputable def jX(Γ:Gm)(T:bc)(N:Nat)(ops:Array Oper):Nat->Array Bool->Option cX->St->(St->Option J)->Option J
 |0,listed,_,V,K=>cond (Region.ready .any ops listed).isEmpty (K V) none
 |fuel+1,listed,pin,V,K=>match Region.ready .any ops listed with
  |[]=>K V
  |r::rs=>match sJ (Bw Γ ops listed) (r::rs)with
   |some i=>match ops[i]? with
    |some o=>mq ops o V (λV=>Bv T N o V λV'=>jX Γ T N ops fuel (listed.setIfInBounds i true) (wR T V o pin) V' K) λV'=>jX Γ T N ops fuel (listed.setIfInBounds i true) none V' K
    |none=>none
   |none=>wM (λr=>match ops[r]? with
    |some o=>cond (fR Γ o||jl ops (kP Γ ops) r) (match Bx o pin with
     |some (p,_,k,t,x)=>cond (jl ops (kP Γ ops) r) (sH T p k t x V λV'=>jX Γ T N ops fuel (listed.setIfInBounds r true) none V' K) none
     |none=>mq ops o V (λV=>sG Γ T N o V λV'=>jX Γ T N ops fuel (listed.setIfInBounds r true) none V' K) λV'=>jX Γ T N ops fuel (listed.setIfInBounds r true) none V' K) none
    |none=>none) (r::rs)
noncomputable def wS(Γ:Gm)(T:bc)(N:Nat)(ops:Array Oper)(draw:Bool)(V:St)(K:St->Option J):Option J :=
 cond draw (cond (Region.noSelect ops) (jX Γ T N ops ops.size (Array.replicate ops.size false) none V K) none) (kO Γ T N ops (List.range ops.size) none V K)
def mr(n:Nat)(ops:Array Oper):Bool:=ops.toList.all λo=>match o.dst with
 |some d=>Nat.blt d n
 |none=>true
end
structure au[DC](P:Program)[Inv P](Γ:Gm):Prop where
 g:∀f en,Γ.g f=some en->aG P f en/\∀p∈en.sig.rs,p.agg=false->p.t.nc=1
 m:∀f en,Γ.m f=some en->iz P f en/\∀p∈en.rs,p.agg=false->p.t.nc=1
 v:∀f en,Γ.v f=some en->dv P f en/\∀p∈en.rs,p.agg=false->p.t.nc=1
 n:∀f en,Γ.n f=some en->kI P f en
 s:∀f en,Γ.s f=some en->False
structure mt[DC](P:Program)(w0:World)(lab0:Nat->ay)(Γ:Gm):Prop where
 g:∀f en,Γ.g f=some en->px P w0 lab0 f en/\∀p∈en.sig.rs,p.agg=false->p.t.nc=1
 m:∀f en,Γ.m f=some en->wr P w0 lab0 f en/\∀p∈en.rs,p.agg=false->p.t.nc=1
 v:∀f en,Γ.v f=some en->wB P w0 lab0 f en/\∀p∈en.rs,p.agg=false->p.t.nc=1
 n:∀f en,Γ.n f=some en->wD P w0 lab0 f en
 s:∀f en,Γ.s f=some en->False
def au.at[DC]{P:Program}[Inv P]{Γ:Gm}(h:au P Γ){w0:World}{lab0:Nat->ay}(hI:Inv.I P w0)(hB:∀k,Inv.B P k->lab0 k=.st):mt P w0 lab0 Γ :=
 ⟨λf en hf=>⟨(h.g f en hf).1.at hI hB,(h.g f en hf).2⟩,λf en hf=>⟨(h.m f en hf).1.at hI hB,(h.m f en hf).2⟩,λf en hf=>⟨(h.v f en hf).1.at hI hB,(h.v f en hf).2⟩,λf en hf=>(h.n f en hf).at hI hB,λf en hf=>h.s f en hf⟩
section
variable {P : Program} {V V' : St} {E E' : aM} {w w' : World} {w0 : World} {lab0 : Nat → ay} {oo : Nat → Value} {n : Nat} {a : Act} {T : bc} {Γ : Gm} {J : Type} {ops : Array Oper} {N : Nat} [DC]
def gt(h:mr n ops=true){i:Nat}{o:Oper}(ho:ops[i]? = some o):∀d,o.dst=some d->d<n:=by
 intro d hd;have hm:o∈ops.toList:=by have:=Array.mem_of_getElem? ho;simpa using this
 have:=List.all_eq_true.1 h o hm;rw[hd]at this;simpa using this
def pQ(h:R w0 lab0 oo n V E a w):∀args:List Operand,ai (aK V E w) (args.map (ev V)) (args.map a.eval)
 |[]=>trivial
 |x::l=>⟨a6 h x,pQ h l⟩
def wT{op:Op}{f:Nat}{args:List Operand}(h:pI op=some (f,args)):∃arr ts,op=.call { callee:=.value (.func f),args:=arr,argTypes:=ts }/\arr.toList=args:=by
 unfold pI at h;split at h;·rename_i f' arr ts;injection h with h;injection h with e1 e2;subst e1;exact⟨arr,ts,rfl,e2⟩
 ·cases h
def sK{op:Op}{f:Nat}{args:List Operand}(h:pJ V op=some (f,args)):∃x arr ts,op=.call { callee:=.value x,args:=arr,argTypes:=ts }/\arr.toList=args/\ev V x=.c (.fn f []):=by
 unfold pJ at h;split at h
 ·rename_i x arr ts;split at h;·rename_i f' hf;injection h with h;injection h with e1 e2;subst e1;exact⟨x,arr,ts,rfl,e2,hf⟩
  ·cases h
 ·cases h
def sL(h:R w0 lab0 oo n V E a w){x:Operand}{f:Nat}(hx:ev V x=.c (.fn f [])):a.eval x=.func (.func f) #[] #[]:=by have:=a6 h x;rw[hx]at this;exact this.1
def Jb(hT:aX P T)(h:R w0 lab0 oo n V E a w){o:Oper}(hn:pL T V o.op=true):∃b,(execOp a.eval o).run P w=.ok (.value (.bool b)) w:=by
 obtain⟨dst,op,oty,pos,after,guard⟩:=o;simp only at hn;unfold pL at hn;split at hn
 ·rename_i op t x y t';simp only[Bool.and_eq_true]at hn;obtain⟨hop,hn⟩:=hn;obtain⟨ti,A,m,c,ht,hel,hx,hy⟩:∃(ti:TI) (A:Option Addr) (m c:Nat),T t=some ti/\ti.el.isSome=true/\a.eval x=.slice A m c/\a.eval y=.slice none 0 0:=by
   split at hn;·rename_i ti _ _ _ _ ht hx hy;have rx:=a6 h x;have ry:=a6 h y;rw[hx]at rx;rw[hy]at ry;obtain⟨A,m,d,e,_⟩:=rx.c_inv;injection e with e;exact⟨ti,A,m,d,ht,hn,e,ry.c_inv⟩
   ·rename_i ti r ht hx hy;have rx:=a6 h x;have ry:=a6 h y;rw[hx]at rx;rw[hy]at ry;obtain⟨e,_,A,m,d,e'⟩:=rx.c_inv;exact⟨ti,A,m,d,ht,(by simp only[Bool.and_eq_true]at hn;exact hn.1),e.trans (e▸e'),ry.c_inv⟩
   ·cases hn
  obtain⟨e,he⟩:=Option.isSome_iff_exists.1 hel;have hu:=gO hT ht he;have heq:(Op.equal t (.slice A m c) (.slice none 0 0)).run P w=.ok A.isNone w:=by
   have key:∀d,(Op.equalIn (d+1) t (.slice A m c) (.slice none 0 0)).run P w=.ok A.isNone w:=λd=>by cases A<;>simp[Op.equalIn,run_underlying hu]
   exact key 9999
  have hguard:(eqGuard op t x y (.slice A m c) (.slice none 0 0)).run P w=.ok () w:=rN (λu e=>by cases e) (λe=>by cases e);cases op<;>simp only[Bs]at hop<;>try contradiction
  ·refine⟨A.isNone, ?_⟩;simp only[execOp,hx,hy];rw[Sem.run_bind,Sem.run_bind,hguard];have:binOp .eql t (.slice A m c) (.slice none 0 0)=(do pure (.bool (<-Op.equal t (.slice A m c) (.slice none 0 0))):Sem Value):=rfl;simp[this,heq]
  ·refine⟨!A.isNone, ?_⟩;simp only[execOp,hx,hy];rw[Sem.run_bind,Sem.run_bind,hguard];have:binOp .neq t (.slice A m c) (.slice none 0 0)=(do pure (.bool (!(<-Op.equal t (.slice A m c) (.slice none 0 0)))):Sem Value):=rfl;simp[this,heq]
 ·cases hn
def By(hT:aX P T)(hΓ:mt P w0 lab0 Γ)(h:R w0 lab0 oo n V E a w){o:Oper}(hd:∀d,o.dst=some d->d<n){K:St->Option J}{r:J}(hr:sG Γ T N o V K=some r){next:Act->World->Prop}{Q:Exit->Act->World->Prop}
  (hK:∀V' E' v w',K V'=some r->R w0 lab0 oo n V' E' (a.put o.dst v) w'->(fR Γ o=true->bL w w')->next (a.put o.dst v) w'):o.wp P a w next Q:=by
 unfold sG at hr;split at hr
 ·rename_i c x y hp;have hop:o.op=.pick c x y:=by
   obtain⟨dst,op,oty,pos,after,guard⟩:=o;simp only at hp ⊢;cases op<;>simp only[kK]at hp<;>try contradiction
   injection hp with hp;injection hp with e1 e2;injection e2 with e2 e3;rw[e1,e2,e3]
  split at hr
  ·rename_i b hb;have hc:=a6 h c;rw[hb]at hc;have hc:a.eval c=.bool b:=hc;have hrun:(execOp a.eval o).run P w=.ok (.value (if b then a.eval x else a.eval y)) w:=by simp[execOp,hop,hc,asBool]
   unfold Oper.wp;rw[hrun];cases b;·exact hK _ E _ w hr (h.iput hd (a6 h y)) λ_=>bL.refl w
   ·exact hK _ E _ w hr (h.iput hd (a6 h x)) λ_=>bL.refl w
  ·cases hr
 ·rename_i hnp;split at hr
  ·rename_i f args hcall;split at hr
   ·rename_i en hen;split at hr
    ·rename_i X hX;rw[nG]at hr;cases hpre:bZ en.pre X;·rw[hpre]at hr;cases hr
     rw[hpre]at hr;simp only[cond_true,sF]at hr;have hG:en.G X=some (en.val X):=by unfold a8.G;rw[hpre];rfl
     split at hr
     ·rename_i V' hout;obtain⟨hE,hfl⟩:=hΓ.g f en hen;obtain⟨x0,arr,ts,hop,harr,hx0⟩:=sK hcall;have hev:a.eval x0=.func (.func f) #[] #[]:=(sL h hx0);have hs:ai (aK V E w) (args.map (ev V)) (arr.map a.eval).toList:=by rw[Array.toList_map,harr];exact pQ h args
      have hq:fR Γ o=true->b7 en.sig.ps=true:=by
       intro hq;unfold fR at hq;split at hq;·rename_i f' args' hcs;obtain⟨arr',ts',hop',_⟩:=wT hcs;rw[hop]at hop';injection hop' with hop';injection hop' with e1 e2 e3;injection e1 with e1;subst e1;have hx0:SV.c (.fn f' [])=.c (.fn f []):=hx0;injection hx0 with hx0;injection hx0 with hx0;subst hx0;rw[hen]at hq;exact hq
       ·rw[hop]at hq;simp[kK,iE]at hq
      have hrun:(execOp a.eval o).run P w=(callFunc f (arr.map a.eval)).run P w:=by simp[execOp,hop,resolve,hev,Deferred.ofValue,invoke]
      unfold Oper.wp;rw[hrun];rcases IT hE h hs hX hG hd hfl hout with⟨h1,h2⟩|⟨v,w',h1,v',E',he,h2,h3⟩
      ·rw[h1,Oper.upon_enter];refine h2.mono ?_;rintro e w' ⟨v,E',rfl,h3,h4⟩
       exact hK V' E' v w' hr h3 λhqq=>h4 (hq hqq)
      ·injection he with he;subst he;rw[h1];exact hK V' E' v w' hr h2 λhqq=>h3 (hq hqq)
     ·cases hr
    ·cases hr
   ·rename_i hng;split at hr
    ·rename_i en hen;split at hr
     ·rename_i qs X hX;rw[nG]at hr;cases hpre:bZ en.pre X;·rw[hpre]at hr;cases hr
      rw[hpre]at hr;simp only[cond_true,sF]at hr;split at hr
      ·rename_i V' hout;obtain⟨hE,hfl⟩:=hΓ.m f en hen;obtain⟨x0,arr,ts,hop,harr,hx0⟩:=sK hcall;have hev:a.eval x0=.func (.func f) #[] #[]:=(sL h hx0);have hs:ai (aK V E w) (args.map (ev V)) (arr.map a.eval).toList:=by rw[Array.toList_map,harr];exact pQ h args
       have hq:fR Γ o=true->False:=by
        intro hq;unfold fR at hq;split at hq;·rename_i f' args' hcs;obtain⟨arr',ts',hop',_⟩:=wT hcs;rw[hop]at hop';injection hop' with hop';injection hop' with e1 e2 e3;injection e1 with e1;subst e1;have hx0:SV.c (.fn f' [])=.c (.fn f []):=hx0;injection hx0 with hx0;injection hx0 with hx0;subst hx0;rw[hng]at hq;cases hq
        ·rw[hop]at hq;simp[kK,iE]at hq
       have hrun:(execOp a.eval o).run P w=(callFunc f (arr.map a.eval)).run P w:=by simp[execOp,hop,resolve,hev,Deferred.ofValue,invoke]
       unfold Oper.wp;rw[hrun];rcases IX hE h hs hX hpre hd hfl hout with⟨h1,h2⟩|⟨v,w',h1,v',E',he,h2⟩
       ·rw[h1,Oper.upon_enter];refine h2.mono ?_;rintro e w' ⟨v,E',rfl,h3⟩
        exact hK V' E' v w' hr h3 λhqq=>(hq hqq).elim
       ·injection he with he;subst he;rw[h1];exact hK V' E' v w' hr h2 λhqq=>(hq hqq).elim
      ·cases hr
     ·cases hr
    ·obtain⟨x0,arr,ts,hop,harr,hx0⟩:=sK hcall;have hev:a.eval x0=.func (.func f) #[] #[]:=(sL h hx0);have hs:ai (aK V E w) (args.map (ev V)) (arr.map a.eval).toList:=by rw[Array.toList_map,harr];exact pQ h args
     have hq:fR Γ o=true->False:=by
      intro hq;unfold fR at hq;split at hq;·rename_i f' args' hcs;obtain⟨arr',ts',hop',_⟩:=wT hcs;rw[hop]at hop';injection hop' with hop';injection hop' with e1 e2 e3;injection e1 with e1;subst e1;have hx0:SV.c (.fn f' [])=.c (.fn f []):=hx0;injection hx0 with hx0;injection hx0 with hx0;subst hx0;rw[hng]at hq;cases hq
      ·rw[hop]at hq;simp[kK,iE]at hq
     have hrun:(execOp a.eval o).run P w=(callFunc f (arr.map a.eval)).run P w:=by simp[execOp,hop,resolve,hev,Deferred.ofValue,invoke]
     have fin:∀V',K V'=some r->(cM P f (arr.map a.eval) w λe w'=>∃v E',e=.returned v/\R w0 lab0 oo n V' E' (a.put o.dst v) w')->o.wp P a w next Q:=by
      intro V' hr hcalls;unfold Oper.wp;rw[hrun];rcases hcalls with⟨h1,h2⟩|⟨v,w',h1,v',E',he,h2⟩
      ·rw[h1,Oper.upon_enter];refine h2.mono ?_;rintro e w' ⟨v,E',rfl,h3⟩
       exact hK V' E' v w' hr h3 λhqq=>(hq hqq).elim
      ·injection he with he;subst he;rw[h1];exact hK V' E' v w' hr h2 λhqq=>(hq hqq).elim
     split at hr
     ·rename_i en hen;split at hr
      ·rename_i qs X hX;rw[nG]at hr;cases hpre:bZ en.pre X;·rw[hpre]at hr;cases hr
       rw[hpre]at hr;simp only[cond_true,sF]at hr;split at hr;·rename_i V' hout;obtain⟨hE,hfl⟩:=hΓ.v f en hen;exact fin V' hr (I1 hE h hs hX hpre hd hfl hout)
       ·cases hr
      ·cases hr
     ·split at hr
      ·rename_i en hen;split at hr
       ·rename_i X hX;rw[nG]at hr;cases hpre:bZ en.pre X;·rw[hpre]at hr;cases hr
        rw[hpre]at hr;simp only[cond_true]at hr;split at hr;·rename_i V' hout;exact fin V' hr (I9 (hΓ.n f en hen) h hs hX hpre hd hout)
        ·cases hr
       ·cases hr
      ·split at hr
       ·rename_i en hen;split at hr
        ·rename_i X hX;rw[nG]at hr;cases hpre:bZ en.pre X;·rw[hpre]at hr;cases hr
         rw[hpre]at hr;simp only[cond_true]at hr;split at hr;·rename_i V' hout;exact(hΓ.s f en hen).elim
         ·cases hr
        ·cases hr
       ·cases hr
  ·rename_i hnc;split at hr
   ·rename_i c s hv;rw[wN,wO,aC]at hr;cases c
    ·cases hne:pL T V o.op;·rw[hne]at hr;cases hr
     ·rw[hne]at hr;obtain⟨q1,q2⟩:=Bq (show bg _ _=some r from hr);obtain⟨b,h1⟩:=Jb hT h hne;unfold Oper.wp;rw[h1];cases b;·exact hK _ E _ w q2 (h.iput hd rfl) λ_=>bL.refl w
      ·exact hK _ E _ w q1 (h.iput hd rfl) λ_=>bL.refl w
    ·have hr:K (eE V o.dst s)=some r:=by cases hne:pL T V o.op<;>(rw[hne]at hr;exact hr)
     obtain⟨v,h1,h2⟩:=kF hT h hv rfl;unfold Oper.wp;rw[h1];exact hK _ E v w hr (h.iput hd h2) λ_=>bL.refl w
   ·rename_i hv;rw[bj.kL_eq]at hr;obtain⟨V',h1,h2⟩:=bj.k_run hr;have hnq:fR Γ o=true->l8 o.op=true:=by intro hq;unfold r7 at h1;split at h1;all_goals first | (cases h1;done) | (rename_i he;rw[he];unfold fR at hq;rw[he]at hq;simp[pI,kK,iE,l8]at hq ⊢;done) | (rename_i he _;rw[he];unfold fR at hq;rw[he]at hq;simp[pI,kK,iE,l8]at hq ⊢;done)
    rcases ID hT h hd h1 with⟨v,w',E',g1,gx,g2⟩|⟨w',E',g1,g2⟩;·unfold Oper.wp;rw[g1];exact hK V' E' v w' h2 g2 λhq=>gx (hnq hq)
    ·have hnm:l8 o.op=false:=by
      cases hm:l8 o.op;·rfl
      ·exfalso;unfold l8 at hm;split at hm;·rename_i he;unfold execOp at g1;rw[he]at g1;simp only at g1;rw[Sem.run_bind]at g1;cases hX:(Instr.makeSlice _ _ _).run P w<;>rw[hX]at g1<;>simp[Result.andThen]at g1
       ·rename_i he;unfold execOp at g1;rw[he]at g1;simp only at g1;rw[Sem.run_bind]at g1;cases hX:(Instr.alloc _ _ _).run P w<;>rw[hX]at g1<;>simp[Result.andThen]at g1
       ·rename_i he;unfold execOp at g1;rw[he]at g1;simp only at g1;rw[Sem.run_bind]at g1;cases hX:(Instr.box _ _).run P w<;>rw[hX]at g1<;>simp[Result.andThen]at g1
       ·rename_i he;unfold execOp at g1;rw[he]at g1;simp only at g1;rw[Sem.run_bind]at g1;cases hX:(Instr.buildSlice _ _ _).run P w<;>rw[hX]at g1<;>simp[Result.andThen]at g1
       ·cases hm
     unfold Oper.wp;rw[g1];exact hK V' E' undef w' h2 g2 λhq=>by rw[hnm]at hnq;exact absurd (hnq hq) (by simp)
def R.seen(h:R w0 lab0 oo n V E a w){t:Nat}(ht:t<n){b:Bool}(hb:V.slot t=.c (.bool b)):R w0 lab0 oo n (V.put t (.c (.bool b))) E a w/\a.tmps[t]? = some (.bool b):=by
 have hs:=h.slots t;rw[hb]at hs;have hbd:=h.bound;have hv:cP oo a t=.bool b:=hs;unfold cP at hv;rw[if_pos (by omega)]at hv;have hlt:t<a.tmps.size:=by rw[h.size];exact ht
 have hget:a.tmps[t]? = some (.bool b):=by rw[Array.getD_eq_getD_getElem?,Array.getElem?_eq_getElem hlt]at hv;rw[Array.getElem?_eq_getElem hlt];exact congrArg some hv
 refine⟨?_,hget⟩;have:=h.put (d:=t) (s:=.c (.bool b)) (v:=.bool b) ht rfl;have e:a.put (some t) (.bool b)=a:=by
  unfold Act.put;have:a.tmps.setIfInBounds t (.bool b)=a.tmps:=by
   apply Array.ext_getElem?;intro i;rw[Array.getElem?_setIfInBounds];by_cases e:t=i;·subst e;rw[if_pos rfl,if_pos hlt,hget]
   ·rw[if_neg e]
  simp only[this]
 rwa [e]at this
def wU(h:R w0 lab0 oo n V E a w)(hops:mr n ops=true){i:Nat}{o:Oper}(ho:ops[i]? = some o){F K:St->Option J}{r:J}(hr:mq ops o V F K=some r){G:Prop}
  (hF:∀V',R w0 lab0 oo n V' E a w->F V'=some r->Region.wanted o (yielded ops a.tmps)=true->G)
  (hK:∀V',R w0 lab0 oo n V' E (a.put o.dst undef) w->K V'=some r->Region.wanted o (yielded ops a.tmps)=false->G):G:=by
 have hd:=gt hops ho;unfold mq at hr;split at hr;·rename_i hg;exact hF V h hr (by simp[Region.wanted,hg])
 ·rename_i j want hg;split at hr
  ·rename_i t ht;have htn:t<n:=by
    unfold wP at ht;split at ht;·rename_i oj hoj;exact gt hops hoj t ht
    ·cases ht
   have hbind:(ops[j]?).bind (·.dst)=some t:=by
    unfold wP at ht;split at ht;·rename_i oj hoj;rw[hoj];exact ht
    ·cases ht
   split at hr
   ·rename_i b hb;obtain⟨h1,h2⟩:=h.seen htn hb;have hy:yielded ops a.tmps j=some b:=by unfold yielded;rw[hbind];simp[h2]
    have hw:Region.wanted o (yielded ops a.tmps)=(b == want):=by unfold Region.wanted;rw[hg];simp only[hy];cases b<;>cases want<;>rfl
    cases b<;>cases want
    ·exact hF _ h1 hr (by rw[hw];rfl)
    ·exact hK _ (h1.iput (s:=.tup []) hd ⟨#[],rfl,trivial⟩) hr (by rw[hw];rfl)
    ·exact hK _ (h1.iput (s:=.tup []) hd ⟨#[],rfl,trivial⟩) hr (by rw[hw];rfl)
    ·exact hF _ h1 hr (by rw[hw];rfl)
   ·rename_i l hb;have hs:=h.slots t;rw[hb]at hs;obtain⟨arr,hv,_⟩:=hs;have hbd:=h.bound;unfold cP at hv;rw[if_pos (by omega)]at hv;have hlt:t<a.tmps.size:=by rw[h.size];exact htn
    have hy:yielded ops a.tmps j=none:=by unfold yielded;rw[hbind];rw[Array.getD_eq_getD_getElem?,Array.getElem?_eq_getElem hlt]at hv;have hv:a.tmps[t]=.tuple arr:=hv;simp[Array.getElem?_eq_getElem hlt,hv]
    exact hK _ (h.iput (s:=.tup []) hd ⟨#[],rfl,trivial⟩) hr (by unfold Region.wanted;rw[hg];simp[hy])
   ·cases hr
  ·cases hr
def Jc(h:R w0 lab0 oo n V E a w)(hops:mr n ops=true){i:Nat}{o:Oper}(ho:ops[i]? = some o){F K:St->Option J}{r:J}(hr:mq ops o V F K=some r){G:Prop}
  (hF:∀V',R w0 lab0 oo n V' E a w->(o.guard=none->V'=V)->F V'=some r->Region.wanted o (yielded ops a.tmps)=true->G)
  (hK:∀V',R w0 lab0 oo n V' E (a.put o.dst undef) w->K V'=some r->Region.wanted o (yielded ops a.tmps)=false->G):G:=by
 cases hg:o.guard with
 |none =>unfold mq at hr;rw[hg]at hr;exact hF V h (λ_=>rfl) hr (by simp[Region.wanted,hg])
 |some q=>exact wU h hops ho hr (λV' h' hF' hw=>hF V' h' (λhn=>by rw[hg]at hn;cases hn) hF' hw) hK
def nI{i:Nat}{o:Oper}(ho:ops[i]? = some o){next:Act->World->Prop}{Q:Exit->Act->World->Prop}(hw:Region.wanted o (yielded ops a.tmps)=true)(h:o.wp P a w next Q):wpOp P ops Q i next a w:=by unfold wpOp;rw[ho];simp only[hw,if_true];exact .inl h
def Bz{i:Nat}{o:Oper}(ho:ops[i]? = some o){next:Act->World->Prop}{Q:Exit->Act->World->Prop}(hw:Region.wanted o (yielded ops a.tmps)=false)(h:next (a.put o.dst undef) w):wpOp P ops Q i next a w:=by unfold wpOp;rw[ho];simp only[hw];exact h
def Je(a:Act)(p:cX):Prop:=∀e k,p.el=some (e,k)->0<=k/\∃g m c,a.eval (.tmp p.d)=.slice (some ⟨g,0,none⟩) m c/\k<m/\a.eval (.tmp e)=.pointer (some ⟨g,k.toNat,none⟩)
def gu(V:St)(E:aM)(a:Act)(w:World)(pin:Option cX):Prop:=∀p,pin=some p->p.d<100000->(∃row,sr V E w p.r p.i p.f row (a.eval (.tmp p.d)))/\Je a p
def BA{α β:Type}(g:α->β):∀(ps:List PT) (xs:List α) {x:α},fC ps xs=some x->fC ps (xs.map g)=some (g x)
 |[],[],_,h=>by cases h
 |[],_::_,_,h=>by cases h
 |_::_,[],_,h=>by cases h
 |p::ps,y::ys,x,h=>by
  simp only[fC,List.map_cons]at h ⊢;cases hio:p.io;·rw[hio]at h;exact BA g ps ys h
  ·rw[hio]at h;injection h with h;subst h;rfl
def BB(hT:aX P T)(h:R w0 lab0 oo n V E a w){o:Oper}{p:cX}(hp:sC T V o=some p)(hd:∀d,o.dst=some d->d<n){c:Bool}{s:SV}(hv:cd T V o.op=some (c,s))(hc:c=true) :
  o.guard=none/\∃v,(execOp a.eval o).run P w=.ok (.value v) w/\aK V E w s v/\gu (eE V o.dst s) E (a.put o.dst v) w (some p):=by
 obtain⟨v,h1,h2⟩:=kF hT h hv hc;have hbd:=h.bound;obtain⟨dst,op,oty,pos,after,guard⟩:=o;unfold sC at hp;simp only at hp hd h1 ⊢;split at hp
 ·rename_i t x d;split at hp
  ·rename_i r i f hx;split at hp
   ·rename_i row ti hrow ht;cases hq:(row.deep&&(ti.el.isSome&&!ti.agg));·rw[hq]at hp;cases hp
    rw[hq]at hp;injection hp with hp;subst hp;simp only[Bool.and_eq_true,Bool.not_eq_true']at hq;refine⟨rfl,v,h1,h2,λp hp hlt=>?_⟩;injection hp with hp;subst hp;have hdn:=hd d rfl;have rx:=a6 h x;rw[hx]at rx;obtain⟨row',g,m,c',e1,e2,e3,e4,e5,e6⟩:=rx.c_inv;rw[hrow]at e1;injection e1 with e1;subst e1;refine⟨⟨row,hrow,hq.1,e3,e4,g,m,c',e2, ?_⟩,λe k he=>by cases he⟩;have hev:(a.put (some d) v).eval (.tmp d)=v:=by show(a.tmps.setIfInBounds d v).getD d undef=v;rw[na _ _ _ _ (by rw[h.size];exact hdn),if_pos rfl]
    rw[hev];have hagg:=As hT ht w;rw[hq.2.2]at hagg;simp only[execOp,e6]at h1;obtain⟨u,hcl⟩:∃u,w.cell? ⟨g,i.toNat*row.t.nc+f,none⟩=some u:=by
     have hal:kC V (.elt r i f) 1=some (((dF row.t (row.xs.getD i.toNat row.t.dflt) (cond row.deep (some r) none)).drop f).take 1):=by simp only[kC,hrow];rw[show Nat.ble (f+1) row.t.nc=true from Nat.ble_eq_true_of_le (by omega)];rfl
     obtain⟨ad,vs,f',k1,k2,k3,_⟩:=vh h hal rx.c_inv;rw[e6]at k1;injection k1 with k1;injection k1 with k1;exact⟨vs[f'],by rw[k1];exact k3 f' _ (List.getElem?_eq_getElem (by omega))⟩
    simp[Instr.loadAt,Instr.sureAddr,loadVar,hagg,hcl]at h1;rw[hcl,h1]
   ·cases hp
  ·cases hp
 ·cases hp
def Jf(hT:aX P T)(hΓ:mt P w0 lab0 Γ)(h:R w0 lab0 oo n V E a w){o:Oper}(hd:∀d,o.dst=some d->d<n){p:cX}{f:Nat}{args:List Operand}(hcall:pJ V o.op=some (f,args))
  {en:a8} (hen:Γ.g f=some en) (hio:nF p.d (fC en.sig.ps args)=true) (hone:dA en.sig.ps=true) (hpin:gu V E a w (some p)) {K:St->Option J}{r:J} (hr:wQ Γ N p f args o.dst V K=some r) {next:Act->World->Prop}{Q:Exit->Act->World->Prop}
  (hK:∀V' E' v w',K V'=some r->R w0 lab0 oo n V' E' (a.put o.dst v) w'->next (a.put o.dst v) w'):o.wp P a w next Q:=by
 obtain⟨x0,arr,ts,hop,harr,hx0⟩:=sK hcall;have hev:a.eval x0=.func (.func f) #[] #[]:=sL h hx0;obtain⟨x,hx,hxd⟩:∃x,fC en.sig.ps args=some x/\x=.tmp p.d/\p.d<100000:=by
  unfold nF at hio;split at hio;·rename_i e he;simp only[Bool.and_eq_true]at hio;exact⟨_,he,by rw[Nat.eq_of_beq_eq_true hio.1],by simpa using hio.2⟩
  ·cases hio
 obtain⟨rfl,hlt⟩:=hxd;obtain⟨⟨row,hp⟩,_⟩:=hpin p rfl hlt;unfold wQ at hr;rw[hen,hp.hrow]at hr;simp only at hr;split at hr
 ·rename_i X hX;rw[nG]at hr;cases hpre:bZ en.pre X;·rw[hpre]at hr;cases hr
  rw[hpre]at hr;simp only[cond_true,sF]at hr;have hG:en.G X=some (en.val X):=by unfold a8.G;rw[hpre];rfl
  split at hr
  ·rename_i x' hx';split at hr
   ·rename_i V' hout;obtain⟨hE,hfl⟩:=hΓ.g f en hen;have hs:ai (aK V E w) (args.map (ev V)) (arr.map a.eval).toList:=by rw[Array.toList_map,harr];exact pQ h args
    have hrun:(execOp a.eval o).run P w=(callFunc f (arr.map a.eval)).run P w:=by simp[execOp,hop,resolve,hev,Deferred.ofValue,invoke]
    have hvv:fC en.sig.ps (arr.map a.eval).toList=some (a.eval (.tmp p.d)):=by rw[Array.toList_map,harr];exact BA a.eval _ _ hx
    unfold Oper.wp;rw[hrun];rcases IV hE h hs hp hone hvv hX hG hx' hd hfl hout with⟨h1,h2⟩|⟨v,w',h1,v',E',he,h2⟩
    ·rw[h1,Oper.upon_enter];refine h2.mono ?_;rintro e w' ⟨v,E',rfl,h3⟩
     exact hK V' E' v w' hr h3
    ·injection he with he;subst he;rw[h1];exact hK V' E' v w' hr h2
   ·cases hr
  ·cases hr
 ·cases hr
def Jg{e:Nat}{kk:IntKind}{L:List Nat}{g m c:Nat}{ys:List Int}(ho:aE w (.sl e (.int kk)) L [.slice (some ⟨g,0,none⟩) m c] ys){k:Nat}(hk:k<m)(x:Int) :
  ∃w',(storeCells ⟨g,k,none⟩ [.int kk x] 0).run P w=.ok () w'/\aE w' (.sl e (.int kk)) L [.slice (some ⟨g,0,none⟩) m c] (ys.set k x:List Int)/\g∈L/\(∀j,j≠g->w'.heap[j]? = w.heap[j]?)/\w'.heap.size=w.heap.size/\w'.os=w.os/\Tp w w'/\w'.output=w.output:=by
 obtain⟨v,css,Ls,hv,h1,rfl,h2⟩:=ho;injection hv with hv;subst hv;have hm:m=ys.length:=by
  rcases h1.2 with⟨h0,_⟩|⟨_,_,_,e0,_⟩;·cases h0
  ·injection e0
 subst hm;have key:∀{Ls:List (List Nat)}{css:List (List Value)}{ys:List Int},aP (λl c y=>aE w (.int kk) l c y) Ls css ys->css.flatten=ys.map (λy=>Value.int kk y)/\css=ys.map (λy=>[Value.int kk y])/\Ls=ys.map (λ_=>[]):=by
  intro Ls;induction Ls with
  |nil =>
   intro css ys h;cases css with
   |nil=>cases ys with
    |nil=>exact⟨rfl,rfl,rfl⟩
    |cons _ _=>exact h.elim
   |cons _ _=>cases ys<;>exact h.elim
  |cons l Ls ih =>
   intro css ys h;cases css with
   |nil=>cases ys<;>exact h.elim
   |cons cc css=>cases ys with
    |nil=>exact h.elim
    |cons y ys =>obtain⟨⟨rfl,rfl⟩,h⟩:=h;obtain⟨i1,i2,i3⟩:=ih h;exact⟨by simp[i1],by rw[i2];simp,by rw[i3];simp⟩
 obtain⟨j1,j2,j3⟩:=key h2;have hsz:k+1<=ys.length*(Ty.int kk).nc:=by show k+1<=ys.length*1;omega
 obtain⟨w',hst,ho',hother,hsize,hos⟩:=ownsRow_over (P:=P) (w:=w) (us:=[.int kk x]) (o:=k) h1 hsz (λu hu=>by simp at hu;subst hu;rfl);refine⟨w',hst,⟨_,(ys.set k x).map (λy=>[Value.int kk y]),(ys.set k x).map (λ_=>[]),rfl, ?_, ?_, ?_⟩, ?_,hother,hsize,hos.1,hos.2.1,hos.2.2⟩
 ·show World.ownsRow w' 0 e 1 _ (ys.set k x).length _;rw[List.length_set];have hfl:((ys.set k x).map (λy=>[Value.int kk y])).flatten=css.flatten.take k++[.int kk x]++css.flatten.drop (k+1):=by
   have:((ys.set k x).map (λy=>[Value.int kk y])).flatten=(ys.set k x).map (λy=>Value.int kk y):=by
    induction(ys.set k x)with
    |nil=>rfl
    |cons a l ih=>simp[ih]
   rw[this,j1,List.set_eq_take_append_cons_drop,if_pos hk];simp
  rw[hfl];exact ho'
 ·rw[j3];have:∀l:List Int,(l.map λ_=>([]:List Nat)).flatten=[]:=λl=>by induction l with
   |nil=>rfl
   |cons a l ih=>simp[ih]
  rw[this,this]
 ·have:∀l:List Int,aP (λ(l:List Nat) (c:List Value) (y:Int)=>aE w' (.int kk) l c y) (l.map λ_=>[]) (l.map λy=>[Value.int kk y]) l:=by
   intro l;induction l with
   |nil=>trivial
   |cons a l ih=>exact⟨⟨rfl,rfl⟩,ih⟩
  exact this _
 ·exact List.mem_append_left _ (by simp[Value.ownBlock])
def BC(hT:aX P T)(h:R w0 lab0 oo n V E a w){o:Oper}{p:cX}{e:Nat}{k:Int}{t:Nat}{x:Operand}(hput:sE p o.op o.dst=some (e,k,t,x))(hpin:gu V E a w (some p)){K:St->Option J}{r:J}(hr:sH T p k t x V K=some r){next:Act->World->Prop}{Q:Exit->Act->World->Prop}
  (hK:∀V' E' v w',K V'=some r->R w0 lab0 oo n V' E' (a.put o.dst v) w'->next (a.put o.dst v) w'):o.wp P a w next Q:=by
 obtain⟨dst,op,oty,pos,after,guard⟩:=o;simp only at hput hK ⊢;unfold sE at hput;split at hput
 ·rename_i t' e' x' e0 k0 hel;cases hq:(Nat.beq e' e0&&(Nat.blt e0 100000&&Nat.blt p.d 100000));·rw[hq]at hput;cases hput
  rw[hq]at hput;simp only[cond_true,Option.some.injEq,Prod.mk.injEq]at hput;obtain⟨rfl,rfl,rfl,rfl⟩:=hput;simp only[Bool.and_eq_true]at hq;obtain rfl:=Nat.eq_of_beq_eq_true hq.1;obtain⟨⟨row,pp⟩,hE⟩:=hpin p rfl (by simpa using hq.2.2);obtain⟨hk0,g,m,c,hv,hkm,hptr⟩:=hE _ _ hel;unfold sH at hr;rw[pp.hrow]at hr;simp only at hr;split at hr
  ·rename_i row1 ti kk mm hr0 ht hx;injection hr0 with hr0;subst hr0;cases hq2:Nat.beq ti.zero.length 1;·rw[hq2]at hr;cases hr
   rw[hq2]at hr;have hsz1:=Nat.eq_of_beq_eq_true hq2;simp only[cond_true]at hr;split at hr
   ·rename_i es k' ys hg;cases hq3:jO kk k';·rw[hq3]at hr;cases hr
    rw[hq3]at hr;obtain rfl:=o6 hq3;simp only[cond_true]at hr;split at hr
    ·rename_i x1 hset;obtain⟨L,o1,o2,o3,o4⟩:=wn h pp hg;rw[hv]at o1 o4;obtain⟨w',g1,g2,g3,g4,g5,g6,g7,g8⟩:=Jg (P:=P) o1 (k:=k0.toNat) (by omega) mm;have hxv:a.eval x'=.int kk mm:=by have:=a6 h x';rw[hx]at this;exact this
     obtain⟨f1,W⟩:=o4 g2 hset o2 (λk hk=>.inl hk) (λk hk hkL=>g4 k λe=>hkL (e▸g3));have hrun:(execOp a.eval ⟨none,.store t' (.tmp e') x',oty,pos,after,guard⟩).run P w=.ok .skip w':=by have hs:=r8 hT ht (v:=.int kk mm) (by rw[hsz1];rfl) (g:=g) (o:=k0.toNat) (w:=w) (w':=w') g1;simp[execOp,hptr,hxv,hs]
     unfold Oper.wp;rw[hrun]
     classical
     let E':aM:=⟨λk=>if k∈L then f1 k else E.lab k,E.rv,E.bb⟩;refine hK _ E' undef w' hr ?_;show R w0 lab0 oo n _ E' a w';refine R.called (E':=E') (qs:=[p.r]) h (λj hj hsp=>?_) ⟨g6,g7,g8⟩ (by omega) rfl (λq row2 hrow=>?_) (λq row2 hrow=>?_);·have hjL:j∉L:=λhl=>hsp p.r (by simp) (.inr (o3 j hl));exact⟨g4 j λe=>hjL (e▸g3),if_neg hjL⟩
     ·by_cases hm:q∈[p.r];·obtain⟨ro,row',w1,w2,w3,w4,_⟩:=W.row q hm;rw[hrow]at w1;injection w1 with w1;subst w1;exact⟨row',w2,rfl,by rw[w3],by omega⟩
      ·exact⟨row2,by rw[W.other q hm];exact hrow,rfl,rfl,Nat.le_refl _⟩
     ·by_cases hm:q∈[p.r];·obtain⟨ro,row',w1,w2,w3,w4,w5⟩:=W.row q hm;rw[hrow]at w2;injection w2 with w2;subst w2;exact .inr (w5 E'.lab (λk hk=>if_pos hk) (λk _ _ hk=>if_neg hk))
      ·rw[W.other q hm]at hrow;exact .inl ⟨hm,hrow⟩
    ·cases hr
   ·cases hr
  ·cases hr
 ·cases hput
def BD(hT:aX P T)(h:R w0 lab0 oo n V E a w){o:Oper}{p p':cX}(hp:sD T V p o.op o.dst=some p')(hd:∀d,o.dst=some d->d<n)(hpin:gu V E a w (some p)){c:Bool}{s:SV}(hv:cd T V o.op=some (c,s))(hc:c=true) :
  ∃v,(execOp a.eval o).run P w=.ok (.value v) w/\aK V E w s v/\gu (eE V o.dst s) E (a.put o.dst v) w (some p'):=by
 obtain⟨v,h1,h2⟩:=kF hT h hv hc;refine⟨v,h1,h2, ?_⟩;obtain⟨dst,op,oty,pos,after,guard⟩:=o;simp only at hp hd h1 hv ⊢;unfold sD at hp;split at hp
 ·rename_i t d i e;cases hq:(Nat.beq d p.d&&(Nat.blt d 100000&&!(Nat.beq e d)));·rw[hq]at hp;cases hp
  rw[hq]at hp;simp only[Bool.and_eq_true,Bool.not_eq_true']at hq;obtain rfl:=Nat.eq_of_beq_eq_true hq.1;have hdlt:p.d<100000:=by simpa using hq.2.1
  have hne:e≠p.d:=λhe=>by rw[he,Nat.beq_refl]at hq;cases hq.2.2
  simp only[cond_true]at hp;split at hp
  ·rename_i e2 t2 xs q kk k ti hdc hic ht;split at hp
   ·rename_i el hel;split at hp
    ·rename_i ei row hei hrow;cases hz:Nat.beq ei.zero.length 1;·rw[hz]at hp;cases hp
     rw[hz]at hp;have hz1:=Nat.eq_of_beq_eq_true hz;simp only[cond_true]at hp;split at hp
     ·rename_i e3 k3 ys hg;injection hp with hp;subst hp;obtain⟨⟨row',pp⟩,_⟩:=hpin p rfl hdlt;have:row'=row:=by have:=pp.hrow;rw[hrow]at this;injection this with this;exact this.symm
      subst this;have hen:=hd e rfl;have hevd:(a.put (some e) v).eval (.tmp p.d)=a.eval (.tmp p.d):=by show(a.tmps.setIfInBounds e v).getD p.d undef=a.tmps.getD p.d undef;rw[na _ _ _ _ (by rw[h.size];exact hen),if_neg (Ne.symm hne)]
      have heve:(a.put (some e) v).eval (.tmp e)=v:=by show(a.tmps.setIfInBounds e v).getD e undef=v;rw[na _ _ _ _ (by rw[h.size];exact hen),if_pos rfl]
      obtain⟨L,o1,_,_,_⟩:=wn h pp hg;obtain⟨v0,css,Ls,hvv,h3,_,_⟩:=o1;injection hvv with hvv;have rx:=a6 h (.tmp p.d);rw[hdc]at rx;have ri:=a6 h i;rw[hic]at ri;have ri:a.eval i=.int kk k:=ri;obtain⟨A,m,c2,ev1,ev2,_⟩:=(show aj V E w (.sn e2 t2 xs q) (a.eval (.tmp p.d))from rx);injection ev1 with ev1;have hchk:0<=k/\k<(xs.length:Int):=by
       simp only[cd,ht,hdc,hic,hel,hei]at hv;simp only[vc,af.weak,oZ]at hv;cases hb:Nat.beq t2.nc ei.zero.length;·rw[hb]at hv;cases hv
       ·rw[hb]at hv;simp only[cond_true,Option.some.injEq,Prod.mk.injEq]at hv;rw[<-hv.1]at hc;simpa using hc
      have hsl:∃g c3,a.eval (.tmp p.d)=.slice (some ⟨g,0,none⟩) m c3:=by
       rcases h3.2 with⟨h0,h00⟩|⟨g,cap,cur,e0,_⟩;·rw[<-hvv,ev1]at h0;injection h0 with q1 q2 q3;omega
       ·rw[<-hvv,ev1]at e0;injection e0 with q1 q2 q3;subst q1;exact⟨g,c2,ev1⟩
      obtain⟨g,c3,hsl⟩:=hsl;have hu:=gO hT ht hel;have hs:=lT hT hei;have hvp:v=.pointer (some ⟨g,k.toNat,none⟩):=by
       have hm:k<(m:Int):=by omega
       have:(execOp a.eval ⟨some e,.indexAddr t (.tmp p.d) i,oty,pos,after,guard⟩).run P w=.ok (.value (.pointer (some ((⟨g,0,none⟩:Addr).add (k.toNat*ei.zero.length))))) w:=by simp[execOp,hsl,ri,Instr.indexAt,run_underlying hu,asIntOf,hchk.1,hm,hs]
       rw[this]at h1;injection h1 with h1;injection h1 with h1;rw[<-h1,gP,hz1];simp
      intro p1 hp1 hlt1;injection hp1 with hp1;subst hp1;refine⟨⟨row', ?_⟩,λe1 k1 he1=>?_⟩;·show sr _ E w p.r p.i p.f row' ((a.put (some e) v).eval (.tmp p.d));rw[hevd];exact⟨pp.hrow,pp.deep,pp.i0,pp.lt,pp.cell⟩
      ·injection he1 with he1;injection he1 with he1 he2;subst he1 he2;refine⟨hchk.1,g,m,c3, ?_,by omega,by rw[heve];exact hvp⟩;show(a.put (some e) v).eval (.tmp p.d)=_;rw[hevd];exact hsl
     ·cases hp
    ·cases hp
   ·cases hp
  ·cases hp
 ·cases hp
def nJ(hT:aX P T)(hΓ:mt P w0 lab0 Γ)(hops:mr n ops=true){Q:Exit->Act->World->Prop}{K:St->Option J}{r:J}
  (hK:∀V' E' a' w',K V'=some r->R w0 lab0 oo n V' E' a' w'->Q .normal a' w') :
  ∀(is:List Nat) {pin:Option cX}{V:St}{E:aM}{a:Act}{w:World},R w0 lab0 oo n V E a w->gu V E a w pin->kO Γ T N ops is pin V K=some r->wpOps P ops Q is a w
 |[],pin,V,E,a,w,h,_,hr=>hK V E a w hr h
 |i::ej,pin,V,E,a,w,h,hpin,hr=>by
  have nopin:∀{V:St}{E:aM}{a:Act}{w:World},gu V E a w none:=λp hp=>by cases hp
  rw[wpOps_cons];simp only[kO]at hr;split at hr
  ·rename_i o ho;split at hr;·refine wU h hops ho hr (λV' h' hF hw=>nI ho hw ?_) (λV' h' hr' hw=>Bz ho hw (nJ hT hΓ hops hK ej h' nopin hr'));exact By hT hΓ h' (gt hops ho) hF λσ2 E2 v w2 hr2 h2 _=>nJ hT hΓ hops hK ej h2 nopin hr2
   ·rename_i p hm;split at hr
    ·rename_i c s hv;rw[wN,wO]at hr;cases c;·cases hr
     simp only[cond_true]at hr;obtain⟨hg,v,h1,h2,h3⟩:o.guard=none/\∃v,(execOp a.eval o).run P w=.ok (.value v) w/\aK V E w s v/\gu (eE V o.dst s) E (a.put o.dst v) w (some p):=by
      unfold sI at hm;split at hm;·rename_i p' hp';injection hm with hm;subst hm;exact BB hT h hp' (gt hops ho) hv rfl
      ·split at hm;·cases hm
       ·rename_i p' ;split at hm;·cases hm
        ·rename_i hg;split at hm
         ·split at hm;·rename_i en _;cases hq:(nF p'.d (fC en.sig.ps _)&&dA en.sig.ps)<;>rw[hq]at hm<;>cases hm
          ·cases hm
         ·split at hm;·rename_i p2 hel;injection hm with hm;subst hm;obtain⟨v,h1,h2,h3⟩:=BD hT h hel (gt hops ho) hpin hv rfl;exact⟨hg,v,h1,h2,h3⟩
          split at hm;·cases hm
          cases hq:(iE o.op&&(iD p'.d o.dst&&kM p' o.dst));·rw[hq]at hm;cases hm
          rw[hq]at hm;injection hm with hm;subst hm;simp only[Bool.and_eq_true]at hq;obtain⟨v,h1,h2⟩:=kF hT h hv rfl;refine⟨hg,v,h1,h2,λp hp hlt=>?_⟩;obtain⟨⟨row,k1,k2,k3,k4,k5⟩,hE⟩:=hpin p hp hlt;injection hp with hp;subst hp;have keep:∀z,iD z o.dst=true->(a.put o.dst v).eval (.tmp z)=a.eval (.tmp z):=by
           intro z hz;cases hdst:o.dst with
           |none=>rfl
           |some e =>
            have he:=gt hops ho e hdst;rw[hdst]at hz;show(a.tmps.setIfInBounds e v).getD z undef=a.tmps.getD z undef;rw[na _ _ _ _ (by rw[h.size];exact he),if_neg];rintro rfl
            simp[iD]at hz
          refine⟨⟨row,⟨?_,k2,k3,k4, ?_⟩⟩,λe k he=>?_⟩;rotate_left 2
          ·obtain⟨q1,g,m,c,q2,q3,q4⟩:=hE e k he;refine⟨q1,g,m,c,by rw[keep _ hq.2.1];exact q2,q3, ?_⟩;rw[keep _ (by have:=hq.2.2;unfold kM at this;rw[he]at this;exact this)];exact q4
          ·cases hdst:o.dst<;>exact k1
          ·rw[keep _ hq.2.1];exact k5
     refine nI ho (by simp[Region.wanted,hg]) ?_;unfold Oper.wp;rw[h1];exact nJ hT hΓ hops hK ej (h.iput (gt hops ho) h2) h3 hr
    ·cases hr
   ·rename_i p f args hm;unfold sI at hm;split at hm;·cases hm
    ·split at hm;·cases hm
     ·rename_i p';split at hm;·cases hm
      ·rename_i hg;split at hm
       ·rename_i f' args' hcall;split at hm
        ·rename_i en hen;cases hq:(nF p'.d (fC en.sig.ps args')&&dA en.sig.ps);·rw[hq]at hm;cases hm
         rw[hq]at hm;injection hm with e1 e2 e3;subst e1 e2 e3;simp only[Bool.and_eq_true]at hq;refine nI ho (by simp[Region.wanted,hg]) ?_;exact Jf hT hΓ h (gt hops ho) hcall hen hq.1 hq.2 hpin hr λV' E' v w' hr' h'=>nJ hT hΓ hops hK ej h' nopin hr'
        ·cases hm
       ·split at hm;·cases hm
        split at hm;·cases hm
        ·cases hq:(iE o.op&&(iD p'.d o.dst&&kM p' o.dst))<;>rw[hq]at hm<;>cases hm
   ·rename_i p e k t x hm;unfold sI at hm;split at hm;·cases hm
    ·split at hm;·cases hm
     ·rename_i p';split at hm;·cases hm
      ·rename_i hg;split at hm
       ·split at hm;·rename_i en _;cases hq:(nF p'.d (fC en.sig.ps _)&&dA en.sig.ps)<;>rw[hq]at hm<;>cases hm
        ·cases hm
       ·split at hm;·cases hm
        split at hm;·rename_i e1 k1 t1 x1 hput;injection hm with q1 q2 q3 q4 q5;subst q1 q2 q3 q4 q5;refine nI ho (by simp[Region.wanted,hg]) ?_;exact BC hT h hput hpin hr λV' E' v w' hr' h'=>nJ hT hΓ hops hK ej h' nopin hr'
        ·cases hq:(iE o.op&&(iD p'.d o.dst&&kM p' o.dst))<;>rw[hq]at hm<;>cases hm
  ·cases hr
def NP(Q:Exit->Act->World->Prop):Prop:=∀c a a' w,Q (.panic c) a w->Q (.panic c) a' w
def wV{f:Nat->Bool}{i:Nat}:∀{l:List Nat},sJ f l=some i->i∈l/\f i=true
 |[],h=>by cases h
 |j::l,h=>by
  simp only[sJ]at h;cases hb:f j;·rw[hb]at h;exact⟨List.mem_cons_of_mem _ (wV h).1,(wV h).2⟩
  ·rw[hb]at h;injection h with h;subst h;exact⟨List.mem_cons_self,hb⟩
def BE(hT:aX P T)(h:R w0 lab0 oo n V E a w){o:Oper}{pin:Option cX}(hd:∀d,o.dst=some d->d<n)(hpin:o.guard=none->gu V E a w pin){c:Bool}{s:SV}(hv:cd T V o.op=some (c,s))(hc:c=true)
  {v:Value} (h1:(execOp a.eval o).run P w=.ok (.value v) w):gu (eE V o.dst s) E (a.put o.dst v) w (wR T V o pin):=by
 have nopin:∀{V:St}{E:aM}{a:Act}{w:World},gu V E a w none:=λp hp=>by cases hp
 have same:∀{v'},(execOp a.eval o).run P w=.ok (.value v') w->v'=v:=λ{v'} h2=>by rw[h1]at h2;injection h2 with h2;injection h2 with h2;exact h2.symm
 unfold wR;split;·rename_i p hp;obtain⟨_,v',k1,_,k2⟩:=BB hT h hp hd hv hc;obtain rfl:=same k1;exact k2
 ·split
  ·rename_i p hg;have hpin:=hpin hg;split;·rename_i p' hp';obtain⟨v',k1,_,k2⟩:=BD hT h hp' hd hpin hv hc;obtain rfl:=same k1;exact k2
   ·cases hq:(iD p.d o.dst&&kM p o.dst);·exact nopin
    ·simp only[Bool.and_eq_true]at hq;intro p' hp' hlt;injection hp' with hp';subst hp';obtain⟨⟨row,k1,k2,k3,k4,k5⟩,hE⟩:=hpin p rfl hlt;have keep:∀z,iD z o.dst=true->(a.put o.dst v).eval (.tmp z)=a.eval (.tmp z):=by
      intro z hz;cases hdst:o.dst with
      |none=>rfl
      |some e =>
       have he:=hd e hdst;rw[hdst]at hz;show(a.tmps.setIfInBounds e v).getD z undef=a.tmps.getD z undef;rw[na _ _ _ _ (by rw[h.size];exact he),if_neg];rintro rfl
       simp[iD]at hz
     refine⟨⟨row,⟨?_,k2,k3,k4, ?_⟩⟩,λe k he=>?_⟩;·cases hdst:o.dst<;>exact k1
     ·rw[keep _ hq.1];exact k5
     ·obtain⟨q1,g,m,c,q2,q3,q4⟩:=hE e k he;refine⟨q1,g,m,c,by rw[keep _ hq.1];exact q2,q3, ?_⟩;rw[keep _ (by have:=hq.2;unfold kM at this;rw[he]at this;exact this)];exact q4
  ·exact nopin
def kQ(hT:aX P T)(hΓ:mt P w0 lab0 Γ)(hops:mr n ops=true)(hsel:Region.noSelect ops=true){Q:Exit->Act->World->Prop}(hQ:NP Q){K:St->Option J}{r:J}
  (hK:∀V' E' a' w',K V'=some r->R w0 lab0 oo n V' E' a' w'->Q .normal a' w') :
  ∀(fuel:Nat) (listed:Array Bool) {pin:Option cX}{V:St}{E:aM}{a:Act}{w:World},ix ops listed->R w0 lab0 oo n V E a w->gu V E a w pin->jX Γ T N ops fuel listed pin V K=some r->fO P ops (kP Γ ops) Q fuel listed a w
 |0,listed,pin,V,E,a,w,hcl,h,hpin,hr=>by
  simp only[jX]at hr;cases hq:(Region.ready .any ops listed).isEmpty;·rw[hq]at hr;cases hr
  ·rw[hq]at hr;exact⟨by simpa using hq,hK V E a w hr h⟩
 |fuel+1,listed,pin,V,E,a,w,hcl,h,hpin,hr=>by
  have nopin:∀{V:St}{E:aM}{a:Act}{w:World},gu V E a w none:=λp hp=>by cases hp
  simp only[jX]at hr;split at hr;·rename_i hre;exact IK hre (hK V E a w hr h) _
  ·rename_i i0 rs hre;split at hr
   ·rename_i i hi;obtain⟨hmem,hfs⟩:=wV hi;rw[<-hre]at hmem;split at hr
    ·rename_i o ho;obtain⟨hfree,hH⟩:Region.free .any ops listed i=true/\kP Γ ops i=false:=by unfold Bw at hfs;rw[ho]at hfs;simp only[Bool.and_eq_true,Bool.not_eq_true']at hfs;exact⟨hfs.2.1,hfs.2.2⟩
     refine Jc h hops ho hr (λV' h' hsame hF hw=>?_) (λV' h' hr' hw=>?_)
     ·unfold Bv at hF;split at hF
      ·rename_i c s hv;rw[wN,wO]at hF;cases hso:vY o.op s;·rw[hso]at hF;cases hF
       ·rw[hso]at hF;cases c;·cases hF
        ·cases hpo:l9 o.op;·obtain⟨v,h1,h2⟩:=IF hT h' hv rfl hso;exact AV hH ho hpo hsel hcl hfree hmem (λc a' w' hq=>hQ c _ _ _ hq) (.inl ⟨hw,h1⟩) (kQ hT hΓ hops hsel hQ hK fuel _ (hcl.put hmem) (h'.iput (gt hops ho) h2) (BE hT h' (gt hops ho) (λhg=>by have:=hsame hg;subst this;exact hpin) hv rfl (h1 w (bL.refl w))) hF)
         ·obtain⟨v,h1,h2⟩:=IG hT h' hv rfl hpo;exact AW ho hsel hfree hmem (λc a' w' hq=>hQ c _ _ _ hq) (.inl ⟨hw,λw' _=>h1 w'⟩) (kQ hT hΓ hops hsel hQ hK fuel _ (hcl.put hmem) (h'.iput (gt hops ho) h2) (BE hT h' (gt hops ho) (λhg=>by have:=hsame hg;subst this;exact hpin) hv rfl (h1 w)) hF)
      ·cases hF
     ·cases hpo:l9 o.op;·exact AV hH ho hpo hsel hcl hfree hmem (λc a' w' hq=>hQ c _ _ _ hq) (.inr ⟨hw,rfl⟩) (kQ hT hΓ hops hsel hQ hK fuel _ (hcl.put hmem) h' nopin hr')
      ·exact AW ho hsel hfree hmem (λc a' w' hq=>hQ c _ _ _ hq) (.inr ⟨hw,rfl⟩) (kQ hT hΓ hops hsel hQ hK fuel _ (hcl.put hmem) h' nopin hr')
    ·cases hr
   ·refine⟨(λhe=>by rw[hre]at he;cases he),λi hi=>?_⟩;rw[hre]at hi;have hr:=Br hr i hi;split at hr
    ·rename_i o ho;cases hq:(fR Γ o||jl ops (kP Γ ops) i);·rw[hq]at hr;cases hr
     ·rw[hq]at hr;simp only[cond_true]at hr;have hext:∀{w'},(fR Γ o=true->bL w w')->jl ops (kP Γ ops) i=false->bL w w':=λh1 h2=>h1 (by simpa[h2]using hq);split at hr
      ·rename_i p e k t x hput;cases hlb:jl ops (kP Γ ops) i;·rw[hlb]at hr;cases hr
       rw[hlb]at hr;simp only[cond_true]at hr;unfold Bx at hput;split at hput
       ·rename_i p' hg;split at hput;·rename_i y hy;injection hput with hput;injection hput with q1 q2;subst q1 q2;refine nI ho (by simp[Region.wanted,hg]) ?_;exact BC hT h hy hpin hr λV' E' v w' hr' h'=>⟨(λhlf=>by cases hlf),kQ hT hΓ hops hsel hQ hK fuel _ (hcl.put (by rw[hre];exact hi)) h' nopin hr'⟩
        ·cases hput
       ·cases hput
      refine wU h hops ho hr (λV' h' hF hw=>nI ho hw ?_) (λV' h' hr' hw=>Bz ho hw ⟨λ_=>bL.refl w,kQ hT hΓ hops hsel hQ hK fuel _ (hcl.put (by rw[hre];exact hi)) h' nopin hr'⟩);exact By hT hΓ h' (gt hops ho) hF λσ2 E2 v w2 hr2 h2 h3=>⟨hext h3,kQ hT hΓ hops hsel hQ hK fuel _ (hcl.put (by rw[hre];exact hi)) h2 nopin hr2⟩
    ·cases hr
def Jh(hT:aX P T)(hΓ:mt P w0 lab0 Γ)(hm:P.follows .mixedOrders=true)(hops:mr n ops=true){Q:Exit->Act->World->Prop}(hQ:NP Q){K:St->Option J}{r:J}{id:Nat}{draw:Bool}
  (hK:∀V' E' a' w',K V'=some r->R w0 lab0 oo n V' E' a' w'->Q .normal a' w') (h:R w0 lab0 oo n V E a w) (hr:wS Γ T N ops draw V K=some r):(Code.region id ops draw).wp P Q a w:=by
 unfold wS at hr;cases draw;·exact wp_region (nJ hT hΓ hops hK _ h (λp hp=>by cases hp) hr)
 ·simp only[cond_true]at hr;cases hsel:Region.noSelect ops;·rw[hsel]at hr;cases hr
  ·rw[hsel]at hr;refine wp_region_any hm (AT _ _ _ _ (kQ hT hΓ hops hsel hQ hK _ _ ix.none (h.ext ?_) (λp hp=>by cases hp) hr));exact⟨rfl,⟨rfl,λ_=>Nat.le_succ _⟩,rfl,Nat.le_refl _,λ_ _=>rfl⟩
end
def aA{α:Type}:List (Nat×α)->Nat->Option α
 |[],_=>none
 | (k,v)::l,t=>cond (Nat.beq t k) (some v) (aA l t)
structure eU where
 bx:Bool
 k:Nat
 i:Nat
structure pR where
 loc:eU
 nm:Nat
 e:Nat
 t:Ty
 deep:Bool
structure aa where
 slots:List Nat
 boxes:List Nat
 nils:List pR
 frz:List (eU×Nat×Ty)
 rows:List (eU×Nat)
def mv(V:St)(l:eU):Option af :=
 cond l.bx (match V.box l.k with
  |some (_,cs)=>cs[l.i]?
  |none=>none)
 (match V.slot l.k with
  |.c x=>cond (Nat.beq l.i 0) (some x) none
  |.agg cs=>cs[l.i]?
  |.tup _=>none)
def sM(V:St)(l:eU)(c:af):St :=
 cond l.bx (match V.box l.k with
  |some (te,cs)=>⟨V.slot,am V.box l.k (some (te,cs.set l.i c)),V.row⟩
  |none=>V)
 (match V.slot l.k with
  |.c _=>V.put l.k (.c c)
  |.agg cs=>V.put l.k (.agg (cs.set l.i c))
  |.tup _=>V)
def wW(V:St)(d:pR):Option St:=match mv V d.loc with
 |some .nil=>match V.row d.nm with
  |none=>some (sM (V.withRow (am V.row d.nm (some ⟨d.e,d.t,[],d.deep,true⟩))) d.loc (.own d.nm))
  |some _=>none
 |some (.own r)=>match V.row r with
  |some row=>match r6 row d.deep with
   |some row'=>some { V with row:=am V.row r (some row') }
   |none=>some V
  |none=>some V
 |_=>some V
def sN:List pR->St->Option St
 |[],V=>some V
 |d::ds,V=>match wW V d with
  |some V'=>sN ds V'
  |none=>none
def wX(V:St)(d:eU×Nat×Ty):Option St:=match mv V d.1 with
 |some (.own r)=>absorb r none V
 |some .nil=>some (sM V d.1 (.sn d.2.1 d.2.2 [] none))
 |_=>some V
def sO:List (eU×Nat×Ty)->St->Option St
 |[],V=>some V
 |d::ds,V=>match wX V d with
  |some V'=>sO ds V'
  |none=>none
def BF(V:St):List (eU×Nat)->Option (List (Nat×Nat))
 |[]=>some []
 | (l,q)::ls=>match mv V l,BF V ls with
  |some (.own r),some m=>some ((r,q)::m)
  |_,_=>none
def gR(m:List (Nat×Nat))(f:Nat->af)(r:Nat):af:=match aA m r with
 |some q=>f q
 |none=>.undef
def fi(m:List (Nat×Nat))(bs:List Nat):af->af
 |.own r=>gR m .own r
 |.part r lo n=>gR m (λq=>.part q lo n) r
 |.elt r i f=>gR m (λq=>.elt q i f) r
 |.sn e t xs (some r)=>gR m (λq=>.sn e t xs (some q)) r
 |.full e t xs (some r)=>gR m (λq=>.full e t xs (some q)) r
 |.selt t x (some r) f=>gR m (λq=>.selt t x (some q) f) r
 |.box b f=>cond (bq b bs) (.box b f) .undef
 |.mp b=>cond (bq b bs) (.mp b) .undef
 |.fn f caps=>cond (caps.all λp=>bq p.1 bs) (.fn f caps) .undef
 |c=>c
def wY(q:Nat):Bool:=Nat.ble 1000000000 q
def mw(q:Nat)(row:ac):ac:=⟨row.e,row.t,row.xs,row.deep,wY q&&row.nilE⟩
def sP(V:St)(f:af->af):List Nat->Option (List (Nat×(Nat×List af)))
 |[]=>some []
 |b::bs=>match V.box b,sP V f bs with
  |some (te,cs),some l=>some ((b,(te,cs.map f))::l)
  |_,_=>none
def nK(V:St):List (Nat×Nat)->Option (List (Nat×ac))
 |[]=>some []
 | (r,q)::m=>match V.row r,nK V m with
  |some row,some l=>some ((q,mw q row)::l)
  |_,_=>none
def fj(sl:List (Nat×SV))(t:Nat):SV:=match aA sl t with
 |some s=>s
 |none=>.c .undef
def ah(sl:List (Nat×SV))(bx:List (Nat×(Nat×List af)))(rw:List (Nat×ac)):St:=⟨fj sl,aA bx,aA rw⟩
def pS(V:St)(f:af->af):List Nat->List (Nat×SV)
 |[]=>[]
 |t::ts=>(t,(V.slot t).map f)::pS V f ts
def gw(cl:aa)(V:St):Option St:=match(sN cl.nils V).bind (sO cl.frz)with
 |some σ1=>match BF σ1 cl.rows with
  |some m=>cond (dq (m.map (·.1))&&dq (m.map (·.2))) (match sP σ1 (fi m cl.boxes) cl.boxes,nK σ1 m with
   |some bx,some rw=>some (ah (pS σ1 (fi m cl.boxes) cl.slots) bx rw)
   |_,_=>none) none
  |none=>none
 |none=>none
section
variable {P : Program} {V V' : St} {E E' : aM} {w w' : World} {w0 : World} {lab0 : Nat → ay} {oo : Nat → Value} {n : Nat} {a : Act} [DC]
def R.reslot(h:R w0 lab0 oo n V E a w){t:Nat}{s:SV}(hs:∀v,aK V E w (V.slot t) v->aK V E w s v):R w0 lab0 oo n (V.put t s) E a w:=by
 have m:cq V E w (V.put t s) E w:=cq.same rfl rfl;refine⟨h.bound,h.size,h.defers,λt'=>?_,λb te cs hb=>?_,h.rows,h.same⟩
 ·by_cases e:t'=t;·subst e;show aK _ _ _ (am V.slot t' s t') _;rw[aU];exact(hs _ (h.slots t')).move m
  ·show aK _ _ _ (am V.slot t s t') _;rw[ba _ _ e];exact(h.slots t').move m
 ·obtain⟨arr,h1,h2,h3,h4⟩:=h.boxes b te cs hb;exact⟨arr,h1,h2,h3.imp λ_ _ h=>h.move m,h4⟩
def R.rebox(h:R w0 lab0 oo n V E a w){b te:Nat}{cs cs':List af}(hb:V.box b=some (te,cs))(hl:cs'.length=cs.length)(hs:∀vs,ai (aj V E w) cs vs->ai (aj V E w) cs' vs) :
  R w0 lab0 oo n ⟨V.slot,am V.box b (some (te,cs')),V.row⟩ E a w:=by
 have m:cq V E w ⟨V.slot,am V.box b (some (te,cs')),V.row⟩ E w:=by
  refine⟨λr row h=>⟨row,h,rfl,rfl,Nat.le_refl _⟩,λb' te' cs0 hb'=>?_,λ_ _ _ h1 h2=>⟨h1,h2⟩,λ_ _ _ _ h=>h⟩;by_cases e:b'=b;·subst e;rw[hb]at hb';injection hb' with hb';injection hb' with e1 e2;subst e1 e2;exact⟨te,cs',aU _ _ _,rfl,hl⟩
  ·exact⟨te',cs0,(ba _ _ e).trans hb',rfl,rfl⟩
 refine⟨h.bound,h.size,h.defers,λt'=>(h.slots t').move m,λb' te' cs0 hb'=>?_,h.rows,h.same⟩;by_cases e:b'=b;·subst e;have hb':am V.box b' (some (te,cs')) b'=some (te',cs0):=hb';rw[aU]at hb';injection hb' with hb';injection hb' with e1 e2;subst e1 e2;obtain⟨arr,h1,h2,h3,h4⟩:=h.boxes b' te cs hb;exact⟨arr,h1,h2,(hs _ h3).imp λ_ _ h=>h.move m,h4⟩
 ·have hb':am V.box b (some (te,cs')) b'=some (te',cs0):=hb';rw[ba _ _ e]at hb';obtain⟨arr,h1,h2,h3,h4⟩:=h.boxes b' te' cs0 hb';exact⟨arr,h1,h2,h3.imp λ_ _ h=>h.move m,h4⟩
def ai.reset{Q:af->Value->Prop}{c c':af}(hs:∀v,Q c v->Q c' v):∀{cs:List af}{vs:List Value}{i:Nat},cs[i]? = some c->ai Q cs vs->ai Q (cs.set i c') vs
 |[],_,_,h,_=>by simp at h
 |x::cs,[],_,_,h=>h.elim
 |x::cs,v::vs,0,h,h2=>by simp at h;subst h;exact⟨hs _ h2.1,h2.2⟩
 |x::cs,v::vs,i+1,h,h2=>⟨h2.1,ai.reset hs (by simpa using h) h2.2⟩
def R.resetAt(h:R w0 lab0 oo n V E a w){l:eU}{c c':af}(hc:mv V l=some c)(hs:∀v,aj V E w c v->aj V E w c' v):R w0 lab0 oo n (sM V l c') E a w:=by
 obtain⟨bx,k,i⟩:=l;unfold mv at hc;unfold sM;cases bx
 ·simp only[cond_false]at hc ⊢;split at hc
  ·rename_i x hx;cases hi:Nat.beq i 0;·rw[hi]at hc;cases hc
   ·rw[hi]at hc;injection hc with hc;subst hc;exact h.reslot λv hv=>by rw[hx]at hv;exact hs v hv
  ·rename_i cs hx;refine h.reslot λv hv=>?_;rw[hx]at hv;obtain⟨arr,e,hv⟩:=hv;exact⟨arr,e,hv.reset hs hc⟩
  ·cases hc
 ·simp only[cond_true]at hc ⊢;split at hc;·rename_i te cs hx;exact h.rebox hx (by simp) λvs hv=>hv.reset hs hc
  ·cases hc
def Ji(h:R w0 lab0 oo n V E a w){d:pR}(hr:wW V d=some V'):∃E',R w0 lab0 oo n V' E' a w:=by
 unfold wW at hr;split at hr
 ·rename_i hc;split at hr
  ·rename_i hfree;injection hr with hr;subst hr;have G:=h.nilRow (r:=d.nm) (e:=d.e) (t:=d.t) (deep:=d.deep) hfree;refine⟨_,R.resetAt (c:=.nil) G ?_ λv hv=>?_⟩;·exact hc
   ·obtain rfl:v=_:=hv;exact⟨(aU _ _ _).symm,by show(am V.row d.nm _ d.nm).isSome=true;rw[aU];rfl,none,0,0,rfl⟩
  ·cases hr
 ·split at hr
  ·rename_i row hrow;split at hr;·rename_i row' hsh;injection hr with hr;subst hr;exact⟨E,(h.shal hrow hsh).2.2.2⟩
   ·injection hr with hr;subst hr;exact⟨E,h⟩
  ·injection hr with hr;subst hr;exact⟨E,h⟩
 ·injection hr with hr;subst hr;exact⟨E,h⟩
def BG:∀{ds:List pR}{V V':St}{E:aM},R w0 lab0 oo n V E a w->sN ds V=some V'->∃E',R w0 lab0 oo n V' E' a w
 |[],V,V',E,h,hr=>by injection hr with hr;subst hr;exact⟨E,h⟩
 |d::ds,V,V',E,h,hr=>by
  simp only[sN]at hr;split at hr;·rename_i σ1 h1;obtain⟨E1,g1⟩:=Ji h h1;exact BG g1 hr
  ·cases hr
def Jj(h:R w0 lab0 oo n V E a w){d:eU×Nat×Ty}(hr:wX V d=some V'):∃E',R w0 lab0 oo n V' E' a w:=by
 unfold wX at hr;split at hr;·rename_i r hc;obtain⟨lab',g,_⟩:=R.absorbs (p:=none) (qs:=[r]) (V':=V') h (by simp[Fw.absorbs,hr]) (λ_ h=>by cases h);exact⟨_,g⟩
 ·rename_i hc;injection hr with hr;subst hr;exact⟨E,h.resetAt hc λv hv=>by obtain rfl:v=_:=hv;exact⟨none,0,0,rfl,rfl,Nat.le_refl _,Nat.zero_le _,.inl rfl⟩⟩
 ·injection hr with hr;subst hr;exact⟨E,h⟩
def BH:∀{ds:List (eU×Nat×Ty)}{V V':St}{E:aM},R w0 lab0 oo n V E a w->sO ds V=some V'->∃E',R w0 lab0 oo n V' E' a w
 |[],V,V',E,h,hr=>by injection hr with hr;subst hr;exact⟨E,h⟩
 |d::ds,V,V',E,h,hr=>by
  simp only[sO]at hr;split at hr;·rename_i σ1 h1;obtain⟨E1,g1⟩:=Jj h h1;exact BH g1 hr
  ·cases hr
def nL(m:List (Nat×Nat)):ay->ay
 |.row r=>match aA m r with
  |some q=>.row q
  |none=>.dead
 |.inn r=>match aA m r with
  |some q=>.inn q
  |none=>.dead
 |l=>l
def BI{m:List (Nat×Nat)}{p p':Option Nat}(h:(p=none/\p'=none)\/∃r q,p=some r/\p'=some q/\aA m r=some q):nL m (bh p)=bh p':=by
 rcases h with⟨rfl,rfl⟩|⟨r,q,rfl,rfl,h⟩;·rfl
 ·simp[bh,nL,h]
def R.ren(h:R w0 lab0 oo n V E a w){m:List (Nat×Nat)}{bs:List Nat}(hslot:∀t,V'.slot t=(V.slot t).map (fi m bs)\/V'.slot t=.c .undef)
  (hbox:∀b te cs,V'.box b=some (te,cs)->∃cs0,V.box b=some (te,cs0)/\cs=cs0.map (fi m bs))
  (hbox':∀b te cs,bq b bs=true->V.box b=some (te,cs)->V'.box b=some (te,cs.map (fi m bs)))
  (hrow:∀q row',V'.row q=some row'->∃r row,aA m r=some q/\V.row r=some row/\row'=mw q row)
  (hrow':∀r q row,aA m r=some q->V.row r=some row->V'.row q=some (mw q row))
  (inj:∀r r' q,aA m r=some q->aA m r'=some q->r=r'):∃E',R w0 lab0 oo n V' E' a w:=by
 classical
 let E':aM:=⟨λk=>nL m (E.lab k),λq=>if hq:∃r,aA m r=some q then E.rv hq.choose else undef,E.bb⟩;have hrv:∀r q,aA m r=some q->E'.rv q=E.rv r:=by intro r q hq;have hex:∃r,aA m r=some q:=⟨r,hq⟩;show(if hq:∃r,aA m r=some q then E.rv hq.choose else undef)=_;rw[dif_pos hex,inj _ _ _ hex.choose_spec hq]
 have hlab:∀k,E'.lab k=nL m (E.lab k):=λk=>rfl;have rd:∀{p p':Option Nat}{t:Ty}{cs:List Value}{x:t.den},((p=none/\p'=none)\/∃r q,p=some r/\p'=some q/\aA m r=some q)->Rd w (λk=>E.lab k=bh p) t cs x->Rd w (λk=>E'.lab k=bh p') t cs x:=by intro p p' t cs x hp hr;refine hr.mono λk hk=>?_;rw[hlab,hk];exact BI hp
 have selt:∀{p p':Option Nat}{t:Ty}{x:t.den}{f:Nat}{v:Value},((p=none/\p'=none)\/∃r q,p=some r/\p'=some q/\aA m r=some q)->aj V E w (.selt t x p f) v->aj V' E' w (.selt t x p' f) v:=by intro p p' t x f v hp hr;obtain⟨ad,cs,h1,h2,h3,h4,h5⟩:=hr;exact⟨ad,cs,h1,h2,by rw[hlab,h3];exact BI hp,rd hp h4,h5⟩
 have hc:∀c v,aj V E w c v->aj V' E' w (fi m bs c) v:=by
  intro c v hv;cases c with
  |undef=>trivial
  |int _ _=>exact hv
  |bool _=>exact hv
  |str _=>exact hv
  |err _=>exact hv
  |bor v0 e t xs=>exact⟨hv.1,rd (p:=none) (p':=none) (.inl ⟨rfl,rfl⟩) hv.2⟩
  |nil=>exact hv
  |sn e t xs p =>
   cases p with
   |none=>exact rd (p:=none) (p':=none) (.inl ⟨rfl,rfl⟩) hv
   |some r =>
    simp only[fi,gR];split;·rename_i q hq;exact rd (p:=some r) (p':=some q) (.inr ⟨r,q,rfl,rfl,hq⟩) hv
    ·trivial
  |full e t xs p =>
   cases p with
   |none=>exact⟨rd (p:=none) (p':=none) (.inl ⟨rfl,rfl⟩) hv.1,hv.2⟩
   |some r =>
    simp only[fi,gR];split;·rename_i q hq;exact⟨rd (p:=some r) (p':=some q) (.inr ⟨r,q,rfl,rfl,hq⟩) hv.1,hv.2⟩
    ·trivial
  |own r =>
   simp only[fi,gR];split;·rename_i q hq;obtain⟨rfl,h1,h2⟩:=hv;obtain⟨row,hr⟩:=Option.isSome_iff_exists.1 h1;exact⟨(hrv r q hq).symm,by rw[hrow' r q row hq hr];rfl,h2⟩
   ·trivial
  |part r lo n =>
   simp only[fi,gR];split;·rename_i q hq;obtain⟨row,A,c,h1,h2,h3,h4,h5,h6,h7,h8⟩:=hv;refine⟨mw q row,A,c,hrow' r q row hq h1,h2,h3,h4,h5,h6,h7,λhn=>?_⟩;rw[hrv r q hq];exact h8 hn
   ·trivial
  |box b f =>
   simp only[fi];cases hb:bq b bs;·trivial
   ·obtain⟨rfl,te,cs,h1,h2⟩:=hv;exact⟨rfl,te,_,hbox' b te cs hb h1,by simpa using h2⟩
  |mp b =>
   simp only[fi];cases hb:bq b bs;·trivial
   ·obtain⟨rfl,te,cs,h1⟩:=hv;exact⟨rfl,te,_,hbox' b te cs hb h1⟩
  |mset t xs=>exact hv
  |elt r i f =>
   simp only[fi,gR];split;·rename_i q hq;obtain⟨row,g,n,c,h1,h2,h3,h4,h5,h6⟩:=hv;exact⟨mw q row,g,n,c,hrow' r q row hq h1,by rw[hrv r q hq];exact h2,h3,h4,h5,h6⟩
   ·trivial
  |selt t x p f =>
   cases p with
   |none=>exact selt (p:=none) (p':=none) (.inl ⟨rfl,rfl⟩) hv
   |some r =>
    simp only[fi,gR];split;·rename_i q hq;exact selt (p:=some r) (p':=some q) (.inr ⟨r,q,rfl,rfl,hq⟩) hv
    ·trivial
  |fn f caps =>
   simp only[fi];cases hb:caps.all λp=>bq p.1 bs;·trivial
   ·obtain⟨rfl,hv⟩:=hv;refine⟨rfl,λp hp=>?_⟩;obtain⟨te,cs,h1,h2⟩:=hv p hp;exact⟨te,_,hbox' p.1 te cs (List.all_eq_true.1 hb p hp) h1,by simpa using h2⟩
 refine⟨E',h.bound,h.size,h.defers,λt=>?_,λb te cs hb=>?_,λq row' hq=>?_, ?_⟩
 ·rcases hslot t with e|e;·rw[e];exact(h.slots t).mapl hc
  ·rw[e];show aK V' E' w (.c .undef) (cP oo a t);exact True.intro
 ·obtain⟨cs0,h1,rfl⟩:=hbox b te cs hb;obtain⟨arr,k1,k2,k3,k4⟩:=h.boxes b te cs0 h1;exact⟨arr,k1,by rw[hlab,k2];rfl,k3.mapl hc,k4⟩
 ·obtain⟨r,row,h1,h2,rfl⟩:=hrow q row' hq;obtain⟨css,k1,k2,k3,k4⟩:=h.rows r row h2;rw[hrv r q h1];refine⟨css,k1,λk hk=>by rw[hlab,k2 k hk];simp[nL,h1], ?_,λh=>k4 (Bool.and_eq_true_iff.1 h).2⟩;show cond row.deep _ _;cases hd:row.deep;·rw[hd]at k3;exact ai.imp (λc y hy=>Rd.mono (λk hk=>(by rw[hlab,hk];rfl)) hy) (show ai (λc y=>Rd w (λk=>E.lab k=.st) row.t c y) css row.xs from k3)
  ·rw[hd]at k3;obtain⟨Ls,j1,j2,j3⟩:=k3;exact⟨Ls,j1,j2,λk hk=>by rw[hlab,j3 k hk];simp[nL,h1]⟩
 ·refine⟨h.same.os,h.same.tape,h.same.output,h.same.size,λk hk hl=>?_,λk hk hl=>?_⟩;·obtain⟨g1,g2⟩:=h.same.old k hk hl;exact⟨by rw[hlab,g1];rfl,g2⟩
  ·obtain⟨g1,g2⟩:=h.same.gone k hk hl;exact⟨by rw[hlab,g1];rfl,g2⟩
def nM{a b:Nat}:Nat.beq a b=true↔a=b:=⟨Nat.eq_of_beq_eq_true,λe=>by subst e;exact Nat.beq_refl a⟩
def eH{α:Type}:∀{l:List (Nat×α)}{t:Nat}{v:α},aA l t=some v->(t,v)∈l
 |[],_,_,h=>by cases h
 | (k,u)::l,t,v,h=>by
  simp only[aA]at h;cases hb:Nat.beq t k;·rw[hb]at h;exact List.mem_cons_of_mem _ (eH h)
  ·rw[hb]at h;injection h with h;rw[<-h,nM.1 hb];exact List.mem_cons_self
def BJ{f:af->af}(t:Nat):∀ts:List Nat,aA (pS V f ts) t=some ((V.slot t).map f)\/aA (pS V f ts) t=none
 |[]=>.inr rfl
 |t'::ts=>by
  simp only[pS,aA];cases hb:Nat.beq t t';·exact BJ t ts
  ·rw[nM.1 hb];exact .inl rfl
def wZ{f:af->af}(b:Nat):∀{bs:List Nat}{l:List (Nat×(Nat×List af))},sP V f bs=some l ->
  (∀te cs,aA l b=some (te,cs)->∃cs0,V.box b=some (te,cs0)/\cs=cs0.map f)/\(∀te cs,bq b bs=true->V.box b=some (te,cs)->aA l b=some (te,cs.map f))
 |[],l,h=>by injection h with h;subst h;exact⟨(λte cs h=>by cases h),λte cs h=>by cases h⟩
 |b'::bs,l,h=>by
  simp only[sP]at h;split at h
  ·rename_i te cs l' hb hl;injection h with h;subst h;obtain⟨g1,g2⟩:=wZ b hl;simp only[aA,bq];cases hq:Nat.beq b b';·exact⟨g1,λte cs hm=>g2 te cs (by simpa using hm)⟩
   ·obtain rfl:=nM.1 hq;refine⟨λte' cs' h'=>?_,λte' cs' _ h'=>?_⟩;·simp only[cond_true,Option.some.injEq,Prod.mk.injEq]at h';obtain⟨rfl,rfl⟩:=h';exact⟨cs,hb,rfl⟩
    ·rw[hb]at h';injection h' with h';injection h' with e1 e2;rw[e1,e2];rfl
  ·cases h
def BK(q:Nat):∀{m:List (Nat×Nat)}{l:List (Nat×ac)},nK V m=some l->∀row',aA l q=some row'->∃r row,(r,q)∈m/\V.row r=some row/\row'=mw q row
 |[],l,h,row',h'=>by injection h with h;subst h;cases h'
 | (r,q')::m,l,h,row',h'=>by
  simp only[nK]at h;split at h
  ·rename_i row l' hr hl;injection h with h;subst h;simp only[aA]at h';cases hb:Nat.beq q q';·rw[hb]at h';obtain⟨r',row2,k1,k2,k3⟩:=BK q hl row' h';exact⟨r',row2,List.mem_cons_of_mem _ k1,k2,k3⟩
   ·rw[hb]at h';injection h' with h';obtain rfl:=nM.1 hb;exact⟨r,row,List.mem_cons_self,hr,h'.symm⟩
  ·cases h
def BL{r q:Nat}{row:ac}(hrow:V.row r=some row):∀{m:List (Nat×Nat)}{l:List (Nat×ac)},nK V m=some l->(m.map (·.2)).Nodup->(r,q)∈m->aA l q=some (mw q row)
 |[],l,h,_,hm=>by cases hm
 | (r',q')::m,l,h,hn,hm=>by
  simp only[nK]at h;split at h
  ·rename_i row' l' hr hl;injection h with h;subst h;simp only[aA];simp only[List.map_cons,List.nodup_cons]at hn;rcases List.mem_cons.1 hm with e|hm;·injection e with e1 e2;subst e1 e2;rw[hr]at hrow;injection hrow with hrow;rw[Nat.beq_refl,hrow];rfl
   ·have hne:Nat.beq q q'=false:=by
     cases hb:Nat.beq q q';·rfl
     ·exact absurd (List.mem_map.2 ⟨(r,q),hm,nM.1 hb⟩) hn.1
    rw[hne];exact BL hrow hl hn.2 hm
  ·cases h
def Jk{m:List (Nat×Nat)}(h:(m.map (·.2)).Nodup){r r' q:Nat}(h1:(r,q)∈m)(h2:(r',q)∈m):r=r':=by
 induction m with
 |nil=>cases h1
 |cons p m ih =>
  simp only[List.map_cons,List.nodup_cons]at h;rcases List.mem_cons.1 h1 with e|h1
  ·rcases List.mem_cons.1 h2 with e'|h2;·rw[<-e]at e';injection e' with e' _;exact e'.symm
   ·exact absurd (List.mem_map.2 ⟨_,h2,by rw[<-e]⟩) h.1
  ·rcases List.mem_cons.1 h2 with e'|h2;·exact absurd (List.mem_map.2 ⟨_,h1,by rw[<-e']⟩) h.1
   ·exact ih h.2 h1 h2
def Jl{m:List (Nat×Nat)}{r q:Nat}(h:(r,q)∈m)(hn:(m.map (·.1)).Nodup):aA m r=some q:=by
 induction m with
 |nil=>cases h
 |cons p m ih =>
  obtain⟨k,u⟩:=p;simp only[List.map_cons,List.nodup_cons]at hn;simp only[aA];rcases List.mem_cons.1 h with e|h;·injection e with e1 e2;subst e1 e2;rw[Nat.beq_refl];rfl
  ·cases hb:Nat.beq r k;·exact ih h hn.2
   ·exact absurd (List.mem_map.2 ⟨_,h,nM.1 hb⟩) hn.1
def w9(h:R w0 lab0 oo n V E a w){cl:aa}(hr:gw cl V=some V'):∃E',R w0 lab0 oo n V' E' a w:=by
 unfold gw at hr;split at hr
 ·rename_i σ1 h1;obtain⟨σ2,h1,h2⟩:=Option.bind_eq_some_iff.1 h1;obtain⟨E2,G2⟩:=BG h h1;obtain⟨E1,G⟩:=BH G2 h2;split at hr
  ·rename_i m hm;cases hq:(dq (m.map (·.1))&&dq (m.map (·.2)))
   ·rw[hq]at hr;cases hr
   ·rw[hq]at hr;simp only[Bool.and_eq_true]at hq;simp only[cond_true]at hr;have n1:=iw hq.1;have n2:=iw hq.2;split at hr
    ·rename_i bx rw' hbx hrw;injection hr with hr;subst hr;refine G.ren (m:=m) (bs:=cl.boxes) (λt=>?_) (λb te cs hb=>?_) (λb te cs hm hb=>?_) (λq row' hq=>?_) (λr q row hl hrow=>?_) (λr r' q hl hl'=>?_)
     ·show fj _ t=_\/fj _ t=_;unfold fj;rcases BJ (V:=σ1) (f:=fi m cl.boxes) t cl.slots with e|e;·rw[e];exact .inl rfl
      ·rw[e];exact .inr rfl
     ·exact(wZ b hbx).1 te cs hb
     ·exact(wZ b hbx).2 te cs hm hb
     ·obtain⟨r,row,k1,k2,k3⟩:=BK q hrw row' hq;exact⟨r,row,Jl k1 n1,k2,k3⟩
     ·exact BL hrow hrw n2 (eH hl)
     ·exact Jk n2 (eH hl) (eH hl')
    ·cases hr
  ·cases hr
 ·cases hr
end
inductive Ex where
 |nrm
 |exit (id:Nat)
 |ret
def Jm:Ex->Exit
 |.nrm=>.normal
 |.exit id=>.exit id
 |.ret=>.ret
inductive cC where
 |n
 |mk (join:Option aa) (lp:Option aa) (a b:cC)
def cC.fst:cC->cC
 |.n=>.n
 |.mk _ _ a _=>a
def cC.snd:cC->cC
 |.n=>.n
 |.mk _ _ _ b=>b
def cC.join:cC->Option aa
 |.n=>none
 |.mk j _ _ _=>j
def cC.lp:cC->Option aa
 |.n=>none
 |.mk _ l _ _=>l
def sQ:Option aa->St->Option St
 |none,V=>some V
 |some cl,V=>gw cl V
def sR(V:St)(l:eU):Bool:=match mv V l with
 |some (.own r)=>match V.row r with
  |some row=>row.nilE||Nat.blt 0 row.xs.length
  |none=>true
 |_=>true
def xa(V:St)(l:eU):St:=match mv V l with
 |some (.own r)=>match V.row r with
  |some row=>⟨V.slot,V.box,am V.row r (some ⟨row.e,row.t,row.xs,row.deep,true⟩)⟩
  |none=>V
 |_=>V
def Jn:Option aa->List (eU×Nat)
 |none=>[]
 |some cl=>cl.rows
section
variable {J : Type}
def pT(F:St->Option J):List (eU×Nat)->St->Option J
 |[],V=>F V
 | (l,q)::ls,V=>cond (wY q) (cond (sR V l) (pT F ls (xa V l)) none) (pT F ls V)
abbrev ax(j:Option aa)(K:Ex->St->Option J):Ex->St->Option J
 |.nrm,V=>(sQ j V).bind (K .nrm)
 |.exit i,V=>K (.exit i) V
 |.ret,V=>K .ret V
abbrev ci(F:St->Option J)(K:Ex->St->Option J):Ex->St->Option J
 |.nrm,V=>F V
 |.exit i,V=>K (.exit i) V
 |.ret,V=>K .ret V
abbrev pU(id:Nat)(K:Ex->St->Option J):Ex->St->Option J
 |.nrm,V=>K .nrm V
 |.exit i,V=>cond (Nat.beq i id) (K .nrm V) (K (.exit i) V)
 |.ret,V=>K .ret V
def bW(f:St->(Ex->St->Option J)->Option J)(cl:aa):Nat->St->(Ex->St->Option J)->Option J
 |0,_,_=>none
 |N+1,V,K=>f V (ax (some cl) (ci (λV''=>bW f cl N V'' K) K))
noncomputable def ak(Γ:Gm)(T:bc)(B:Nat->Option aa)(N:Nat):Code->cC->St->(Ex->St->Option J)->Option J
 |.skip,_,V,K=>K .nrm V
 |.label _,_,V,K=>K .nrm V
 |.region _ ops draw,_,V,K=>wS Γ T N ops draw V (K .nrm)
 |.seq a b,pl,V,K=>ak Γ T B N a pl.fst V (ax pl.join (ci (λV'=>ak Γ T B N b pl.snd V' K) K))
 |.cond c a b,pl,V,K=>match ev V c with
  |.c (.bool t)=>cond t (ak Γ T B N a pl.fst V K) (ak Γ T B N b pl.snd V K)
  |_=>none
 |.block id c,pl,V,K=>ak Γ T B N c pl.fst V (ax pl.join (pU id K))
 |.loop c,pl,V,K=>match pl.lp with
  |some cl=>match pl.join with
   |none=>(gw cl V).bind λσ0=>bW (λV K=>ak Γ T B N c pl.fst V K) cl N σ0 K
   |some cl1=>(gw cl1 V).bind λσ0=>ak Γ T B N c pl.snd σ0 (ax (some cl) (ci (λV''=>bW (λV K=>ak Γ T B N c pl.fst V K) cl N V'' K) K))
  |none=>none
 |.exit id,_,V,K=>(sQ (B id) V).bind (K (.exit id))
 |.ret,_,V,K=>pT (λV=>(sQ (B 1000000) V).bind (K .ret)) (Jn (B 1000000)) V
 |_,_,_,_=>none
end
def d8(n:Nat):Code->Bool
 |.region _ ops _=>mr n ops
 |.seq a b=>d8 n a&&d8 n b
 |.cond _ a b=>d8 n a&&d8 n b
 |.block _ c=>d8 n c
 |.loop c=>d8 n c
 |_=>true
section
variable {P : Program} {V V' : St} {E E' : aM} {w w' : World} {w0 : World} {lab0 : Nat → ay} {oo : Nat → Value} {n : Nat} {a : Act} {T : bc} {Γ : Gm} {J : Type} {B : Nat → Option aa} {N : Nat} [DC]
def xc{p:Nat->Prop}(h:∃n,p n):∃n,p n/\∀m,p m->n<=m:=by
 classical
 obtain⟨n,hn⟩:=h;induction n using Nat.strongRecOn with
 |_ n ih =>
  by_cases hex:∃m,m<n/\p m;·obtain⟨m,h1,h2⟩:=hex;exact ih m h1 h2
  ·exact⟨n,hn,λm hm=>Nat.le_of_not_lt λhlt=>hex ⟨m,hlt,hm⟩⟩
noncomputable def iF{p:Nat->Prop}(h:∃n,p n):Nat:=(xc h).choose
def Jo{p:Nat->Prop}(h:∃n,p n):p (iF h):=(xc h).choose_spec.1
def Jp{p:Nat->Prop}(h:∃n,p n){m:Nat}(hm:p m):iF h<=m:=(xc h).choose_spec.2 m hm
def xd(h:R w0 lab0 oo n V E a w){cl:Option aa}(hr:sQ cl V=some V'):∃E',R w0 lab0 oo n V' E' a w:=by
 cases cl with
 |none =>injection hr with hr;subst hr;exact⟨E,h⟩
 |some cl=>exact w9 h hr
def Jq(h:R w0 lab0 oo n V E a w){l:eU}(hc:sR V l=true):R w0 lab0 oo n (xa V l) E a w:=by
 have key:∀r row,V.row r=some row->(row.nilE||Nat.blt 0 row.xs.length)=true->R w0 lab0 oo n ⟨V.slot,V.box,am V.row r (some ⟨row.e,row.t,row.xs,row.deep,true⟩)⟩ E a w:=by
  intro r row hrow' hc;have m:cq V E w ⟨V.slot,V.box,am V.row r (some ⟨row.e,row.t,row.xs,row.deep,true⟩)⟩ E w:=by
   refine⟨λr' row1 h1=>?_,λb te cs hb=>⟨te,cs,hb,rfl,rfl⟩,λ_ _ _ h1 h2=>⟨h1,h2⟩,λ_ _ _ _ h=>h⟩;by_cases e:r'=r;·subst e;rw[hrow']at h1;injection h1 with h1;subst h1;exact⟨_,aU _ _ _,rfl,rfl,Nat.le_refl _⟩
   ·exact⟨row1,(ba _ _ e).trans h1,rfl,rfl,Nat.le_refl _⟩
  refine⟨h.bound,h.size,h.defers,λt=>(h.slots t).move m,λb te cs hb=>?_,λr' row1 h1=>?_,h.same⟩;·obtain⟨arr,h1,h2,h3,h4⟩:=h.boxes b te cs hb;exact⟨arr,h1,h2,h3.imp λ_ _ h=>h.move m,h4⟩
  ·by_cases e:r'=r
   ·subst e;have h1':am V.row r' (some ⟨row.e,row.t,row.xs,row.deep,true⟩) r'=some row1:=h1;rw[aU]at h1';injection h1' with h1';subst h1';obtain⟨css,k1,k2,k3,k4⟩:=h.rows r' row hrow';refine⟨css,k1,k2,k3,λ_ hl=>?_⟩;have hl':row.xs.length=0:=hl;cases hn:row.nilE;·rw[hn,hl']at hc;cases hc
    ·exact k4 hn hl'
   ·have h1':am V.row r (some ⟨row.e,row.t,row.xs,row.deep,true⟩) r'=some row1:=h1;rw[ba _ _ e]at h1';exact h.rows r' row1 h1'
 unfold xa;split
 ·rename_i r hr;split;·rename_i row hrow;refine key r row hrow ?_;unfold sR at hc;rw[hr]at hc;simp only[hrow]at hc;exact hc
  ·exact h
 ·exact h
def xe{F:St->Option J}{r:J}:∀{ls:List (eU×Nat)}{V:St}{E:aM},R w0 lab0 oo n V E a w->pT F ls V=some r->∃V',R w0 lab0 oo n V' E a w/\F V'=some r
 |[],V,E,h,hr=>⟨V,h,hr⟩
 | (l,q)::ls,V,E,h,hr=>by
  simp only[pT]at hr;cases hq:wY q;·rw[hq]at hr;exact xe h hr
  ·rw[hq]at hr;cases hc:sR V l;·rw[hc]at hr;cases hr
   ·rw[hc]at hr;exact xe (Jq h hc) hr
def NP.then{Q:Exit->Act->World->Prop}(h:NP Q)(next:Act->World->Prop):NP (Exit.then next Q):=λc a a' w hq=>h c a a' w hq
def NP.block{Q:Exit->Act->World->Prop}(h:NP Q)(id:Nat):NP (Exit.inBlock id Q):=λc a a' w hq=>h c a a' w hq
def gy(w0:World)(lab0:Nat->ay)(oo:Nat->Value)(n:Nat)(K:Ex->St->Option J)(r:J)(Q:Exit->Act->World->Prop):Prop :=
 ∀e V' E' a' w',K e V'=some r->R w0 lab0 oo n V' E' a' w'->Q (Jm e) a' w'
def gy.join{K:Ex->St->Option J}{r:J}{Q:Exit->Act->World->Prop}(h:gy w0 lab0 oo n K r Q)(j:Option aa):gy w0 lab0 oo n (ax j K) r Q:=by
 intro e V' E' a' w' hr hR;cases e with
 |nrm =>obtain⟨σ2,h1,h2⟩:=Option.bind_eq_some_iff.1 hr;obtain⟨E2,g⟩:=xd hR h1;exact h .nrm σ2 E2 a' w' h2 g
 |exit i=>exact h (.exit i) V' E' a' w' hr hR
 |ret=>exact h .ret V' E' a' w' hr hR
def gS(hT:aX P T)(hΓ:mt P w0 lab0 Γ)(hm:P.follows .mixedOrders=true):∀(c:Code) (pl:cC) {V:St}{E:aM}{a:Act}{w:World}{K:Ex->St->Option J}{r:J}{Q:Exit->Act->World->Prop},
  d8 n c=true->R w0 lab0 oo n V E a w->ak Γ T B N c pl V K=some r->NP Q->gy w0 lab0 oo n K r Q->c.wp P Q a w
 |.skip,pl,V,E,a,w,K,r,Q,_,h,hr,_,hK=>wp_skip (hK .nrm V E a w hr h)
 |.label l,pl,V,E,a,w,K,r,Q,_,h,hr,_,hK=>wp_label (hK .nrm V E a w hr h)
 |.region id ops draw,pl,V,E,a,w,K,r,Q,hc,h,hr,hQ,hK=>Jh hT hΓ hm hc hQ (λV' E' a' w' hr' h'=>hK .nrm V' E' a' w' hr' h') h hr
 |.seq x y,pl,V,E,a,w,K,r,Q,hc,h,hr,hQ,hK=>by
  simp only[d8,Bool.and_eq_true]at hc;refine wp_seq (gS hT hΓ hm x pl.fst hc.1 h hr (hQ.then _) (gy.join ?_ _));intro e V' E' a' w' hr' h';cases e with
  |nrm=>exact gS hT hΓ hm y pl.snd hc.2 h' hr' hQ hK
  |exit i=>exact hK (.exit i) V' E' a' w' hr' h'
  |ret=>exact hK .ret V' E' a' w' hr' h'
 |.cond c x y,pl,V,E,a,w,K,r,Q,hc,h,hr,hQ,hK=>by
  simp only[d8,Bool.and_eq_true]at hc;simp only[ak]at hr;split at hr
  ·rename_i t ht;have hv:=a6 h c;rw[ht]at hv;cases t;·exact wp_cond_false hv (gS hT hΓ hm y pl.snd hc.2 h hr hQ hK)
   ·exact wp_cond_true hv (gS hT hΓ hm x pl.fst hc.1 h hr hQ hK)
  ·cases hr
 |.block id c,pl,V,E,a,w,K,r,Q,hc,h,hr,hQ,hK=>by
  refine wp_block (gS hT hΓ hm c pl.fst hc h hr (hQ.block id) (gy.join ?_ _));intro e V' E' a' w' hr' h';cases e with
  |nrm=>exact hK .nrm V' E' a' w' hr' h'
  |exit i =>
   show if i=id then Q .normal a' w' else Q (.exit i) a' w'
   simp only[pU]at hr';cases hb:Nat.beq i id;·rw[hb]at hr';rw[if_neg λe=>by subst e;rw[Nat.beq_refl]at hb;cases hb];exact hK (.exit i) V' E' a' w' hr' h'
   ·rw[hb]at hr';rw[if_pos (Nat.eq_of_beq_eq_true hb)];exact hK .nrm V' E' a' w' hr' h'
  |ret=>exact hK .ret V' E' a' w' hr' h'
 |.loop c,pl,V,E,a,w,K,r,Q,hc,h,hr,hQ,hK=>by
  simp only[ak]at hr;split at hr
  ·rename_i cl hcl
   classical
   let F:Nat->St->Option J:=λM V=>bW (λV K=>ak Γ T B N c pl.fst V K) cl M V K;let At:Nat->Act->World->Prop:=λM a w=>(∃V E,R w0 lab0 oo n V E a w/\F M V=some r) \/
    (M=N+1/\∃V E,R w0 lab0 oo n V E a w/\ak Γ T B N c pl.snd V (ax (some cl) (ci (F N) K))=some r)
   have hstart:∃M,At M a w:=by
    split at hr;·obtain⟨σ0,h1,h2⟩:=Option.bind_eq_some_iff.1 hr;obtain⟨E0,g⟩:=w9 h h1;exact⟨N,.inl ⟨σ0,E0,g,h2⟩⟩
    ·obtain⟨σ0,h1,h2⟩:=Option.bind_eq_some_iff.1 hr;obtain⟨E0,g⟩:=w9 h h1;exact⟨N+1,.inr ⟨rfl,σ0,E0,g,h2⟩⟩
   refine wp_loop (I:=λa w=>∃M,At M a w) (μ:=λa w=>if hex:∃M,At M a w then iF hex else 0) hstart ?_;intro a w hI;have hμ:(if hex:∃M,At M a w then iF hex else 0)=iF hI:=dif_pos hI;simp only[hμ];have next:∀M V' E' a' w',M<iF hI->F M V'=some r->R w0 lab0 oo n V' E' a' w'->(∃M,At M a' w')/\(if hex:∃M,At M a' w' then iF hex else 0)<iF hI:=by intro M V' E' a' w' hM hr' h';have hA:At M a' w':=.inl ⟨V',E',h',hr'⟩;refine⟨⟨M,hA⟩, ?_⟩;have hμ':(if hex:∃M,At M a' w' then iF hex else 0)=iF (⟨M,hA⟩:∃M,At M a' w'):=dif_pos ⟨M,hA⟩;rw[hμ'];have:=Jp (⟨M,hA⟩:∃M,At M a' w') hA;omega
   rcases Jo hI with⟨σ1,E1,g1,hr1⟩|⟨hM,σ1,E1,g1,hr1⟩
   ·generalize hM:iF hI=M at hr1 next
    cases M with
    |zero=>cases hr1
    |succ M =>
     simp only[F,bW]at hr1;refine gS hT hΓ hm c pl.fst hc g1 hr1 (hQ.then _) (gy.join ?_ _);intro e V' E' a' w' hr' h';cases e with
     |nrm=>exact next M V' E' a' w' (Nat.lt_succ_self M) hr' h'
     |exit i=>exact hK (.exit i) V' E' a' w' hr' h'
     |ret=>exact hK .ret V' E' a' w' hr' h'
   ·refine gS hT hΓ hm c pl.snd hc g1 hr1 (hQ.then _) (gy.join ?_ _);intro e V' E' a' w' hr' h';cases e with
    |nrm=>exact next N V' E' a' w' (by omega) hr' h'
    |exit i=>exact hK (.exit i) V' E' a' w' hr' h'
    |ret=>exact hK .ret V' E' a' w' hr' h'
  ·cases hr
 |.exit id,pl,V,E,a,w,K,r,Q,_,h,hr,_,hK=>by obtain⟨σ2,h1,h2⟩:=Option.bind_eq_some_iff.1 hr;obtain⟨E2,g⟩:=xd h h1;exact wp_exit (hK (.exit id) σ2 E2 a w h2 g)
 |.ret,pl,V,E,a,w,K,r,Q,_,h,hr,_,hK=>by obtain⟨σ1,h,hr⟩:=xe h hr;obtain⟨σ2,h1,h2⟩:=Option.bind_eq_some_iff.1 hr;obtain⟨E2,g⟩:=xd h h1;exact wp_ret (hK .ret σ2 E2 a w h2 g)
 |.rangeFunc _ _ _ _,_,_,_,_,_,_,_,_,_,_,hr,_,_=>by cases hr
 |.scope _,_,_,_,_,_,_,_,_,_,_,hr,_,_=>by cases hr
 |.goto _,_,_,_,_,_,_,_,_,_,_,hr,_,_=>by cases hr
 |.refuse _,_,_,_,_,_,_,_,_,_,_,hr,_,_=>by cases hr
end
def kR(agg:Bool)(cs:List af):SV:=match agg,cs with
 |true,cs=>.agg cs
 |false,[c]=>.c c
 |false,_=>.c .undef
def fF:(ps:List PT)->an ps->Nat->List (Nat×SV)×List (Nat×ac)
 |[],_,_=>([],[])
 |⟨t,agg,io⟩::ps,X,i=>match io with
  |false=>((i,kR agg (dF t X.1 none))::(fF ps X.2 (i+1)).1,(fF ps X.2 (i+1)).2)
  |true=>match aJ (100000+i) t X.1 0 with
   | (cs,rows,_)=>((i,kR agg cs)::(100000+i,kR agg cs)::(fF ps X.2 (i+1)).1,rows)
def bH(ps:List PT)(X:an ps):St:=ah (fF ps X 0).1 [] (fF ps X 0).2
def jn(T:bc)(V:St):List ResultVar->Option (List SV)
 |[]=>some []
 |.tmp t::rs=>match jn T V rs with
  |some l=>some (ev V (.tmp t)::l)
  |none=>none
 |.cell x ty::rs=>match ev V (.tmp x),T ty,jn T V rs with
  |.c c,some i,some l=>match o5 V c i.agg i.zero.length with
   |some s=>some (s::l)
   |none=>none
  |_,_,_=>none
def nN(look:Nat->Option ac):(rs:List PT)->List SV->Option (an rs)
 |[],[]=>some ()
 |p::ps,s::ss=>match fQ p.agg s with
  |some cs=>dJ (dk look p.t cs) (nN look ps ss)
  |none=>none
 |[],_::_=>none
 |_::_,[]=>none
def gT:List PT->List SV->List af
 |p::ps,s::ss=>(match fQ p.agg s with|some cs=>cs|none=>[])++gT ps ss
 |_,_=>[]
def pV(V:St):(ps:List PT)->Nat->Option (cL ps)
 |[],_=>some ()
 |⟨t,agg,false⟩::ps,i=>pV V ps (i+1)
 |⟨t,agg,true⟩::ps,i=>match fQ agg (V.slot (100000+i))with
  |some cs=>dk V.row t cs
  |none=>none
def my(V:St):(ps:List PT)->Nat->List af
 |[],_=>[]
 |⟨t,agg,false⟩::ps,i=>my V ps (i+1)
 |⟨t,agg,true⟩::ps,i=>match fQ agg (V.slot (100000+i))with
  |some cs=>cs
  |none=>[]
def pW(look:Nat->Option ac):List af->Bool
 |[.nil]=>true
 |[.own r]=>match look r with
  |some row=>row.nilE||Nat.blt 0 row.xs.length
  |none=>false
 |_=>false
def gU{α:Type}(look:Nat->Option ac):List PT->List SV->Option α->Option α
 |p::ps,s::ss,X=>cond p.io (match fQ p.agg s with
  |some cs=>cond (pW look cs) (gU look ps ss X) none
  |none=>none) (gU look ps ss X)
 |[],_,X=>X
 |_::_,[],X=>X
def xf(look:Nat->Option ac):List PT->List SV->Prop
 |p::ps,s::ss=>(p.io=true->∀cs,fQ p.agg s=some cs->pW look cs=true)/\xf look ps ss
 |[],_=>True
 |_::_,[]=>True
def pX{α:Type}{look:Nat->Option ac}{r:α}:∀{rs:List PT}{ss:List SV}{X:Option α},gU look rs ss X=some r->xf look rs ss/\X=some r
 |[],_,_,h=>⟨trivial,h⟩
 |_::_,[],_,h=>⟨trivial,h⟩
 |p::ps,s::ss,X,h=>by
  simp only[gU]at h;cases hio:p.io;·rw[hio]at h;obtain⟨h1,h2⟩:=pX (show gU look ps ss X=some r from h);exact⟨⟨(λhq=>by rw[hio]at hq;cases hq),h1⟩,h2⟩
  ·rw[hio]at h;simp only[cond_true]at h;split at h
   ·rename_i cs hcs;cases hq:pW look cs;·rw[hq]at h;cases h
    rw[hq]at h;obtain⟨h1,h2⟩:=pX (show gU look ps ss X=some r from h);exact⟨⟨λ_ cs' hcs'=>by rw[hcs]at hcs';injection hcs' with hcs';subst hcs';exact hq,h1⟩,h2⟩
   ·cases h
def sS(T:bc)(sig:bC)(rv:List ResultVar)(V:St):Option (cL sig.ps×an sig.rs) :=
 match jn T V rv with
 |some ss=>cond (dq (aF (gT sig.rs ss++my V sig.ps 0))) (gU V.row sig.rs ss (dJ (pV V sig.ps 0) (nN V.row sig.rs ss))) none
 |none=>none
def xg(T:bc)(sig:bC)(rv:List ResultVar):Ex->St->Option (cL sig.ps×an sig.rs)
 |.nrm,V=>sS T sig rv V
 |.ret,V=>sS T sig rv V
 |.exit _,_=>none
section
variable {P : Program} {V V' : St} {E E' : aM} {w w' : World} {w0 : World} {lab0 : Nat → ay} {oo : Nat → Value} {n : Nat} {a : Act} {T : bc} {Γ : Gm} {B : Nat → Option aa} {N : Nat} [DC]
def pY{agg:Bool}{cs:List af}{us:List Value}{v:Value}(hc:fB agg v us)(h:ai (aj V E w) cs us):aK V E w (kR agg cs) v:=by
 cases agg
 ·obtain rfl:us=[v]:=hc;cases cs with
  |nil=>exact True.intro
  |cons c cs=>cases cs with
   |nil=>exact h.1
   |cons _ _=>exact True.intro
 ·obtain⟨arr,rfl,rfl⟩:=hc;exact⟨arr,rfl,h⟩
def pZ{α:Type}:∀{l l':List (Nat×α)}{t:Nat},aA (l++l') t=match aA l t with|some v=>some v|none=>aA l' t
 |[],_,_=>rfl
 | (k,v)::l,l',t=>by
  simp only[List.cons_append,aA];cases Nat.beq t k;·exact pZ
  ·rfl
def xh(d:Nat)(t:Ty):∀(y:t.den) (j:Nat),∀p∈(aJ d t y j).2.1,aA (aJ d t y j).2.1 p.1=some p.2:=by
 induction t with
 |int k=>intro y j p hp;simp[aJ]at hp
 |bool=>intro y j p hp;simp[aJ]at hp
 |fnc g=>intro y j p hp;simp[aJ]at hp
 |str=>intro y j p hp;simp[aJ]at hp
 |err=>intro y j p hp;simp[aJ]at hp
 |sl e t _ =>intro y j p hp;simp only[aJ,List.mem_singleton]at hp;subst hp;simp[aJ,aA]
 |pair t1 t2 ih1 ih2 =>
  intro y j p hp;simp only[aJ,List.mem_append]at hp ⊢;rw[pZ];rcases hp with hp|hp;·rw[ih1 _ _ p hp]
  ·cases hl:aA (aJ d t1 y.1 j).2.1 p.1 with
   |none=>exact ih2 _ _ p hp
   |some v =>have h1:=(gn d).2 _ (eH hl);have h2:=(gn d).2 p hp;obtain⟨i1,_,a1,b1⟩:=h1;obtain⟨i2,a2,_,b2⟩:=h2;have:=mf (b1.symm.trans b2);exact absurd (Nat.lt_of_lt_of_le a1 a2) (by rw[this];exact Nat.lt_irrefl _)
def Jr{L:List Nat}:∀{ps:List PT}{vs:List Value}{X:an ps}{i:Nat},dW w L ps vs X->(b7 ps=true->L=[])->dA ps=true->L.Nodup ->
  ∃(f:Nat->ay) (rvf:Nat->Value),(∀k∈L,f k≠.st) /\
   ∀(V:St) (E:aM),(∀k,k∈L->E.lab k=f k)->(∀k,k∉L->E.lab k=.st)->E.rv=rvf->(∀r row,aA (fF ps X i).2 r=some row->V.row r=some row) ->
    (∀p∈(fF ps X i).1,∃j v,vs[j]? = some v/\(p.1=i+j\/p.1=100000+(i+j))/\aK V E w p.2 v) /\
    (∀r row,aA (fF ps X i).2 r=some row->bP w E.lab r row (E.rv r)):=by
 intro ps;have ro:∀{p:PT}{v:Value}{x:p.t.den}{V:St}{E:aM},(∃cs,fB p.agg v cs/\Rd w (λk=>k∉L) p.t cs x)->(∀k,k∉L->E.lab k=.st)->aK V E w (kR p.agg (dF p.t x none)) v:=by
  rintro p v x V E ⟨cs,h1,h2⟩ hl
  exact pY h1 (lU (p:=none) (h2.mono λk hk=>hl k hk))
 have ros:∀{ps:List PT}{vs:List Value}{X:an ps}{i:Nat},b7 ps=true->dW w L ps vs X->(fF ps X i).2=[]/\∀(V:St) (E:aM),(∀k,k∉L->E.lab k=.st)->∀p∈(fF ps X i).1,∃j v,vs[j]? = some v/\(p.1=i+j\/p.1=100000+(i+j))/\aK V E w p.2 v:=by
  intro ps;induction ps with
  |nil=>intro vs X i _ _;exact⟨rfl,λV E _ p hp=>by simp[fF]at hp⟩
  |cons p ps ih =>
   intro vs X i hn ha;cases vs with
   |nil=>exact ha.elim
   |cons v vs =>
    obtain⟨t,agg,io⟩:=p;simp only[b7,List.all_cons,Bool.and_eq_true,Bool.not_eq_true']at hn;obtain⟨hio,hn⟩:=hn;subst hio;obtain⟨h1,h2⟩:=ha;obtain⟨g1,g2⟩:=ih (i:=i+1) hn h2;refine⟨g1,λV E hl p hp=>?_⟩;rcases List.mem_cons.1 hp with rfl|hp;·exact⟨0,v,rfl,.inl rfl,ro (p:=⟨t,agg,false⟩) h1 hl⟩
    ·obtain⟨j,v',k1,k2,k3⟩:=g2 V E hl p hp;exact⟨j+1,v',(by simpa using k1),k2.elim (λe=>.inl (by omega)) (λe=>.inr (by omega)),k3⟩
 induction ps with
 |nil =>intro vs X i ha hn ho hL;have hL0:=hn rfl;subst hL0;refine⟨λ_=>.dead,λ_=>undef,(λk hk=>by cases hk),λV E _ _ _ _=>⟨λp hp=>by simp[fF]at hp,λr row hr=>by simp[fF,aA]at hr⟩⟩
 |cons p ps ih =>
  intro vs X i ha hn ho hL;cases vs with
  |nil=>exact ha.elim
  |cons v vs =>
   obtain⟨t,agg,io⟩:=p;obtain⟨h1,h2⟩:=ha;cases io
   ·obtain⟨f,rvf,k1,k2⟩:=ih (i:=i+1) h2 (λhq=>hn (by simpa[b7]using hq)) ho hL;refine⟨f,rvf,k1,λV E e1 e2 e3 e4=>?_⟩;obtain⟨g1,g2⟩:=k2 V E e1 e2 e3 e4;refine⟨λp hp=>?_,g2⟩;rcases List.mem_cons.1 hp with rfl|hp;·exact⟨0,v,rfl,.inl rfl,ro (p:=⟨t,agg,false⟩) h1 e2⟩
    ·obtain⟨j,v',k1,k2,k3⟩:=g1 p hp;exact⟨j+1,v',(by simpa using k1),k2.elim (λe=>.inl (by omega)) (λe=>.inr (by omega)),k3⟩
   ·obtain⟨cs,hcv,hown⟩:=h1;have hown:aE w t L cs X.1:=hown;obtain⟨f,rvf,k1,k2⟩:=mg (100000+i) (j:=0) hown hL;obtain⟨r1,r2⟩:=ros (i:=i+1) ho h2;have hrows:(fF (⟨t,agg,true⟩::ps) X i).2=(aJ (100000+i) t X.1 0).2.1:=rfl;refine⟨f,rvf,λk hk=>?_,λV E e1 e2 e3 e4=>?_⟩;·obtain⟨i',_,_,hf⟩:=k1 k hk;rcases hf with hf|hf<;>rw[hf]<;>simp
    ·rw[hrows]at e4;have hmem:∀p∈(aJ (100000+i) t X.1 0).2.1,aA (aJ (100000+i) t X.1 0).2.1 p.1=some p.2:=xh _ _ _ _;obtain⟨g1,g2⟩:=k2 V E e1 (λp hp=>by rw[e3]) (λp hp=>e4 _ _ (hmem p hp));refine⟨λp hp=>?_,λr row hr=>?_⟩
     ·rcases List.mem_cons.1 hp with rfl|hp;·exact⟨0,v,rfl,.inl rfl,pY hcv g1⟩
      rcases List.mem_cons.1 hp with rfl|hp;·exact⟨0,v,rfl,.inr rfl,pY hcv g1⟩
      ·obtain⟨j,v',k1,k2,k3⟩:=r2 V E e2 p hp;exact⟨j+1,v',(by simpa using k1),k2.elim (λe=>.inl (by omega)) (λe=>.inr (by omega)),k3⟩
     ·rw[hrows]at hr;exact g2 (r,row) (eH hr)
def xj{sl:List (Nat×SV)}{σ0:St}{v:Value}{t:Nat}(h:∀p∈sl,p.1=t->aK σ0 E w p.2 v):aK σ0 E w (fj sl t) v:=by
 unfold fj;split;·rename_i s hs;exact h _ (eH hs) rfl
 ·exact(show aj σ0 E w .undef v from True.intro)
def jY(ts:Array Value):ResultVar->Sem Value
 |.tmp t=>pure (ts.getD t undef)
 |.cell x t=>do loadVar t (<-asAddr (ts.getD x undef))
def Js(fn:Func)(ts:Array Value):results fn ts=(do let vs <-fn.results.mapM (jY ts);pure (if h:vs.size=1 then vs[0]else .tuple vs)):=by
 unfold results;have:(λx:ResultVar=>match x with
  |.tmp t=>pure (ts.getD t undef)
  |.cell x t=>do loadVar t (<-asAddr (ts.getD x undef)))=jY ts:=by
  funext x;cases x<;>rfl
 rw[<-this];rfl
def p4(hT:aX P T)(h:R w0 lab0 oo n V E a w):∀{rv:List ResultVar}{ss:List SV},jn T V rv=some ss ->
  ∃vs:List Value,ai (aK V E w) ss vs/\(rv.mapM (jY a.tmps)).run P w=.ok vs w:=by
 intro rv;induction rv with
 |nil =>intro ss hr;injection hr with hr;subst hr;exact⟨[],trivial,by simp⟩
 |cons r rv ih =>
  intro ss hr;cases r with
  |tmp t =>
   simp only[jn]at hr;split at hr;·rename_i l hl;injection hr with hr;subst hr;obtain⟨vs,h1,h3⟩:=ih hl;refine⟨a.eval (.tmp t)::vs,⟨a6 h (.tmp t),h1⟩, ?_⟩;have h0:(jY a.tmps (.tmp t)).run P w=.ok (a.eval (.tmp t)) w:=rfl;rw[List.mapM_cons,Sem.run_bind,h0];show((do let bs <-rv.mapM (jY a.tmps);pure (a.eval (.tmp t)::bs)):Sem (List Value)).run P w=_;rw[Sem.run_bind,h3];rfl
   ·cases hr
  |cell x ty =>
   simp only[jn]at hr;split at hr
   ·rename_i c i l hc hi hl;split at hr
    ·rename_i s hs;injection hr with hr;subst hr;obtain⟨vs,h1,h3⟩:=ih hl;have hx:=a6 h (.tmp x);rw[hc]at hx;obtain⟨v,g1,g2⟩:=vj hT h hi hs hx;have g1:=g1 w (bL.refl w);have hx2:a.eval (.tmp x)=a.tmps.getD x undef:=rfl;rw[hx2]at g1;refine⟨v::vs,⟨g2,h1⟩, ?_⟩;have h0:(jY a.tmps (.cell x ty)).run P w=.ok v w:=by
      have ha:∃ad,a.tmps.getD x undef=.pointer (some ad):=by
       obtain⟨cs,hl',_⟩:∃cs,kC V c i.zero.length=some cs/\True:=by
        unfold o5 at hs;split at hs;·rename_i cs hcs;exact⟨cs,hcs,trivial⟩
        ·cases hs
       obtain⟨ad,vs',f,e,_⟩:=vh h hl' (show aj V E w c (a.tmps.getD x undef)from hx);exact⟨_,e⟩
      obtain⟨ad,ha⟩:=ha;show((do loadVar ty (<-asAddr (a.tmps.getD x undef)):Sem Value)).run P w=_;rw[ha]at g1 ⊢;exact g1
     rw[List.mapM_cons,Sem.run_bind,h0];show((do let bs <-rv.mapM (jY a.tmps);pure (v::bs)):Sem (List Value)).run P w=_;rw[Sem.run_bind,h3];rfl
    ·cases hr
   ·cases hr
def p5{fn:Func}{vs:List Value}(h:(fn.results.toList.mapM (jY a.tmps)).run P w=.ok vs w):∃v,(results fn a.tmps).run P w=.ok v w/\mb vs v:=by
 have h2:(fn.results.mapM (jY a.tmps)).run P w=.ok vs.toArray w:=by rw[show fn.results=fn.results.toList.toArray from by simp,List.mapM_toArray];simp[h]
 rw[Js,Sem.run_bind,h2];match vs with
 |[]=>exact⟨.tuple #[],by simp,rfl⟩
 |[u]=>exact⟨u,by simp,rfl⟩
 |u::u'::vs=>exact⟨.tuple (u::u'::vs).toArray,by simp,rfl⟩
def Jt(h:R w0 lab0 oo n V E a w){io:Bool}{t:Ty}{cs:List af}{us:List Value}{y:t.den}(hz:io=true->pW V.row cs=true)(hp:dk V.row t cs=some y)(hc:ai (aj V E w) cs us):v8 io t us y:=by
 cases t with
 |sl e t =>
  intro hio hl;have hz:=hz hio;rcases vo (show iv V.row e t cs=some y from hp)with⟨rfl,rfl⟩|⟨r,row,rfl,hr,rfl,hd,rfl,rfl⟩;·obtain⟨u,rfl,hu⟩:=cb hc;obtain rfl:u=_:=hu;rfl
  ·obtain⟨u,rfl,hu⟩:=cb hc;obtain⟨rfl,_⟩:=hu;obtain⟨css,_,_,_,h4⟩:=h.rows r row hr;have hl:row.xs.length=0:=hl;simp only[pW,hr,hl]at hz;rw[h4 (by simpa using hz) hl]
 |int k=>trivial
 |bool=>trivial
 |str=>trivial
 |err=>trivial
 |fnc g=>trivial
 |pair a b=>trivial
def sT(h:R w0 lab0 oo n V E a w):∀{rs:List PT}{ss:List SV}{vs:List Value}{Y:an rs},nN V.row rs ss=some Y->xf V.row rs ss->ai (aK V E w) ss vs->(aF (gT rs ss)).Nodup ->
  ∃Lr,ma w rs vs Y Lr/\Lr.Nodup/\∀k∈Lr,∃q∈aF (gT rs ss),dr E.lab q k
 |[],[],[],Y,_,_,_,_=>⟨[],rfl,List.nodup_nil,λk hk=>by cases hk⟩
 |p::ps,s::ss,v::vs,Y,hp,hz,hs,hn=>by
  simp only[nN]at hp;split at hp
  ·rename_i cs hcs;obtain⟨h1,h2⟩:=dK hp;obtain⟨us,k1,k2⟩:=mi hcs hs.1;have hcells:gT (p::ps) (s::ss)=cs++gT ps ss:=by simp[gT,hcs]
   rw[hcells,gj]at hn ⊢;obtain⟨n1,n2,n3⟩:=List.nodup_append.1 hn;obtain⟨L1,o1,o2,o3⟩:=gl h h1 k2 n1;obtain⟨L2,g1,g2,g3⟩:=sT h h2 hz.2 hs.2 n2;refine⟨L1++L2,⟨us,L1,L2,rfl,k1,o1,Jt h (λhio=>hz.1 hio cs hcs) h1 k2,g1⟩,List.nodup_append.2 ⟨o2,g2,λx hx y hy e=>?_⟩,λk hk=>?_⟩;·subst e;obtain⟨q,q1,q2⟩:=o3 x hx;obtain⟨q',q1',q2'⟩:=g3 x hy;exact n3 q q1 q' q1' (jR q2 q2')
   ·rcases List.mem_append.1 hk with hk|hk;·obtain⟨q,q1,q2⟩:=o3 k hk;exact⟨q,List.mem_append_left _ q1,q2⟩
    ·obtain⟨q,q1,q2⟩:=g3 k hk;exact⟨q,List.mem_append_right _ q1,q2⟩
  ·cases hp
 |[],[],_::_,_,_,_,hs,_=>hs.elim
 |[],_::_,_,_,hp,_,_,_=>by cases hp
 |_::_,[],_,_,hp,_,_,_=>by cases hp
 |_::_,_::_,[],_,_,_,hs,_=>hs.elim
def xk(h:R w0 lab0 oo n V E a w):∀{ps:List PT}{i:Nat}{vs:List Value}{y:cL ps},pV V ps i=some y->vs.length=ps.length->(∀j v,vs[j]? = some v->oo (100000+(i+j))=v)->(aF (my V ps i)).Nodup ->
  ∃L',kH w L' ps vs y/\L'.Nodup/\∀k∈L',∃q∈aF (my V ps i),dr E.lab q k
 |[],i,vs,y,_,_,_,_=>⟨[],rfl,List.nodup_nil,λk hk=>by cases hk⟩
 |⟨t,agg,false⟩::ps,i,v::vs,y,hr,hl,hv,hn=>by obtain⟨L',g1,g2,g3⟩:=xk h (ps:=ps) (i:=i+1) (vs:=vs) (y:=y) hr (by simpa using hl) (λj v' hj=>by have:=hv (j+1) v' (by simpa using hj);rwa [show i+1+j=i+(j+1)from by omega]) hn;exact⟨L',g1,g2,g3⟩
 |⟨t,agg,true⟩::ps,i,v::vs,y,hr,hl,hv,hn=>by
  simp only[pV]at hr;simp only[my]at hn ⊢;split at hr
  ·rename_i cs hcs;rw[hcs]at hn;simp only at hn ⊢;have hs:=h.slots (100000+i);have hval:cP oo a (100000+i)=v:=by unfold cP;rw[if_neg (by omega)];exact hv 0 v rfl
   rw[hval]at hs;obtain⟨us,k1,k2⟩:=mi hcs hs;obtain⟨L,o1,o2,o3⟩:=gl h hr k2 hn;exact⟨L,⟨us,k1,o1⟩,o2,o3⟩
  ·cases hr
 |_::_,_,[],_,_,hl,_,_=>by simp at hl
def dW.len{L:List Nat}:∀{ps:List PT}{vs:List Value}{X:an ps},dW w L ps vs X->vs.length=ps.length
 |[],[],_,_=>rfl
 |p::ps,v::vs,X,h=>by simp[dW.len h.2]
 |[],_::_,_,h=>h.elim
 |_::_,[],_,h=>h.elim
def Ty.bd:(t:Ty)->t.den->Prop
 |.sl _ t,xs=>xs.length<=maxLen/\∀x∈xs,t.bd x
 |.pair a b,x=>a.bd x.1/\b.bd x.2
 |.int _,_=>True
 |.bool,_=>True
 |.str,_=>True
 |.err,_=>True
 |.fnc _,_=>True
def BM{α β:Type}{Q:α->β->Prop}{p:β->Prop}(hp:∀a b,Q a b->p b):∀{as:List α}{bs:List β},ai Q as bs->∀b∈bs,p b
 |[],[],_,_,hb=>by cases hb
 |_::_,_::_,h,b,hb=>by
  rcases List.mem_cons.1 hb with rfl|hb;·exact hp _ _ h.1
  ·exact BM hp h.2 b hb
 |[],_::_,h,_,_=>h.elim
 |_::_,[],h,_,_=>h.elim
def Rd.bd{S:Nat->Prop}:∀{t:Ty}{cs:List Value}{x:t.den},Rd w S t cs x->t.bd x
 |.int _,_,_,_=>trivial
 |.bool,_,_,_=>trivial
 |.str,_,_,_=>trivial
 |.err,_,_,_=>trivial
 |.fnc _,_,_,_=>trivial
 |.pair a b,_,_,h=>by obtain⟨c1,c2,_,h1,h2⟩:=h;exact⟨h1.bd,h2.bd⟩
 |.sl e t,_,xs,h=>by
  obtain⟨A,n,c,_,h1,h2,h3,h4⟩:=h;refine⟨by omega,λx hx=>?_⟩;rcases h4 with rfl|⟨ad,css,_,_,h5,_⟩;·rw[List.eq_nil_of_length_eq_zero h1]at hx;cases hx
  ·exact BM (p:=λx=>t.bd x) (λ_ _ hr=>hr.bd) h5 x hx
def aE.bd:∀{t:Ty}{L:List Nat}{cs:List Value}{x:t.den},aE w t L cs x->t.bd x:=λh=>(h.rd (S:=λ_=>True) λ_ _=>trivial).bd
def fS:(ps:List PT)->an ps->Prop
 |[],_=>True
 |p::ps,X=>p.t.bd X.1/\fS ps X.2
def dW.bd{L:List Nat}:∀{ps:List PT}{vs:List Value}{X:an ps},dW w L ps vs X->fS ps X
 |[],[],_,_=>trivial
 |p::ps,v::vs,X,h=>by
  refine⟨?_,h.2.bd⟩;obtain⟨cs,_,h1⟩:=h.1;cases hio:p.io;·rw[hio]at h1;exact Rd.bd h1
  ·rw[hio]at h1;exact aE.bd h1
 |[],_::_,_,h=>h.elim
 |_::_,[],_,h=>h.elim
theorem Jv [Inv P] {f : Nat} {fn : Func} {c : Code} {sig : bC} {pre : Option (an sig.ps → Bool)} {val : an sig.ps → cL sig.ps × an sig.rs} {pl : cC} {je : Option aa} (hf : P.funcs[f]? = some fn) (hb : fn.body = some c) (hname : (fn.name == "runtime.NumGoroutine") = false)
  (hm:P.follows .mixedOrders=true) (hT:aX P T) (hΓ:au P Γ) (hc:d8 fn.ntmps c=true) (hn:Nat.ble sig.ps.length fn.ntmps=true) (hn2:Nat.ble fn.ntmps 100000=true) (hone:dA sig.ps=true)
  (hG:∀X,fS sig.ps X->bZ pre X=true->∃N,ak Γ T B N c pl (bH sig.ps X) (ax je (xg T sig fn.results.toList))=some (val X)):aG P f ⟨sig,pre,val⟩:=by
 intro w args L X y Y ha hno hL hlt hg hI hBL;have hg:cond (bZ pre X) (some (val X)) none=some (y,Y):=hg;obtain⟨N,hr⟩:∃N,ak Γ T B N c pl (bH sig.ps X) (ax je (xg T sig fn.results.toList))=some (y,Y):=by
  cases hp:bZ pre X;·rw[hp]at hg;cases hg
  ·rw[hp]at hg;rw[<-hg];exact hG X ha.bd hp
 have hn:=Nat.le_of_ble_eq_true hn;have hn2:=Nat.le_of_ble_eq_true hn2;have hlen:args.size=sig.ps.length:=by have:=dW.len ha;simpa using this
 refine .inl ⟨?_, ?_⟩
 ·have h1 : ¬ fn.name = "runtime.NumGoroutine" := by simpa using hname
  have h2:¬ fn.body=none:=by rw[hb];simp
  simp[callFunc,hf,h1,h2]
 obtain⟨f0,rvf,k1,k2⟩:=Jr (i:=0) ha hno hone hL
 classical
 let lab0:Nat->ay:=λk=>if k∈L then f0 k else .st
 let E:aM:=⟨lab0,rvf,λ_=>0⟩;let oo:Nat->Value:=λt=>args.getD (t-100000) undef;have hlab1:∀k,k∈L->E.lab k=f0 k:=λk hk=>if_pos hk;have hlab2:∀k,k∉L->E.lab k=.st:=λk hk=>if_neg hk;obtain⟨g1,g2⟩:=k2 (bH sig.ps X) E hlab1 hlab2 rfl (λr row h=>h);have hsz:(args++Array.replicate (fn.ntmps-args.size) undef).size=fn.ntmps:=by rw[Array.size_append,Array.size_replicate];omega
 have hR:R w lab0 oo fn.ntmps (bH sig.ps X) E { tmps:=args++Array.replicate (fn.ntmps-args.size) undef,defers:=[] } w:=by
  refine⟨hn2,hsz,rfl,λt=>?_,λb te cs hb=>?_,λr row hr=>g2 r row hr,⟨rfl,⟨rfl,λ_=>Nat.le_refl _⟩,rfl,Nat.le_refl _,λk hk hl=>⟨hl,rfl⟩,λk hk hl=>⟨hl,rfl⟩⟩⟩
  ·show aK _ E w (fj (fF sig.ps X 0).1 t) _;refine xj λp hp e=>?_;obtain⟨j,v,j1,j2,j3⟩:=g1 p hp;have hj:j<args.size:=by have:=(List.getElem?_eq_some_iff.1 j1).1;simpa using this
   have hval:cP oo { tmps:=args++Array.replicate (fn.ntmps-args.size) undef,defers:=[] } t=v:=by
    subst e;unfold cP;rcases j2 with j2|j2
    ·rw[if_pos (by omega),j2];simp only[Nat.zero_add,Array.getD_eq_getD_getElem?];rw[Array.getElem?_append_left hj];have:args[j]? = some v:=by simpa using j1
     rw[this];rfl
    ·rw[if_neg (by omega),j2];show args.getD (100000+(0+j)-100000) undef=v;rw[show 100000+(0+j)-100000=j from by omega,Array.getD_eq_getD_getElem?];have:args[j]? = some v:=by simpa using j1
     rw[this];rfl
   rw[hval];exact j3
  ·cases hb
 have hend:∀V' E' a' w',sS T sig fn.results.toList V'=some (y,Y)->R w lab0 oo fn.ntmps V' E' a' w'->a'.defers=[]/\∃v,(results fn a'.tmps).run P w'=.ok v w' /\
   ∃vs L' Lr,Ending.returned v=Ending.returned v/\v9 w sig args.toList L y Y v w' vs L' Lr:=by
  intro V' E' a' w' hfin h';refine⟨h'.defers, ?_⟩;unfold sS at hfin;split at hfin
  ·rename_i ss hss;cases hq:dq (aF (gT sig.rs ss++my V' sig.ps 0));·rw[hq]at hfin;cases hfin
   rw[hq]at hfin;obtain⟨hz,hfin⟩:=pX (show gU V'.row sig.rs ss _=some (y,Y)from hfin);obtain⟨p1,p2⟩:=dK (z:=(y,Y)) hfin;have hnd:=iw hq;rw[gj]at hnd;obtain⟨n1,n2,n3⟩:=List.nodup_append.1 hnd;obtain⟨vs,v1,v2⟩:=p4 hT h' hss;obtain⟨v,r1,r2⟩:=p5 v2;obtain⟨Lr,l1,l2,l3⟩:=sT h' p2 hz v1 n1;obtain⟨L',m1,m2,m3⟩:=xk h' (vs:=args.toList) p1 (dW.len ha) (λj u hu=>by
    show args.getD (100000+(0+j)-100000) undef=u;rw[show 100000+(0+j)-100000=j from by omega,Array.getD_eq_getD_getElem?];have:args[j]? = some u:=by simpa using hu
    rw[this];rfl) n2
   have hold:∀k q,dr E'.lab q k->k∈L\/w.heap.size<=k:=by
    intro k q hk;by_cases h1:k∈L;·exact .inl h1
    ·refine .inr (Nat.le_of_not_lt λhlt=>?_);have:=(h'.same.old k hlt (hlab2 k h1)).1;rcases hk with hk|hk<;>rw[this]at hk<;>cases hk
   refine⟨v,r1,vs,L',Lr,rfl,r2,l1,m1,List.nodup_append.2 ⟨l2,m2,λx hx z hz e=>?_⟩,λk hk=>?_,λk hk=>?_,h'.same.os,h'.same.tape,h'.same.output,h'.same.size,λk hk hkL=>(h'.same.old k hk (hlab2 k hkL)).2⟩;·subst e;obtain⟨q,q1,q2⟩:=l3 x hx;obtain⟨q',q1',q2'⟩:=m3 x hz;exact n3 q q1 q' q1' (jR q2 q2')
   ·obtain⟨q,q1,q2⟩:=l3 k hk;exact hold k q q2
   ·obtain⟨q,q1,q2⟩:=m3 k hk;exact hold k q q2
  ·cases hfin
 refine calls_of_wp hf hb (gS hT (hΓ.at hI λk hk=>hlab2 k λhl=>hBL k hl hk) hm c pl hc hR hr ?_ (gy.join ?_ _));·intro ch a a' w' hq;obtain⟨_,v,vs,L',Lr,he,_⟩:=hq;cases he
 ·intro e V' E' a' w' hr' h';cases e with
  |nrm =>obtain⟨d1,v,d2,vs,L',Lr,d3,d4⟩:=hend V' E' a' w' hr' h';exact⟨d1,v,d2,v,vs,L',Lr,rfl,d4⟩
  |ret =>obtain⟨d1,v,d2,vs,L',Lr,d3,d4⟩:=hend V' E' a' w' hr' h';exact⟨d1,v,d2,v,vs,L',Lr,rfl,d4⟩
  |exit i=>cases hr'
end
def bT:(ps:List PT)->an ps->Nat->Nat->List (Nat×SV)×List (Nat×ac)
 |[],_,_,_=>([],[])
 |⟨t,agg,false⟩::ps,X,i,j=>((i,kR agg (dF t X.1 none))::(bT ps X.2 (i+1) j).1,(bT ps X.2 (i+1) j).2)
 |⟨t,agg,true⟩::ps,X,i,j=>match aJ 100000 t X.1 j with
  | (cs,rows,j1)=>((i,kR agg cs)::(bT ps X.2 (i+1) j1).1,rows++(bT ps X.2 (i+1) j1).2)
def sU(V:St):Rf->Option (List af)
 |none=>some []
 |some p=>match V.box 100000 with
  |some (te,cs)=>cond (Nat.beq te p.1) (some cs) none
  |none=>none
def nO(V:St):Rf->Bool
 |none=>true
 |some _=>match V.slot 100000 with
  |.c (.box 100000 0)=>true
  |_=>false
section
variable {P : Program} {V V' : St} {E E' : aM} {w w' : World} {w0 : World} {lab0 : Nat → ay} {oo : Nat → Value} {n : Nat} {a : Act} {T : bc} {Γ : Gm} {B : Nat → Option aa} {N : Nat} [DC]
def du.len{S:Nat->Prop}:∀{ps:List PT}{vs:List Value}{X:an ps}{L:List Nat},du w S ps vs X L->vs.length=ps.length
 |[],[],_,_,_=>rfl
 |p::ps,v::vs,X,L,h=>by obtain⟨_,_,_,_,_,_,h⟩:=h;simp[du.len h]
 |[],_::_,_,_,h=>h.elim
 |_::_,[],_,_,h=>h.elim
def du.bd{S:Nat->Prop}:∀{ps:List PT}{vs:List Value}{X:an ps}{L:List Nat},du w S ps vs X L->fS ps X
 |[],[],_,_,_=>trivial
 |p::ps,v::vs,X,L,h=>by
  obtain⟨cs,L1,L2,_,_,h1,h2⟩:=h;refine⟨?_,h2.bd⟩;cases hio:p.io;·rw[hio]at h1;exact Rd.bd h1.2
  ·rw[hio]at h1;exact aE.bd h1
 |[],_::_,_,_,h=>h.elim
 |_::_,[],_,_,h=>h.elim
def xm{ps:List PT}:∀{X:an ps}{i j:Nat},∀p∈(bT ps X i j).2,∃q,j<=q/\p.1=aT 100000 q:=by
 induction ps with
 |nil=>intro X i j p hp;simp[bT]at hp
 |cons p0 ps ih =>
  intro X i j p hp;obtain⟨t,agg,io⟩:=p0;cases io;·exact ih (X:=X.2) p hp
  ·simp only[bT,List.mem_append]at hp;rcases hp with hp|hp;·obtain⟨q,q1,_,q2⟩:=(gn 100000).2 p hp;exact⟨q,q1,q2⟩
   ·obtain⟨q,q1,q2⟩:=ih (X:=X.2) p hp;exact⟨q,Nat.le_trans (gn 100000).1 q1,q2⟩
def BO{l1 l2:List (Nat×ac)}{j1:Nat}(h1:∀p∈l1,aA l1 p.1=some p.2)(h2:∀p∈l2,aA l2 p.1=some p.2)(m1:∀p∈l1,∃q,q<j1/\p.1=aT 100000 q)(m2:∀p∈l2,∃q,j1<=q/\p.1=aT 100000 q):∀p∈l1++l2,aA (l1++l2) p.1=some p.2:=by
 intro p hp;rw[pZ];rcases List.mem_append.1 hp with hp|hp;·rw[h1 p hp]
 ·cases hl:aA l1 p.1 with
  |none=>exact h2 p hp
  |some v =>obtain⟨q,q1,q2⟩:=m1 _ (eH hl);obtain⟨q',q3,q4⟩:=m2 p hp;have:=mf (q2.symm.trans q4);omega
def xn{t:Ty}{y:t.den}{j:Nat}:∀p∈(aJ 100000 t y j).2.1,∃q,q<(aJ 100000 t y j).2.2/\p.1=aT 100000 q:=λp hp=>by obtain⟨q,_,q1,q2⟩:=(gn 100000).2 p hp;exact⟨q,q1,q2⟩
def xp{ps:List PT}:∀{X:an ps}{i j:Nat},∀p∈(bT ps X i j).2,aA (bT ps X i j).2 p.1=some p.2:=by
 induction ps with
 |nil=>intro X i j p hp;simp[bT]at hp
 |cons p0 ps ih =>
  intro X i j;obtain⟨t,agg,io⟩:=p0;cases io;·exact ih (X:=X.2)
  ·exact BO (xh 100000 t X.1 j) (ih (X:=X.2)) xn xm
def p6{S:Nat->Prop}:∀{ps:List PT}{vs:List Value}{X:an ps}{L:List Nat}{i j:Nat},du w S ps vs X L->L.Nodup ->
  ∃(f:Nat->ay) (rvf:Nat->Value),(∀k∈L,∃q,f k=.row (aT 100000 q)\/f k=.inn (aT 100000 q)) /\
   ∀(V:St) (E:aM),(∀k∈L,E.lab k=f k)->(∀k,S k->E.lab k=.st)->(∀p∈(bT ps X i j).2,E.rv p.1=rvf p.1)->(∀p∈(bT ps X i j).2,V.row p.1=some p.2) ->
    (∀p∈(bT ps X i j).1,∃m v,vs[m]? = some v/\p.1=i+m/\aK V E w p.2 v)/\∀p∈(bT ps X i j).2,bP w E.lab p.1 p.2 (E.rv p.1):=by
 intro ps;induction ps with
 |nil =>
  intro vs X L i j ha hn;cases vs with
  |cons _ _=>exact ha.elim
  |nil =>obtain rfl:L=[]:=ha;exact⟨λ_=>.st,λ_=>undef,(λk hk=>by cases hk),λV E _ _ _ _=>⟨λp hp=>by simp[bT]at hp,λp hp=>by simp[bT]at hp⟩⟩
 |cons p0 ps ih =>
  intro vs X L i j ha hn;cases vs with
  |nil=>exact ha.elim
  |cons v vs =>
   obtain⟨cs,L1,L2,rfl,hcv,h1,h2⟩:=ha;obtain⟨n1,n2,n3⟩:=List.nodup_append.1 hn;obtain⟨t,agg,io⟩:=p0;cases io
   ·obtain⟨rfl,hrd⟩:=h1;obtain⟨f,rvf,k1,k2⟩:=ih (i:=i+1) (j:=j) h2 n2;refine⟨f,rvf,k1,λV E e1 e2 e3 e4=>?_⟩;obtain⟨g1,g2⟩:=k2 V E e1 e2 e3 e4;refine⟨λp hp=>?_,g2⟩;rcases List.mem_cons.1 hp with rfl|hp;·exact⟨0,v,rfl,rfl,pY hcv (lU (p:=none) (hrd.mono λk hk=>e2 k hk))⟩
    ·obtain⟨m,v',q1,q2,q3⟩:=g1 p hp;exact⟨m+1,v',by simpa using q1,by omega,q3⟩
   ·have hown:aE w t L1 cs X.1:=h1;obtain⟨f1,v1,a1,b1⟩:=mg 100000 (j:=j) hown n1;obtain⟨f2,v2,a2,b2⟩:=ih (i:=i+1) (j:=(aJ 100000 t X.1 j).2.2) h2 n2;have m1:∀p∈(aJ 100000 t X.1 j).2.1,∃q,q<(aJ 100000 t X.1 j).2.2/\p.1=aT 100000 q:=xn;have m2:∀p∈(bT ps X.2 (i+1) (aJ 100000 t X.1 j).2.2).2,∃q,(aJ 100000 t X.1 j).2.2<=q/\p.1=aT 100000 q:=xm;refine⟨λk=>if k∈L1 then f1 k else f2 k,λq=>if ∃p∈(aJ 100000 t X.1 j).2.1,p.1=q then v1 q else v2 q,λk hk=>?_,λV E e1 e2 e3 e4=>?_⟩
    ·by_cases hk1:k∈L1;·obtain⟨q,_,_,hq⟩:=a1 k hk1;exact⟨q,by simpa[hk1]using hq⟩
     ·obtain⟨q,hq⟩:=a2 k ((List.mem_append.1 hk).resolve_left hk1);exact⟨q,by simpa[hk1]using hq⟩
    ·have hm:(bT (⟨t,agg,true⟩::ps) X i j)=((i,kR agg (aJ 100000 t X.1 j).1)::(bT ps X.2 (i+1) (aJ 100000 t X.1 j).2.2).1,(aJ 100000 t X.1 j).2.1++(bT ps X.2 (i+1) (aJ 100000 t X.1 j).2.2).2):=rfl;rw[hm]at e3 e4 ⊢;obtain⟨g1,g2⟩:=b1 V E (λk hk=>(e1 k (List.mem_append_left _ hk)).trans (if_pos hk)) (λp hp=>(e3 p (List.mem_append_left _ hp)).trans (if_pos ⟨p,hp,rfl⟩)) (λp hp=>e4 p (List.mem_append_left _ hp));obtain⟨g3,g4⟩:=b2 V E (λk hk=>(e1 k (List.mem_append_right _ hk)).trans (if_neg λh'=>n3 k h' k hk rfl)) e2 (λp hp=>(e3 p (List.mem_append_right _ hp)).trans (if_neg λ⟨p',hp',e⟩=>by obtain⟨q,q1,q2⟩:=m1 p' hp';obtain⟨q',q3,q4⟩:=m2 p hp;have:=mf (q2.symm.trans (e.trans q4));omega)) (λp hp=>e4 p (List.mem_append_right _ hp));refine⟨λp hp=>?_,λp hp=>?_⟩
     ·rcases List.mem_cons.1 hp with rfl|hp;·exact⟨0,v,rfl,rfl,pY hcv g1⟩
      ·obtain⟨m,v',q1,q2,q3⟩:=g3 p hp;exact⟨m+1,v',by simpa using q1,by omega,q3⟩
     ·rcases List.mem_append.1 hp with hp|hp;·exact g2 p hp
      ·exact g4 p hp
def kT{args:Array Value}{m:Nat}{v:Value}(h:args.toList[m]? = some v):args.getD m undef=v:=by
 rw[Array.getD_eq_getD_getElem?];have:args[m]? = some v:=by simpa using h
 rw[this];rfl
end
def bk:Gm:=⟨λ_=>none,λ_=>none,λ_=>none,λ_=>none,λ_=>none⟩
def au.nil[DC]{P:Program}[Inv P]:au P bk:=⟨λf en h=>(by cases h),λf en h=>(by cases h),λf en h=>(by cases h),λf en h=>(by cases h),λf en h=>(by cases h)⟩
def aY(Γ:Gm)(f:Nat)(en:a8):Gm:=⟨λk=>cond (Nat.beq k f) (some en) (Γ.g k),Γ.m,Γ.v,Γ.n,Γ.s⟩
def addV(Γ:Gm)(f:Nat)(en:d7):Gm:=⟨Γ.g,Γ.m,λk=>cond (Nat.beq k f) (some en) (Γ.v k),Γ.n,Γ.s⟩
def addN(Γ:Gm)(f:Nat)(en:iC):Gm:=⟨Γ.g,Γ.m,Γ.v,λk=>cond (Nat.beq k f) (some en) (Γ.n k),Γ.s⟩
def sW(rs:List PT):Bool:=rs.all λp=>p.agg||Nat.beq p.t.nc 1
def xq{rs:List PT}(hf:sW rs=true):∀p∈rs,p.agg=false->p.t.nc=1:=λp hp ha=>by have:=List.all_eq_true.1 hf p hp;rw[ha]at this;exact Nat.eq_of_beq_eq_true (by simpa using this)
def au.add[DC]{P:Program}[Inv P]{Γ:Gm}(h:au P Γ){f:Nat}{en:a8}(he:aG P f en)(hf:sW en.sig.rs=true):au P (aY Γ f en):=by
 refine⟨λk en' hk=>?_,h.m,h.v,h.n,h.s⟩;simp only[aY]at hk;cases hb:Nat.beq k f;·rw[hb]at hk;exact h.g k en' hk
 ·rw[hb]at hk;injection hk with hk;subst hk;obtain rfl:=Nat.eq_of_beq_eq_true hb;exact⟨he,xq hf⟩
def au.addV[DC]{P:Program}[Inv P]{Γ:Gm}(h:au P Γ){f:Nat}{en:d7}(he:dv P f en)(hf:sW en.rs=true):au P (addV Γ f en):=by
 refine⟨h.g,h.m,λk en' hk=>?_,h.n,h.s⟩;simp only[Fw.addV]at hk;cases hb:Nat.beq k f;·rw[hb]at hk;exact h.v k en' hk
 ·rw[hb]at hk;injection hk with hk;subst hk;obtain rfl:=Nat.eq_of_beq_eq_true hb;exact⟨he,xq hf⟩
def au.addN[DC]{P:Program}[Inv P]{Γ:Gm}(h:au P Γ){f:Nat}{en:iC}(he:kI P f en):au P (addN Γ f en):=by
 refine⟨h.g,h.m,h.v,λk en' hk=>?_,h.s⟩;simp only[Fw.addN]at hk;cases hb:Nat.beq k f;·rw[hb]at hk;exact h.n k en' hk
 ·rw[hb]at hk;injection hk with hk;subst hk;obtain rfl:=Nat.eq_of_beq_eq_true hb;exact he
def bu(f:Func):Code:=match f.body with|some c=>c|none=>.skip
def ab(n:Int):Int:=IntKind.i64.wrap n
def w8(n:Int):Int:=IntKind.u8.wrap n
def av(n:Int)(m:Nat):Bool:=decide (0<=n)&&decide (n<(m:Int))
def nQ:(l:List (Nat×Ty))->List Value->cW l->List af
 |[],_,_=>[]
 |p::l,v::vs,x=>.bor v p.1 p.2 x.1::nQ l vs x.2
 |_::_,[],_=>[]
def sX:List PT->Nat->List Nat
 |[],_=>[]
 |p::ps,i=>cond p.io (i::sX ps (i+1)) (sX ps (i+1))
def sY(l:List (Nat×SV)):List Nat->List (Nat×SV)
 |[]=>[]
 |i::is=>(100000+i,fj l i)::sY l is
def sZ(ps:List PT)(X:an ps):List (Nat×SV):=(0,.c (.box 100000 0))::(100000,.c (.box 100000 0))::((bT ps X 1 0).1++sY (bT ps X 1 0).1 (sX ps 1))
def dH(k:cV)(ps:List PT)(lit:List Value)(X:(cW k.fx×k.t.den)×an ps):St :=
 ah (sZ ps X.2) [(100000,(k.te,nQ k.fx lit X.1.1++dF k.t X.1.2 none))] (bT ps X.2 1 0).2
def p8:List af->Option (List Value)
 |[]=>some []
 |.bor v _ _ _::cs=>match p8 cs with
  |some l=>some (v::l)
  |none=>none
 |_=>none
def BP(V:St):(back:Bool)->(ps:List PT)->Option (gr back ps)
 |true,ps=>pV V ps 1
 |false,_=>some ()
def p9(V:St):Bool->List PT->List af
 |true,ps=>my V ps 1
 |false,_=>[]
def s0(T:bc)(k:cV)(ps:List PT)(back:Bool)(rs:List PT)(rv:List ResultVar)(V:St):Option (List Value×(k.t.den×(gr back ps×an rs))) :=
 match jn T V rv,sU V (some (k.te,k.t))with
 |some ss,some cs=>cond (nO V (some (k.te,k.t))&&(dq (aF (gT rs ss++p9 V back ps))&&(aF (cs.drop k.fx.length)).isEmpty))
  (gU V.row rs ss (dJ (p8 (cs.take k.fx.length)) (dJ (dk V.row k.t (cs.drop k.fx.length)) (dJ (BP V back ps) (nN V.row rs ss))))) none
 |_,_=>none
def BQ(T:bc)(k:cV)(ps:List PT)(back:Bool)(rs:List PT)(rv:List ResultVar):Ex->St->Option (List Value×(k.t.den×(gr back ps×an rs)))
 |.nrm,V=>s0 T k ps back rs rv V
 |.ret,V=>s0 T k ps back rs rv V
 |.exit _,_=>none
def s4:(l:List (Nat×Ty))->cW l->Prop
 |[],_=>True
 |p::l,x=>(Ty.sl p.1 p.2).bd x.1/\s4 l x.2
section
variable {P : Program} {V V' : St} {E E' : aM} {w w' : World} {w0 : World} {lab0 : Nat → ay} {oo : Nat → Value} {n : Nat} {a : Act} {T : bc} {Γ : Gm} {B : Nat → Option aa} {N : Nat} [DC]
def iA.bd{S:Nat->Prop}:∀{l:List (Nat×Ty)}{vs:List Value}{x:cW l},iA w S l vs x->s4 l x
 |[],[],_,_=>trivial
 |p::l,v::vs,x,h=>⟨Rd.bd (t:=.sl p.1 p.2) h.1,h.2.bd⟩
 |[],_::_,_,h=>h.elim
 |_::_,[],_,h=>h.elim
def BR:∀{l:List (Nat×Ty)}{vs:List Value}{x:cW l},iA w (λk=>E.lab k=.st) l vs x->ai (aj V E w) (nQ l vs x) vs
 |[],[],_,_=>trivial
 |p::l,v::vs,x,h=>⟨⟨rfl,h.1⟩,BR h.2⟩
 |[],_::_,_,h=>h.elim
 |_::_,[],_,h=>h.elim
def xr:∀{cs:List af}{l us:List Value},p8 cs=some l->ai (aj V E w) cs us->us=l
 |[],l,[],h,_=>by injection h with h
 |[],l,_::_,h,hc=>hc.elim
 |c::cs,l,[],h,hc=>hc.elim
 |c::cs,l,u::us,h,hc=>by
  cases c with
  |bor v e t xs =>
   simp only[p8]at h;split at h;·rename_i l' hl;injection h with h;subst h;rw[xr hl hc.2,show u=v from hc.1.1]
   ·cases h
  |_=>cases h
def BS{l:List (Nat×SV)}:∀{is:List Nat}{p:Nat×SV},p∈sY l is->∃i∈is,p=(100000+i,fj l i)
 |i::is,p,h=>by
  rcases List.mem_cons.1 h with rfl|h;·exact⟨i,List.mem_cons_self,rfl⟩
  ·obtain⟨j,h1,h2⟩:=BS h;exact⟨j,List.mem_cons_of_mem _ h1,h2⟩
structure Jz(w:World)(k:cV)(ps:List PT)(args:Array Value)(lit:List Value)(X:(cW k.fx×k.t.den)×an ps)(g:Nat)(L:List Nat)(E:aM):Prop where
 out:∀k,k∉g::L->E.lab k=.st
 slots:∀t s,aA (sZ ps X.2) t=some s->aK (dH k ps lit X) E w s (if t<100000 then args.getD t undef else args.getD (t-100000) undef)
 boxes:∀b te cs,(dH k ps lit X).box b=some (te,cs)->ji (dH k ps lit X) E w b te cs
 rows:∀r row,(dH k ps lit X).row r=some row->bP w E.lab r row (E.rv r)
def JA{k:cV}{ps:List PT}{args:Array Value}{lit:List Value}{X:(cW k.fx×k.t.den)×an ps}{g:Nat}{L:List Nat}(ha:wz w (λk=>k∉g::L) k ps args.toList X lit g L)(hn:(g::L).Nodup)(hlen:ps.length+1<=100000)(hsm:Nat.blt k.te bV=true):∃E,Jz w k ps args lit X g L E:=by
 classical
 obtain⟨v0,vs0,hal,⟨hv0,arr,cm,m1,m2,m3,m4,m5⟩,ha⟩:=ha;obtain⟨ng,hnL⟩:=List.nodup_cons.1 hn;obtain⟨f2,v2,a2,b2⟩:=p6 (i:=1) (j:=0) ha hnL;have hl:=ha.len;let E:aM:=⟨λk=>if k=g then .box 100000 else if k∈L then f2 k else .st,v2,λ_=>g⟩;have lg:E.lab g=.box 100000:=if_pos rfl;have l2:∀k∈L,E.lab k=f2 k:=λk hk=>(if_neg λ(e:k=g)=>ng (by rw[<-e];exact hk)).trans (if_pos hk);have lo:∀k,k∉g::L->E.lab k=.st:=λk hk=>(if_neg λe=>hk (by simp[e])).trans (if_neg λh'=>hk (by simp[h']));obtain⟨g3,g4⟩:=b2 (dH k ps lit X) E l2 lo (λq hq=>rfl) (λq hq=>xp q hq);have hbox:(dH k ps lit X).box 100000=some (k.te,nQ k.fx lit X.1.1++dF k.t X.1.2 none):=rfl;have hflat:ai (aj (dH k ps lit X) E w) (dF k.t X.1.2 none) cm:=pG m5;have hcs:0<(nQ k.fx lit X.1.1++dF k.t X.1.2 none).length:=by have e1:=hflat.len;have e2:=m5.len;have:=k.t.nc_pos;rw[List.length_append];omega
 have h0:args.getD 0 undef=v0:=kT (by rw[hal];rfl);have hptr:aK (dH k ps lit X) E w (.c (.box 100000 0)) v0:=⟨hv0,_,_,hbox,hcs⟩;have hsl:∀t s,aA (bT ps X.2 1 0).1 t=some s->1<=t/\t<100000/\aK (dH k ps lit X) E w s (args.getD t undef):=λt s hs=>by obtain⟨m,v,q1,q2,q3⟩:=g3 _ (eH hs);have hm':m<vs0.length:=(List.getElem?_eq_some_iff.1 q1).1;simp only at q2;refine⟨by omega,by omega, ?_⟩;rw[show t=m+1 by omega,kT (by rw[hal];simpa using q1)];exact q3
 refine⟨E,⟨lo,λt s hs=>?_,λb te cs hb=>?_,λr row hr=>g4 (r,row) (eH hr)⟩⟩
 ·unfold sZ at hs;have hs2:aA ([(0,.c (.box 100000 0)),(100000,.c (.box 100000 0))]++((bT ps X.2 1 0).1++sY (bT ps X.2 1 0).1 (sX ps 1))) t=some s:=hs;rw[pZ]at hs2;split at hs2
  ·rename_i s' hs';injection hs2 with hs2;subst hs2;rcases List.mem_cons.1 (eH hs')with e|hm;·injection e with e1 e2;subst e1 e2;rw[if_pos (by omega),h0];exact hptr
   rcases List.mem_cons.1 hm with e|hm;·injection e with e1 e2;subst e1 e2;rw[if_neg (by omega),Nat.sub_self,h0];exact hptr
   ·cases hm
  ·rw[pZ]at hs2;split at hs2;·rename_i s' hs';injection hs2 with hs2;subst hs2;obtain⟨q1,q2,q3⟩:=hsl t _ hs';rw[if_pos q2];exact q3
   ·obtain⟨i,_,e⟩:=BS (eH hs2);injection e with e1 e2;subst e1 e2;rw[if_neg (by omega),show 100000+i-100000=i by omega];unfold fj;split;·rename_i s' hs';exact(hsl i _ hs').2.2
    ·show True;trivial
 ·have hb':aA [(100000,(k.te,nQ k.fx lit X.1.1++dF k.t X.1.2 none))] b=some (te,cs):=hb;have:=eH hb';simp only[List.mem_singleton,Prod.mk.injEq]at this;obtain⟨rfl,rfl,rfl⟩:=this;refine⟨arr,.inl ⟨by simpa using hsm,m1⟩,lg, ?_,m2⟩;rw[m3];exact ai.app (BR (m4.mono lo)) hflat
def JB(h:R w0 lab0 oo n V E a w):∀{back:Bool}{ps:List PT}{vs:List Value}{y:gr back ps},BP V back ps=some y->vs.length=ps.length->(∀j v,vs[j]? = some v->oo (100000+(1+j))=v)->(aF (p9 V back ps)).Nodup ->
  ∃Lb,sw w Lb back ps vs y/\Lb.Nodup/\∀q∈Lb,∃r∈aF (p9 V back ps),dr E.lab r q
 |false,ps,vs,y,_,_,_,_=>⟨[],rfl,List.nodup_nil,λq hq=>by cases hq⟩
 |true,ps,vs,y,hr,hl,hv,hn=>xk h (i:=1) (vs:=vs) hr hl hv hn
theorem JC [Inv P] {f : Nat} {fn : Func} {c : Code} {k : cV} {ps rs : List PT} {back : Bool} {pre : Option ((cW k.fx × k.t.den) × an ps → Bool)} {val : (cW k.fx × k.t.den) × an ps → k.t.den × (gr back ps × an rs)} {pl : cC} {je : Option aa} (hf : P.funcs[f]? = some fn) (hb : fn.body = some c) (hname : (fn.name == "runtime.NumGoroutine") = false)
  (hm:P.follows .mixedOrders=true) (hT:aX P T) (hΓ:au P Γ) (hc:d8 fn.ntmps c=true) (hn:Nat.ble (ps.length+1) fn.ntmps=true) (hn2:Nat.ble fn.ntmps 100000=true)
  (hG:∀lit X,lit.length=k.fx.length->s4 k.fx X.1.1->fS ps X.2->bZ pre X=true->∃N,ak Γ T B N c pl (dH k ps lit X) (ax je (BQ T k ps back rs fn.results.toList))=some (lit,val X)) (hsm:Nat.blt k.te bV=true:=by rfl):dv P f ⟨k,ps,back,rs,pre,val⟩:=by
 intro w args L g lit X ha hL hlt hpre hI hBL;have ha0:=ha;obtain⟨v0,vs0,hal,⟨hv0,arr0,cm0,m1,m2,m3,m4,m5⟩,hag⟩:=ha0;obtain⟨N,hr⟩:=hG lit X m4.len m4.bd hag.bd hpre;have hn:=Nat.le_of_ble_eq_true hn;have hn2:=Nat.le_of_ble_eq_true hn2;have hlen:args.size=ps.length+1:=by have hl0:vs0.length=ps.length:=hag.len;have e:=congrArg List.length hal;simp at e;omega
 refine .inl ⟨?_, ?_⟩
 ·have h1 : ¬ fn.name = "runtime.NumGoroutine" := by simpa using hname
  have h2:¬ fn.body=none:=by rw[hb];simp
  simp[callFunc,hf,h1,h2]
 obtain⟨E,st⟩:=JA ha hL (show ps.length+1<=100000 by omega) hsm;let oo:Nat->Value:=λt=>args.getD (t-100000) undef;have hsz:(args++Array.replicate (fn.ntmps-args.size) undef).size=fn.ntmps:=by rw[Array.size_append,Array.size_replicate];omega
 have hund:∀t,args.size<=t->(args++Array.replicate (fn.ntmps-args.size) undef).getD t undef=undef:=by
  intro t ht;rw[Array.getD_eq_getD_getElem?,Array.getElem?_append_right ht];by_cases h:t-args.size<fn.ntmps-args.size;·simp[Array.getElem?_replicate,h]
  ·simp[Array.getElem?_replicate,h]
 have hR:R w E.lab oo fn.ntmps (dH k ps lit X) E { tmps:=args++Array.replicate (fn.ntmps-args.size) undef,defers:=[] } w:=by
  refine⟨hn2,hsz,rfl,λt=>?_,st.boxes,st.rows,⟨rfl,⟨rfl,λ_=>Nat.le_refl _⟩,rfl,Nat.le_refl _,λk hk hl=>⟨hl,rfl⟩,λk hk hl=>⟨hl,rfl⟩⟩⟩;have hval:cP oo { tmps:=args++Array.replicate (fn.ntmps-args.size) undef,defers:=[] } t=if t<100000 then args.getD t undef else args.getD (t-100000) undef:=by
   unfold cP;by_cases ht:t<100000
   ·rw[if_pos ht,if_pos ht];by_cases hlt:t<args.size;·simp only[Array.getD_eq_getD_getElem?];rw[Array.getElem?_append_left hlt]
    ·rw[hund t (by omega),Array.getD_eq_getD_getElem?,Array.getElem?_eq_none (by omega)];rfl
   ·rw[if_neg ht,if_neg ht]
  rw[hval];show aK (dH k ps lit X) E w (fj (sZ ps X.2) t) _;unfold fj;split;·rename_i s hs;exact st.slots t s hs
  ·show True;trivial
 have hend:∀V' E' a' w',s0 T k ps back rs fn.results.toList V'=some (lit,val X)->R w E.lab oo fn.ntmps V' E' a' w'->a'.defers=[]/\∃v,(results fn a'.tmps).run P w'=.ok v w' /\
   ∃vs Lb Lr,Ending.returned v=Ending.returned v/\wA w ⟨k,ps,back,rs,pre,val⟩ args.toList lit g L (val X) v w' vs Lb Lr:=by
  intro V' E' a' w' hfin h';refine⟨h'.defers, ?_⟩;unfold s0 at hfin;split at hfin
  ·rename_i ss cs hss hrf;cases hq:(nO V' (some (k.te,k.t))&&(dq (aF (gT rs ss++p9 V' back ps))&&(aF (cs.drop k.fx.length)).isEmpty));·rw[hq]at hfin;cases hfin
   rw[hq]at hfin;simp only[Bool.and_eq_true,List.isEmpty_iff]at hq;obtain⟨hkept,hnd,hnone⟩:=hq;obtain⟨hz,hfin⟩:=pX (show gU V'.row rs ss _=some (lit,val X)from hfin);obtain⟨p0,p123⟩:=dK (z:=(lit,val X)) hfin;obtain⟨p1,p23⟩:=dK (z:=val X) p123;obtain⟨p2,p3⟩:=dK (z:=(val X).2) p23;have hnd:=iw hnd;rw[gj]at hnd;obtain⟨n1,n2,n3⟩:=List.nodup_append.1 hnd;obtain⟨vs,v1,v2⟩:=p4 hT h' hss;obtain⟨v,r1,r2⟩:=p5 v2;obtain⟨Lr,l1,l2,l3⟩:=sT h' p3 hz v1 n1;simp only[sU]at hrf;split at hrf
   ·rename_i te cs' hbx;cases hte:Nat.beq te k.te;·rw[hte]at hrf;cases hrf
    rw[hte]at hrf;injection hrf with hrf;subst hrf;obtain rfl:=Nat.eq_of_beq_eq_true hte;obtain⟨arr,k1,k2,k3,k4⟩:=h'.boxes 100000 _ _ hbx;have k1:=k1.cells (by simpa using hsm);have hs0:aK V' E' w' (V'.slot 100000) (cP oo a' 100000):=h'.slots 100000;simp only[nO]at hkept;split at hkept
    ·rename_i hsl;rw[hsl]at hs0;obtain⟨hp,_⟩:=(show aj V' E' w' (.box 100000 0) _ from hs0);have hu:cP oo a' 100000=v0:=by unfold cP;rw[if_neg (by omega)];exact kT (by rw[hal];rfl)
     rw[hu,hv0]at hp;injection hp with hp;injection hp with hp;injection hp with hp;rw[<-hp]at k1 k2;have e0:arr.toList.take k.fx.length=lit:=xr p0 (k3.take k.fx.length);obtain⟨L1,o1,o2,o3⟩:=gl h' p1 (k3.drop k.fx.length) (by rw[hnone];exact List.nodup_nil);have hL1:L1=[]:=by
      cases L1 with
      |nil=>rfl
      |cons x xs =>obtain⟨q,q1,_⟩:=o3 x List.mem_cons_self;rw[hnone]at q1;cases q1
     subst hL1;obtain⟨Lb,b1,b2,b3⟩:∃Lb,sw w' Lb back ps args.toList.tail (val X).2.1/\Lb.Nodup/\∀q∈Lb,∃r∈aF (p9 V' back ps),dr E'.lab r q:=by rw[hal];exact JB (vs:=vs0) h' p2 hag.len (λj u hu=>by show args.getD (100000+(1+j)-100000) undef=u;rw[show 100000+(1+j)-100000=j+1 from by omega];exact kT (by rw[hal];simpa using hu)) n2
     have hold:∀q r,dr E'.lab r q->q∈L\/w.heap.size<=q:=by
      intro q r hk;by_cases h1:q∈g::L
      ·rcases List.mem_cons.1 h1 with rfl|h1;·rcases hk with hk|hk<;>rw[k2]at hk<;>cases hk
       ·exact .inl h1
      ·refine .inr (Nat.le_of_not_lt λhlt=>?_);have:=(h'.same.old q hlt (st.out q h1)).1;rcases hk with hk|hk<;>rw[this]at hk<;>cases hk
     refine⟨v,r1,vs,Lb,Lr,rfl,r2,l1,⟨arr,_,k1,k4, ?_,o1⟩,b1,List.nodup_append.2 ⟨l2,b2,λx hx z hz e=>?_⟩,λq hq=>?_,h'.same.os,h'.same.tape,h'.same.output,h'.same.size,λq hq hqL=>(h'.same.old q hq (st.out q hqL)).2⟩;·rw[<-e0];exact(List.take_append_drop _ _).symm
     ·subst e;obtain⟨q,q1,q2⟩:=l3 x hx;obtain⟨q',q1',q2'⟩:=b3 x hz;exact n3 q q1 q' q1' (jR q2 q2')
     ·rcases List.mem_append.1 hq with hq|hq;·obtain⟨r,q1,q2⟩:=l3 q hq;exact hold q r q2
      ·obtain⟨r,q1,q2⟩:=b3 q hq;exact hold q r q2
    ·cases hkept
   ·cases hrf
  ·cases hfin
 refine calls_of_wp hf hb (gS hT (hΓ.at hI λk hk=>st.out k λhl=>hBL k hl hk) hm c pl hc hR hr ?_ (gy.join ?_ _));·intro ch a a' w' hq;obtain⟨_,v,vs,L',Lr,he,_⟩:=hq;cases he
 ·intro e V' E' a' w' hr' h';cases e with
  |nrm =>obtain⟨d1,v,d2,vs,L',Lr,d3,d4⟩:=hend V' E' a' w' hr' h';exact⟨d1,v,d2,v,vs,L',Lr,rfl,d4⟩
  |ret =>obtain⟨d1,v,d2,vs,L',Lr,d3,d4⟩:=hend V' E' a' w' hr' h';exact⟨d1,v,d2,v,vs,L',Lr,rfl,d4⟩
  |exit i=>cases hr'
def mz(e:Nat)(t0:Ty)(ps:List PT)(v0:Value)(X:List t0.den×an ps):St:=ah ((0,.c (.bor v0 e t0 X.1))::(bT ps X.2 1 0).1) [] []
def s5(T:bc)(k:cV)(rv:List ResultVar)(V:St):Option (List Value×k.t.den) :=
 match jn T V rv with
 |some [.c (.box b 0)]=>match V.box b with
  |some (te,cs)=>cond (Nat.beq te k.te&&(aF (cs.drop k.fx.length)).isEmpty) (dJ (p8 (cs.take k.fx.length)) (dk V.row k.t (cs.drop k.fx.length))) none
  |none=>none
 |_=>none
def BT(T:bc)(k:cV)(rv:List ResultVar):Ex->St->Option (List Value×k.t.den)
 |.nrm,V=>s5 T k rv V
 |.ret,V=>s5 T k rv V
 |.exit _,_=>none
theorem JD [Inv P] {f : Nat} {fn : Func} {c : Code} {te e : Nat} {t0 t : Ty} {ps : List PT} {pre : Option (an (⟨.sl e t0, false, false⟩ :: ps) → Bool)} {val : an (⟨.sl e t0, false, false⟩ :: ps) → t.den} {pl : cC} {je : Option aa} (hf : P.funcs[f]? = some fn) (hb : fn.body = some c) (hname : (fn.name == "runtime.NumGoroutine") = false)
  (hm:P.follows .mixedOrders=true) (hT:aX P T) (hΓ:au P Γ) (hc:d8 fn.ntmps c=true) (hn:Nat.ble (ps.length+1) fn.ntmps=true) (hn2:Nat.ble fn.ntmps 100000=true) (hno:b7 ps=true)
  (hG:∀v0 X,fS (⟨.sl e t0,false,false⟩::ps) X->bZ pre X=true->∃N,ak Γ T B N c pl (mz e t0 ps v0 X) (ax je (BT T ⟨te,[(e,t0)],t⟩ fn.results.toList))=some ([v0],val X)) (hsm:Nat.blt te bV=true:=by rfl):kI P f ⟨⟨te,[(e,t0)],t⟩,⟨.sl e t0,false,false⟩::ps,pre,val⟩:=by
 intro w args X ha hpre hI;have ha:du w (λ_=>True) (⟨.sl e t0,false,false⟩::ps) args.toList X []:=ha;have hbd:=ha.bd;match hal:args.toList,ha with
 |[],ha=>exact ha.elim
 |v0::vs0,ha =>
 obtain⟨cs0,L1,L2,hLL,hcv,hrd,ha⟩:=ha;have hcv:cs0=[v0]:=hcv;subst hcv;obtain⟨rfl,hrd⟩:L1=[]/\Rd w (λ_=>True) (.sl e t0) [v0] X.1:=hrd;have hL2:L2=[]:=by simpa using hLL.symm
 subst hL2;obtain⟨N,hr⟩:=hG v0 X hbd hpre;have hn:=Nat.le_of_ble_eq_true hn;have hn2:=Nat.le_of_ble_eq_true hn2;have hl:=ha.len;have hlen:args.size=ps.length+1:=by have e:=congrArg List.length hal;simp at e;omega
 refine .inl ⟨?_, ?_⟩
 ·have h1 : ¬ fn.name = "runtime.NumGoroutine" := by simpa using hname
  have h2:¬ fn.body=none:=by rw[hb];simp
  simp[callFunc,hf,h1,h2]
 obtain⟨f2,v2,a2,b2⟩:=p6 (i:=1) (j:=0) ha List.nodup_nil;let E:aM:=⟨λ_=>.st,v2,λ_=>0⟩;have hrows:(bT ps X.2 1 0).2=[]:=by
  have:∀{ps:List PT}{X:an ps}{i j:Nat},b7 ps=true->(bT ps X i j).2=[]:=by
   intro ps;induction ps with
   |nil=>intro X i j _;rfl
   |cons p ps ih =>intro X i j h;obtain⟨t,agg,io⟩:=p;simp only[b7,List.all_cons,Bool.and_eq_true,Bool.not_eq_true']at h;obtain⟨hio,h⟩:=h;subst hio;exact ih h
  exact this hno
 obtain⟨g3,_⟩:=b2 (mz e t0 ps v0 X) E (λk hk=>by cases hk) (λ_ _=>rfl) (λp hp=>rfl) (λp hp=>by rw[hrows]at hp;cases hp);let oo:Nat->Value:=λt=>undef;have hsz:(args++Array.replicate (fn.ntmps-args.size) undef).size=fn.ntmps:=by rw[Array.size_append,Array.size_replicate];omega
 have hget:∀m v,args.toList[m]? = some v->(args++Array.replicate (fn.ntmps-args.size) undef).getD m undef=v:=λm v h=>by
  have hlt:m<args.size:=by have:=(List.getElem?_eq_some_iff.1 h).1;simpa using this
  rw[Array.getD_eq_getD_getElem?,Array.getElem?_append_left hlt];have:args[m]? = some v:=by simpa using h
  rw[this];rfl
 have hR:R w E.lab oo fn.ntmps (mz e t0 ps v0 X) E { tmps:=args++Array.replicate (fn.ntmps-args.size) undef,defers:=[] } w:=by
  refine⟨hn2,hsz,rfl,λt=>?_,λb te cs hb=>(by cases hb),λr row hr=>(by cases hr),⟨rfl,⟨rfl,λ_=>Nat.le_refl _⟩,rfl,Nat.le_refl _,λk hk hl=>⟨hl,rfl⟩,λk hk hl=>⟨hl,rfl⟩⟩⟩;show aK (mz e t0 ps v0 X) E w (fj ((0,.c (.bor v0 e t0 X.1))::(bT ps X.2 1 0).1) t) _;refine xj λp hp ep=>?_;have hv:∀m v,args.toList[m]? = some v->t=m->cP oo { tmps:=args++Array.replicate (fn.ntmps-args.size) undef,defers:=[] } t=v:=λm v h1 h2=>by
   have hlt:m<args.size:=by have:=(List.getElem?_eq_some_iff.1 h1).1;simpa using this
   unfold cP;rw[if_pos (by omega),h2];exact hget m v h1
  rcases List.mem_cons.1 hp with rfl|hp;·rw[hv 0 v0 (by rw[hal];rfl) ep.symm];exact(show aj (mz e t0 ps v0 X) E w (.bor v0 e t0 X.1) v0 from⟨rfl,hrd.mono λ_ _=>rfl⟩)
  ·obtain⟨m,v,q1,q2,q3⟩:=g3 p hp;rw[hv (m+1) v (by rw[hal];simpa using q1) (by omega)];exact q3
 have hend:∀V' E' a' w',s5 T ⟨te,[(e,t0)],t⟩ fn.results.toList V'=some ([v0],val X)->R w E.lab oo fn.ntmps V' E' a' w'->a'.defers=[]/\∃v,(results fn a'.tmps).run P w'=.ok v w' /\
   ∃g,Ending.returned v=Ending.returned v/\wC w ⟨⟨te,[(e,t0)],t⟩,⟨.sl e t0,false,false⟩::ps,pre,val⟩ (v0::vs0) (val X) v w' g:=by
  intro V' E' a' w' hfin h';refine⟨h'.defers, ?_⟩;unfold s5 at hfin;split at hfin
  ·rename_i b hss;split at hfin
   ·rename_i te' cs hbx;simp only at hfin;cases hq:(Nat.beq te' te&&(aF (cs.drop ([(e,t0)]:List (Nat×Ty)).length)).isEmpty);·rw[hq]at hfin;cases hfin
    rw[hq]at hfin;simp only[Bool.and_eq_true,List.isEmpty_iff]at hq;obtain⟨hte,hnone⟩:=hq;obtain rfl:=Nat.eq_of_beq_eq_true hte;obtain⟨p0,p1⟩:=dK (z:=([v0],val X)) hfin;obtain⟨vs,v1,v2⟩:=p4 hT h' hss;obtain⟨v,r1,r2⟩:=p5 v2;match vs,v1 with
    |[],v1=>exact v1.elim
    |_::_::_,v1=>exact v1.2.elim
    |[u],v1 =>
    obtain rfl:v=u:=r2;obtain⟨hp,_⟩:=(show aj V' E' w' (.box b 0) v from v1.1);obtain⟨arr,k1,k2,k3,k4⟩:=h'.boxes b _ _ hbx;have k1:=k1.cells (by simpa using hsm);have e0:arr.toList.take ([(e,t0)]:List (Nat×Ty)).length=[v0]:=xr p0 (k3.take _);obtain⟨L1,o1,o2,o3⟩:=gl h' p1 (k3.drop _) (by rw[hnone];exact List.nodup_nil);have hL1:L1=[]:=by
     cases L1 with
     |nil=>rfl
     |cons x xs =>obtain⟨q,q1,_⟩:=o3 x List.mem_cons_self;rw[hnone]at q1;cases q1
    subst hL1;refine⟨v,r1,E'.bb b,rfl,hp,Nat.le_of_not_lt λhlt=>?_,⟨arr,_,k1,k4, ?_,o1⟩,h'.same.os,h'.same.tape,h'.same.output,h'.same.size,λq hq=>(h'.same.old q hq rfl).2⟩;·have:=(h'.same.old _ hlt rfl).1;rw[k2]at this;cases this
    ·show arr.toList=(v0::vs0).take 1++_;rw[show(v0::vs0).take 1=[v0]from rfl,<-e0];exact(List.take_append_drop _ _).symm
   ·cases hfin
  ·cases hfin
 refine calls_of_wp hf hb (gS hT (hΓ.at hI λk hk=>rfl) hm c pl hc hR hr ?_ (gy.join ?_ _));·intro ch a a' w' hq;obtain⟨_,v,g,he,_⟩:=hq;cases he
 ·intro ex V' E' a' w' hr' h';cases ex with
  |nrm =>obtain⟨d1,v,d2,g,d3,d4⟩:=hend V' E' a' w' hr' h';exact⟨d1,v,d2,v,g,rfl,d4⟩
  |ret =>obtain⟨d1,v,d2,g,d3,d4⟩:=hend V' E' a' w' hr' h';exact⟨d1,v,d2,v,g,rfl,d4⟩
  |exit i=>cases hr'
end
abbrev KT(J:Type):Type:=Ex->St->Option J
section
variable {J : Type} {Γ : Gm} {T : bc} {B : Nat → Option aa} {N : Nat} {c a b : Code} {p pa pb : cC} {V : St} {K : KT J}
def BV{x:Operand}{t:Bool}{A A' W:Option J}(hc:c=.cond x a b)(hp:p=.mk none none pa pb)(hx:ev V x=.c (.bool t))
  (h1:ak Γ T B N a pa V K=A) (h2:ak Γ T B N b pb V K=A') (e:cond t A A'=W):ak Γ T B N c p V K=W:=by
 subst hc hp h1 h2;rw[<-e];show(match ev V x with|.c (.bool t)=>cond t (ak Γ T B N a pa V K) (ak Γ T B N b pb V K)|_=>none)=_;rw[hx]
def BW{id:Nat}{lm:aa}{Z W:Option J}(hc:c=.block id a)(hp:p=.mk (some lm) none pa .n)
  (h1:ak Γ T B N a pa V (ax (some lm) (pU id K))=Z) (e:Z=W):ak Γ T B N c p V K=W:=by
 subst hc hp e;exact h1
def BX{cl:aa}{V':St}{Z W:Option J}(hc:c=.loop a)(hp:p=.mk none (some cl) pa .n)(hs:gw cl V=some V')
  (h1:bW (λV K=>ak Γ T B N a pa V K) cl N V' K=Z) (e:Z=W):ak Γ T B N c p V K=W:=by
 subst hc hp e;show((gw cl V).bind λσ0=>bW (λV K=>ak Γ T B N a pa V K) cl N σ0 K)=_;rw[hs];exact h1
end
abbrev I2(α:Type):Type:=Int->Int->α
abbrev I3(α:Type):Type:=Int->Int->Int->α
abbrev I4(α:Type):Type:=Int->Int->Int->Int->α
abbrev I5(α:Type):Type:=Int->Int->Int->Int->Int->α
abbrev I6(α:Type):Type:=Int->Int->Int->Int->Int->Int->α
abbrev I7(α:Type):Type:=Int->Int->Int->Int->Int->Int->Int->α
abbrev I8(α:Type):Type:=Int->Int->Int->Int->Int->Int->Int->Int->α
def bf:Nat->Code->Nat->Code
 |0,c,_=>c
 |F+1,c,n=>cond (Nat.ble n 1) c (match c with
  |.seq a b=>cond (Nat.beq (n%2) 0) (bf F a (n / 2)) (bf F b (n / 2))
  |.cond _ a b=>cond (Nat.beq (n%2) 0) (bf F a (n / 2)) (bf F b (n / 2))
  |.block _ c=>bf F c (n / 2)
  |.loop c=>bf F c (n / 2)
  |c=>c)
abbrev yi(n:Int):af:=.int .i64 n
abbrev xi(n:Int):SV:=.c (.int .i64 n)
abbrev xo(n:Nat):SV:=.c (.own n)
abbrev xb(n:Nat):SV:=.c (.box n 0)
abbrev xB(b:Bool):SV:=.c (.bool b)
abbrev tI:Ty:=.int .i64
abbrev tM(e:Nat):Ty:=.pair tI (.pair tI (.sl e tI))
abbrev LI:Type:=List Int
abbrev LL:Type:=List (List Int)
abbrev MT:Type:=Int×Int×List Int
abbrev LM:Type:=List MT
def gz{α0 α1 β:Type}{f g:α0->α1->β}(h:∀x0 x1,f x0 x1=g x0 x1):f=g:=funext λx0=>funext λx1=>h x0 x1
def fG{α0 α1 α2 β:Type}{f g:α0->α1->α2->β}(h:∀x0 x1 x2,f x0 x1 x2=g x0 x1 x2):f=g:=funext λx0=>funext λx1=>funext λx2=>h x0 x1 x2
def d9{α0 α1 α2 α3 β:Type}{f g:α0->α1->α2->α3->β}(h:∀x0 x1 x2 x3,f x0 x1 x2 x3=g x0 x1 x2 x3):f=g:=funext λx0=>funext λx1=>funext λx2=>funext λx3=>h x0 x1 x2 x3
def cN{α0 α1 α2 α3 α4 β:Type}{f g:α0->α1->α2->α3->α4->β}(h:∀x0 x1 x2 x3 x4,f x0 x1 x2 x3 x4=g x0 x1 x2 x3 x4):f=g:=funext λx0=>funext λx1=>funext λx2=>funext λx3=>funext λx4=>h x0 x1 x2 x3 x4
def da{α0 α1 α2 α3 α4 α5 β:Type}{f g:α0->α1->α2->α3->α4->α5->β}(h:∀x0 x1 x2 x3 x4 x5,f x0 x1 x2 x3 x4 x5=g x0 x1 x2 x3 x4 x5):f=g:=funext λx0=>funext λx1=>funext λx2=>funext λx3=>funext λx4=>funext λx5=>h x0 x1 x2 x3 x4 x5
def gV{α0 α1 α2 α3 α4 α5 α6 β:Type}{f g:α0->α1->α2->α3->α4->α5->α6->β}(h:∀x0 x1 x2 x3 x4 x5 x6,f x0 x1 x2 x3 x4 x5 x6=g x0 x1 x2 x3 x4 x5 x6):f=g:=funext λx0=>funext λx1=>funext λx2=>funext λx3=>funext λx4=>funext λx5=>funext λx6=>h x0 x1 x2 x3 x4 x5 x6
def ed{α0 α1 α2 α3 α4 α5 α6 α7 β:Type}{f g:α0->α1->α2->α3->α4->α5->α6->α7->β}(h:∀x0 x1 x2 x3 x4 x5 x6 x7,f x0 x1 x2 x3 x4 x5 x6 x7=g x0 x1 x2 x3 x4 x5 x6 x7):f=g:=funext λx0=>funext λx1=>funext λx2=>funext λx3=>funext λx4=>funext λx5=>funext λx6=>funext λx7=>h x0 x1 x2 x3 x4 x5 x6 x7
def dM{α0 α1 α2 α3 α4 α5 α6 α7 α8 β:Type}{f g:α0->α1->α2->α3->α4->α5->α6->α7->α8->β}(h:∀x0 x1 x2 x3 x4 x5 x6 x7 x8,f x0 x1 x2 x3 x4 x5 x6 x7 x8=g x0 x1 x2 x3 x4 x5 x6 x7 x8):f=g:=funext λx0=>funext λx1=>funext λx2=>funext λx3=>funext λx4=>funext λx5=>funext λx6=>funext λx7=>funext λx8=>h x0 x1 x2 x3 x4 x5 x6 x7 x8
def dN{α0 α1 α2 α3 α4 α5 α6 α7 α8 α9 β:Type}{f g:α0->α1->α2->α3->α4->α5->α6->α7->α8->α9->β}(h:∀x0 x1 x2 x3 x4 x5 x6 x7 x8 x9,f x0 x1 x2 x3 x4 x5 x6 x7 x8 x9=g x0 x1 x2 x3 x4 x5 x6 x7 x8 x9):f=g:=funext λx0=>funext λx1=>funext λx2=>funext λx3=>funext λx4=>funext λx5=>funext λx6=>funext λx7=>funext λx8=>funext λx9=>h x0 x1 x2 x3 x4 x5 x6 x7 x8 x9
def fT{α0 α1 α2 α3 α4 α5 α6 α7 α8 α9 α10 β:Type}{f g:α0->α1->α2->α3->α4->α5->α6->α7->α8->α9->α10->β}(h:∀x0 x1 x2 x3 x4 x5 x6 x7 x8 x9 x10,f x0 x1 x2 x3 x4 x5 x6 x7 x8 x9 x10=g x0 x1 x2 x3 x4 x5 x6 x7 x8 x9 x10):f=g:=funext λx0=>funext λx1=>funext λx2=>funext λx3=>funext λx4=>funext λx5=>funext λx6=>funext λx7=>funext λx8=>funext λx9=>funext λx10=>h x0 x1 x2 x3 x4 x5 x6 x7 x8 x9 x10
def jo{α0 α1 α2 α3 α4 α5 α6 α7 α8 α9 α10 α11 β:Type}{f g:α0->α1->α2->α3->α4->α5->α6->α7->α8->α9->α10->α11->β}(h:∀x0 x1 x2 x3 x4 x5 x6 x7 x8 x9 x10 x11,f x0 x1 x2 x3 x4 x5 x6 x7 x8 x9 x10 x11=g x0 x1 x2 x3 x4 x5 x6 x7 x8 x9 x10 x11):f=g:=funext λx0=>funext λx1=>funext λx2=>funext λx3=>funext λx4=>funext λx5=>funext λx6=>funext λx7=>funext λx8=>funext λx9=>funext λx10=>funext λx11=>h x0 x1 x2 x3 x4 x5 x6 x7 x8 x9 x10 x11
def iG{α0 α1 α2 α3 α4 α5 α6 α7 α8 α9 α10 α11 α12 β:Type}{f g:α0->α1->α2->α3->α4->α5->α6->α7->α8->α9->α10->α11->α12->β}(h:∀x0 x1 x2 x3 x4 x5 x6 x7 x8 x9 x10 x11 x12,f x0 x1 x2 x3 x4 x5 x6 x7 x8 x9 x10 x11 x12=g x0 x1 x2 x3 x4 x5 x6 x7 x8 x9 x10 x11 x12):f=g:=funext λx0=>funext λx1=>funext λx2=>funext λx3=>funext λx4=>funext λx5=>funext λx6=>funext λx7=>funext λx8=>funext λx9=>funext λx10=>funext λx11=>funext λx12=>h x0 x1 x2 x3 x4 x5 x6 x7 x8 x9 x10 x11 x12
def nR{α0 α1 α2 α3 α4 α5 α6 α7 α8 α9 α10 α11 α12 α13 β:Type}{f g:α0->α1->α2->α3->α4->α5->α6->α7->α8->α9->α10->α11->α12->α13->β}(h:∀x0 x1 x2 x3 x4 x5 x6 x7 x8 x9 x10 x11 x12 x13,f x0 x1 x2 x3 x4 x5 x6 x7 x8 x9 x10 x11 x12 x13=g x0 x1 x2 x3 x4 x5 x6 x7 x8 x9 x10 x11 x12 x13):f=g:=funext λx0=>funext λx1=>funext λx2=>funext λx3=>funext λx4=>funext λx5=>funext λx6=>funext λx7=>funext λx8=>funext λx9=>funext λx10=>funext λx11=>funext λx12=>funext λx13=>h x0 x1 x2 x3 x4 x5 x6 x7 x8 x9 x10 x11 x12 x13
def qb{α0 α1 α2 α3 α4 α5 α6 α7 α8 α9 α10 α11 α12 α13 α14 β:Type}{f g:α0->α1->α2->α3->α4->α5->α6->α7->α8->α9->α10->α11->α12->α13->α14->β}(h:∀x0 x1 x2 x3 x4 x5 x6 x7 x8 x9 x10 x11 x12 x13 x14,f x0 x1 x2 x3 x4 x5 x6 x7 x8 x9 x10 x11 x12 x13 x14=g x0 x1 x2 x3 x4 x5 x6 x7 x8 x9 x10 x11 x12 x13 x14):f=g:=funext λx0=>funext λx1=>funext λx2=>funext λx3=>funext λx4=>funext λx5=>funext λx6=>funext λx7=>funext λx8=>funext λx9=>funext λx10=>funext λx11=>funext λx12=>funext λx13=>funext λx14=>h x0 x1 x2 x3 x4 x5 x6 x7 x8 x9 x10 x11 x12 x13 x14
def nS{α0 α1 α2 α3 α4 α5 α6 α7 α8 α9 α10 α11 α12 α13 α14 α15 β:Type}{f g:α0->α1->α2->α3->α4->α5->α6->α7->α8->α9->α10->α11->α12->α13->α14->α15->β}(h:∀x0 x1 x2 x3 x4 x5 x6 x7 x8 x9 x10 x11 x12 x13 x14 x15,f x0 x1 x2 x3 x4 x5 x6 x7 x8 x9 x10 x11 x12 x13 x14 x15=g x0 x1 x2 x3 x4 x5 x6 x7 x8 x9 x10 x11 x12 x13 x14 x15):f=g:=funext λx0=>funext λx1=>funext λx2=>funext λx3=>funext λx4=>funext λx5=>funext λx6=>funext λx7=>funext λx8=>funext λx9=>funext λx10=>funext λx11=>funext λx12=>funext λx13=>funext λx14=>funext λx15=>h x0 x1 x2 x3 x4 x5 x6 x7 x8 x9 x10 x11 x12 x13 x14 x15
def xt{α0 α1 α2 α3 α4 α5 α6 α7 α8 α9 α10 α11 α12 α13 α14 α15 α16 β:Type}{f g:α0->α1->α2->α3->α4->α5->α6->α7->α8->α9->α10->α11->α12->α13->α14->α15->α16->β}(h:∀x0 x1 x2 x3 x4 x5 x6 x7 x8 x9 x10 x11 x12 x13 x14 x15 x16,f x0 x1 x2 x3 x4 x5 x6 x7 x8 x9 x10 x11 x12 x13 x14 x15 x16=g x0 x1 x2 x3 x4 x5 x6 x7 x8 x9 x10 x11 x12 x13 x14 x15 x16):f=g:=funext λx0=>funext λx1=>funext λx2=>funext λx3=>funext λx4=>funext λx5=>funext λx6=>funext λx7=>funext λx8=>funext λx9=>funext λx10=>funext λx11=>funext λx12=>funext λx13=>funext λx14=>funext λx15=>funext λx16=>h x0 x1 x2 x3 x4 x5 x6 x7 x8 x9 x10 x11 x12 x13 x14 x15 x16
def JI{α0 α1 α2 α3 α4 α5 α6 α7 α8 α9 α10 α11 α12 α13 α14 α15 α16 α17 β:Type}{f g:α0->α1->α2->α3->α4->α5->α6->α7->α8->α9->α10->α11->α12->α13->α14->α15->α16->α17->β}(h:∀x0 x1 x2 x3 x4 x5 x6 x7 x8 x9 x10 x11 x12 x13 x14 x15 x16 x17,f x0 x1 x2 x3 x4 x5 x6 x7 x8 x9 x10 x11 x12 x13 x14 x15 x16 x17=g x0 x1 x2 x3 x4 x5 x6 x7 x8 x9 x10 x11 x12 x13 x14 x15 x16 x17):f=g:=funext λx0=>funext λx1=>funext λx2=>funext λx3=>funext λx4=>funext λx5=>funext λx6=>funext λx7=>funext λx8=>funext λx9=>funext λx10=>funext λx11=>funext λx12=>funext λx13=>funext λx14=>funext λx15=>funext λx16=>funext λx17=>h x0 x1 x2 x3 x4 x5 x6 x7 x8 x9 x10 x11 x12 x13 x14 x15 x16 x17
def fH{α:Type}(μ:α->Nat)(pre:α->Bool)(m:Nat)(X:α):Bool:=Nat.blt (μ X) m&&pre X
def aG.rec[DC]{P:Program}[Inv P]{f:Nat}{sig:bC}{pre:an sig.ps->Bool}{val:an sig.ps->cL sig.ps×an sig.rs}(μ:an sig.ps->Nat)
  (step:∀m,aG P f ⟨sig,some (fH μ pre m),val⟩->aG P f ⟨sig,some (fH μ pre (m+1)),val⟩):aG P f ⟨sig,some pre,val⟩:=by
 have all:∀m,aG P f ⟨sig,some (fH μ pre m),val⟩:=by
  intro m;induction m with
  |zero =>
   intro w args L X y Y _ _ _ _ hG _ _;have:fH μ pre 0 X=false:=by simp[fH]
   simp[a8.G,bZ,this]at hG
  |succ m ih=>exact step m ih
 intro w args L X y Y h1 h2 h3 h4 hG hI hB;refine all (μ X+1) w args L X y Y h1 h2 h3 h4 ?_ hI hB;have hp:pre X=true:=by
  cases hp:pre X;·simp[a8.G,bZ,hp]at hG
  ·rfl
 have hb:fH μ pre (μ X+1) X=true:=by simp[fH,hp]
 simp only[a8.G,bZ,hp,hb]at hG ⊢;exact hG
@[reducible] def Inv.triv(P:Program):Inv P:=⟨λ_=>True,λ_=>False,λ_ _ _ h=>h,λ_ _ _ h=>h.elim⟩
end Go.Fw
