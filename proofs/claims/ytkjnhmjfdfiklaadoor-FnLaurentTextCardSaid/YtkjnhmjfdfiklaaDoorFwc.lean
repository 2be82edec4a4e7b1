/- The framework: what a symbolic run of the model's code tells, proved sound. Nothing is assumed. -/
import Derived.Test.YtkjnhmjfdfiklaaDoorFwb
set_option linter.defProp false
set_option linter.unusedVariables false
set_option linter.unusedSectionVars false
set_option linter.unusedSimpArgs false
namespace Go.Fw
open Go.RowKit
structure Gm where
 g:Nat->Option aO
 m:Nat->Option fS
 v:Nat->Option dH
 n:Nat->Option fB
 s:Nat->Option jl
 z:Nat->Option fU
def ic:Op->Option (Operand×Operand×Operand)
 |.pick c x y=>some (c,x,y)
 |_=>none
def lI:Op->Option (Nat×List Operand)
 |.call { callee:=.value (.func f),args:=args,argTypes:=_ }=>some (f,args.toList)
 |_=>none
def lJ(U:St):Op->Option (Nat×List Operand)
 |.call { callee:=.value x,args:=args,argTypes:=_ }=>match ev U x with
  |.c (.fn f [])=>some (f,args.toList)
  |_=>none
 |_=>none
noncomputable def ie{J:Type}(a b:Option J):Option J:=by classical exact if a=b then a else none
def wl{J:Type}{a b:Option J}{r:J}(h:ie a b=some r):a=some r/\b=some r:=by
 unfold ie at h;split at h;·rename_i e;exact⟨h,e▸h⟩
 ·cases h
noncomputable def ki{α J:Type}(F:α->Option J):Option J:=by classical exact if h:∃r,∀y,F y=some r then some h.choose else none
def Dz{α J:Type}{F:α->Option J}{r:J}(h:ki F=some r)(y:α):F y=some r:=by
 unfold ki at h;split at h;·rename_i hex;rw[<-h];exact hex.choose_spec y
 ·cases h
def DA{α J:Type}{F:α->Option J}{r:J}(y:α)(h:∀y,F y=some r):ki F=some r:=by have hex:∃r,∀y,F y=some r:=⟨r,h⟩;unfold ki;rw[dif_pos hex,<-hex.choose_spec y,h y]
noncomputable def rX{J:Type}(step:Nat->Option J):List Nat->Option J
 |[]=>none
 |[i]=>step i
 |i::j::is=>ie (step i) (rX step (j::is))
def wm{J:Type}{step:Nat->Option J}{r:J}:∀{is:List Nat},rX step is=some r->∀i∈is,step i=some r
 |[],h,_,_=>by cases h
 |[i],h,j,hj=>by obtain rfl:=List.mem_singleton.1 hj;exact h
 |i::j::is,h,k,hk=>by
  obtain⟨h1,h2⟩:=wl h;rcases List.mem_cons.1 hk with rfl|hk;·exact h1
  ·exact wm h2 k hk
def wn:BinOp->Bool
 |.eql=>true
 |.neq=>true
 |_=>false
def lK(T:aL)(U:St):Op->Bool
 |.binOp op t x y _=>wn op&&(match T t,ev U x,ev U y with
  |some ti,.c (.sn _ _ _ _),.c .nil=>ti.el.isSome
  |some ti,.c (.own r),.c .nil=>ti.el.isSome&&(match U.row r with
   |some row=>!row.nilE
   |none=>false)
  |_,_,_=>false)
 |_=>false
structure cr where
 d:Nat
 r:Nat
 i:Int
 f:Nat
 el:Option (Nat×Int)
def nX(T:aL)(U:St)(o:Oper):Option cr:=match o.guard,o.op,o.dst with
 |none,.load t x,some d=>match ev U x with
  |.c (.elt r i f)=>match U.row r,T t with
   |some row,some ti=>cond (row.deep&&(ti.el.isSome&&!ti.agg)) (some ⟨d,r,i,f,none⟩) none
   |_,_=>none
  |_=>none
 |_,_,_=>none
inductive DD where
 |no
 |still (p:cr)
 |sub (p:cr) (f:Nat) (args:List Operand)
 |put (p:cr) (e:Nat) (k:Int) (t:Nat) (x:Operand)
def kj(d:Nat):Option Operand->Bool
 |some (.tmp e)=>Nat.beq e d&&Nat.blt d 100000
 |_=>false
def fC(d:Nat):Option Nat->Bool
 |some e=>!(Nat.beq e d)
 |none=>true
def nY(T:aL)(U:St)(p:cr)(op:Op)(dst:Option Nat):Option cr:=match op,dst with
 |.indexAddr t (.tmp d) i,some e=>cond (Nat.beq d p.d&&(Nat.blt d 100000&&!(Nat.beq e d))) (match ev U (.tmp d),ev U i,T t with
  |.c (.sn _ _ _ _),.c (.int _ k),some ti=>match ti.el with
   |some el=>match T el,U.row p.r with
    |some ei,some row=>cond (Nat.beq ei.zero.length 1) (match gr row.t (row.xs.getD p.i.toNat row.t.dflt) p.f with
     |some ⟨(_,.int _),_⟩=>some ⟨p.d,p.r,p.i,p.f,some (e,k)⟩
     |_=>none) none
    |_,_=>none
   |none=>none
  |_,_,_=>none) none
 |_,_=>none
def nZ(p:cr)(op:Op)(dst:Option Nat):Option (Nat×Int×Nat×Operand):=match op,dst,p.el with
 |.store t (.tmp e') x,none,some (e,k)=>cond (Nat.beq e' e&&(Nat.blt e 100000&&Nat.blt p.d 100000)) (some (e,k,t,x)) none
 |_,_,_=>none
def ig(p:cr)(dst:Option Nat):Bool:=match p.el with
 |some (e,_)=>fC e dst
 |none=>true
def lk(N:Nat)(b:Bool):Bool:=match N with
 |0=>b
 |_+1=>b
def aM(N:Nat)(b:Bool):lk N b=b:=by cases N<;>rfl
def lL(N:Nat):ab->ab
 |.bool b=>.bool (lk N b)
 |c=>c
def lM(N:Nat):SV->SV
 |.c x=>.c (lL N x)
 |.agg l=>.agg l
 |.tup l=>.tup (l.map λp=>(p.1,p.2.map (lL N)))
def wo(N:Nat)(c:ab):lL N c=c:=by cases c<;>simp[lL,aM]
def wq(N:Nat)(s:SV):lM N s=s:=by have h:lL N=id:=funext (wo N);cases s<;>simp[lM,wo,h]
def lN(N:Nat)(op:Op)(c:Bool):Bool:=match op with
 |.binOp .quo _ _ _ _=>lk N c
 |.binOp .rem _ _ _ _=>lk N c
 |.binOp .shl _ _ _ _=>lk N c
 |.binOp .shr _ _ _ _=>lk N c
 |.indexAddr _ _ _=>lk N c
 |.index _ _ _=>lk N c
 |.slice _ _ _ _ _=>lk N c
 |_=>c
def lO(N:Nat)(op:Op)(s:SV):SV:=match op with
 |.binOp _ _ _ _ _=>lM N s
 |.lookup _ _ _ _=>lM N s
 |_=>s
def rY(N:Nat)(op:Op)(c:Bool):lN N op c=c:=by unfold lN;split<;>first|rfl|exact aM N c
def rZ(N:Nat)(op:Op)(s:SV):lO N op s=s:=by unfold lO;split<;>first|rfl|exact wq N s
def gv{α:Type}(N:Nat)(p:Option (α->Bool))(X:α):Bool:=match p with
 |none=>true
 |some f=>lk N (f X)
def jm{α:Type}(N:Nat)(p:Option (α->Bool))(X:α):gv N p X=a8 p X:=by
 unfold gv a8;split;·rfl
 ·exact aM N _
def ko(N:Nat)(d:Option Nat)(U:St):St:=match d with
 |some d=>U.put d (lM N (U.slot d))
 |none=>U
def n7(N:Nat)(d:Option Nat)(U:St):ko N d U=U:=by
 cases d with
 |none=>rfl
 |some d =>
  unfold ko;simp only[wq];unfold St.put;congr 1;funext t;unfold ai;cases hb:Nat.beq t d;·rfl
  ·rw[Nat.eq_of_beq_eq_true hb];rfl
def aQ.kL{J:Type}(N:Nat):aQ->(St->Option J)->Option J
 |.fail,_=>none
 |.ok U,K=>K U
 |.chk c o,K=>cond (lk N c) (o.kL N K) none
 |.br b o1 o2,K=>cond b (o1.kL N K) (o2.kL N K)
 |.call x f,K=>x.bind λb=>(f b).kL N K
def aQ.kL_eq{J:Type}(N:Nat)(K:St->Option J):∀o:aQ,o.kL N K=o.k K
 |.fail=>rfl
 |.ok U=>rfl
 |.chk c o=>by simp only[aQ.kL,aQ.k,aM,aQ.kL_eq N K o]
 |.br b o1 o2=>by simp only[aQ.kL,aQ.k,aQ.kL_eq N K o1,aQ.kL_eq N K o2]
 |.call x f=>by simp only[aQ.kL,aQ.k];congr 1;funext b;exact aQ.kL_eq N K (f b)
section
variable {J : Type}
noncomputable def n8(Γ:Gm)(T:aL)(N:Nat)(o:Oper)(U:St)(K:St->Option J):Option J :=
 match ic o.op with
 |some (c,x,y)=>match ev U c with
  |.c (.bool b)=>cond b (K (dv U o.dst (ev U x))) (K (dv U o.dst (ev U y)))
  |_=>none
 |none=>match lJ U o.op with
  |some (f,args)=>match Γ.g f with
   |some en=>match rg en U (args.map (ev U))with
    |some X=>cond (gv N en.pre X) (match rj en U o.dst (args.map (ev U)) (en.val X)with
     |some U'=>K (ko N o.dst U')
     |none=>none) none
    |none=>none
   |none=>match Γ.m f with
    |some en=>match rA en U (args.map (ev U))with
     |some (qs,X)=>cond (gv N en.pre X) (match nS en U o.dst (args.map (ev U)) qs (en.val X)with
      |some U'=>K (ko N o.dst U')
      |none=>none) none
     |none=>none
    |none=>match Γ.v f with
     |some en=>match rL en U (args.map (ev U))with
      |some (qs,X)=>cond (gv N en.pre X) (match rM en U o.dst (args.map (ev U)) qs (en.val X)with
       |some U'=>K (ko N o.dst U')
       |none=>none) none
      |none=>none
     |none=>match Γ.n f with
      |some en=>match rN en U (args.map (ev U))with
       |some X=>cond (gv N en.pre X) (match rO en U o.dst (args.map (ev U)) (en.val X)with
        |some U'=>K U'
        |none=>none) none
       |none=>none
      |none=>match Γ.s f with
       |some en=>match lH en.ps (args.map (ev U))with
        |some X=>cond (gv N en.pre X) (match rR en U o.dst (en.val X)with
         |some U'=>K U'
         |none=>none) none
        |none=>none
       |none=>match Γ.z f with
        |some en=>match rV en U (args.map (ev U))with
         |some X=>cond (gv N en.pre X) (ki λy=>match rW en U o.dst y with
          |some U'=>K U'
          |none=>none) none
         |none=>none
        |none=>none
  |none=>match bB T U o.op with
   |some (c,s)=>cond (lK T U o.op) (cond (lk N c) (K (dv U o.dst s)) (ie (K (dv U o.dst (.c (.bool true)))) (K (dv U o.dst (.c (.bool false))))))
    (cond (lN N o.op c) (K (dv U o.dst (lO N o.op s))) none)
   |none=>(nD T U o.dst o.op).kL N K
def r6(ops:Array Oper)(j:Nat):Option Nat:=match ops[j]? with
 |some o=>o.dst
 |none=>none
def jo(ops:Array Oper)(o:Oper)(U:St)(F:St->Option J)(K:St->Option J):Option J :=
 match o.guard with
 |none=>F U
 |some (j,want)=>match r6 ops j with
  |some t=>match U.slot t with
   |.c (.bool b)=>cond b
    (cond want (F (U.put t (.c (.bool true)))) (K (dv (U.put t (.c (.bool true))) o.dst (.tup []))))
    (cond want (K (dv (U.put t (.c (.bool false))) o.dst (.tup []))) (F (U.put t (.c (.bool false)))))
   |.tup _=>K (dv U o.dst (.tup []))
   |_=>none
  |none=>none
def fD:Op->Bool
 |.move _=>true
 |.assign _=>true
 |.load _ _=>true
 |.indexAddr _ _ _=>true
 |.fieldAddr _ _ _=>true
 |.binOp _ _ _ _ _=>true
 |.unOp _ _ _=>true
 |.index _ _ _=>true
 |.call { callee:=.builtin .len,args:=_,argTypes:=_ }=>true
 |.call { callee:=.builtin .min,args:=_,argTypes:=_ }=>true
 |.call { callee:=.builtin .max,args:=_,argTypes:=_ }=>true
 |.convert _ _ _=>true
 |.extract _ _=>true
 |.nilCheck _=>true
 |_=>false
noncomputable def r7(Γ:Gm)(N:Nat)(p:cr)(f:Nat)(args:List Operand)(dst:Option Nat)(U:St)(K:St->Option J):Option J :=
 match Γ.g f,U.row p.r with
 |some en,some row=>match ji row p.r p.i p.f U.row en.sig.ps (args.map (ev U))with
  |some X=>cond (gv N en.pre X) (match lD row p.i p.f en.sig.ps (en.val X).1 with
   |some x'=>match lB en U dst [p.r] (ai U.row p.r (some ⟨row.e,row.t,row.xs.set p.i.toNat x',row.deep,row.nilE⟩)) (en.val X).2 with
    |some U'=>K (ko N dst U')
    |none=>none
   |none=>none) none
  |none=>none
 |_,_=>none
def n9(T:aL)(p:cr)(k:Int)(t:Nat)(x:Operand)(U:St)(K:St->Option J):Option J :=
 match U.row p.r,T t,ev U x with
 |some row,some ti,.c (.int kk m)=>cond (Nat.beq ti.zero.length 1) (match gr row.t (row.xs.getD p.i.toNat row.t.dflt) p.f with
  |some ⟨(_,.int k'),ys⟩=>cond (gk kk k') (match gt row.t (row.xs.getD p.i.toNat row.t.dflt) p.f (.int k') (ys.set k.toNat m)with
   |some x'=>K ((eY [p.r] U).withRow (ai U.row p.r (some ⟨row.e,row.t,row.xs.set p.i.toNat x',row.deep,row.nilE⟩)))
   |none=>none) none
  |_=>none) none
 |_,_,_=>none
def oa(Γ:Gm)(T:aL)(U:St)(o:Oper)(pin:Option cr):DD:=match nX T U o with
 |some p=>.still p
 |none=>match pin with
  |none=>.no
  |some p=>match o.guard with
   |some _=>.no
   |none=>match lJ U o.op with
    |some (f,args)=>match Γ.g f with
     |some en=>cond (kj p.d (d6 en.sig.ps args)&&cM en.sig.ps) (.sub p f args) .no
     |none=>.no
    |none=>match nY T U p o.op o.dst with
     |some p'=>.still p'
     |none=>match nZ p o.op o.dst with
      |some (e,k,t,x)=>.put p e k t x
      |none=>cond (fD o.op&&(fC p.d o.dst&&ig p o.dst)) (.still p) .no
noncomputable def ii(Γ:Gm)(T:aL)(N:Nat)(ops:Array Oper):List Nat->Option cr->St->(St->Option J)->Option J
 |[],_,U,K=>K U
 |i::rest,pin,U,K=>match ops[i]? with
  |some o=>match oa Γ T U o pin with
   |.no=>jo ops o U (λU=>n8 Γ T N o U λU'=>ii Γ T N ops rest none U' K) λU'=>ii Γ T N ops rest none U' K
   |.still p=>match bB T U o.op with
    |some (c,s)=>cond (lN N o.op c) (ii Γ T N ops rest (some p) (dv U o.dst (lO N o.op s)) K) none
    |none=>none
   |.sub p f args=>r7 Γ N p f args o.dst U λU'=>ii Γ T N ops rest none U' K
   |.put p _ k t x=>n9 T p k t x U λU'=>ii Γ T N ops rest none U' K
  |none=>none
def wr(T:aL)(N:Nat)(o:Oper)(U:St)(K:St->Option J):Option J :=
 match bB T U o.op with
 |some (c,s)=>cond (qW o.op s) (cond (lN N o.op c) (K (dv U o.dst (lO N o.op s))) none) none
 |none=>none
def ob(f:Nat->Bool):List Nat->Option Nat
 |[]=>none
 |i::l=>cond (f i) (some i) (ob f l)
def ey(Γ:Gm)(o:Oper):Bool:=match lI o.op with
 |some (f,_)=>match Γ.g f with
  |some en=>bj en.sig.ps
  |none=>false
 |none=>match ic o.op with
  |some _=>true
  |none=>match o.op with
   |.slice _ _ _ _ _=>true
   |.build _ _=>true
   |.makeSlice _ _ _=>true
   |.alloc _=>true
   |.box _ _=>true
   |.buildSlice _ _ _=>true
   |_=>fD o.op
def ij(Γ:Gm)(ops:Array Oper)(j:Nat):Bool:=match ops[j]? with
 |some oj=>!(ja oj.op)&&(List.range ops.size).any λi=>!(Nat.beq i j)&&(match ops[i]? with
  |some oi=>!(ey Γ oi)&&!(dw ops 4 i j||dw ops 4 j i)
  |none=>false)
 |none=>false
def wt(Γ:Gm)(ops:Array Oper)(listed:Array Bool)(i:Nat):Bool:=match ops[i]? with
 |some o=>fD o.op&&(Region.free .any ops listed i&&!(ij Γ ops i))
 |none=>false
def r8(T:aL)(U:St)(o:Oper)(pin:Option cr):Option cr:=match nX T U o with
 |some p=>some p
 |none=>match pin,o.guard with
  |some p,none=>match nY T U p o.op o.dst with
   |some p'=>some p'
   |none=>cond (fC p.d o.dst&&ig p o.dst) (some p) none
  |_,_=>none
def wu(o:Oper)(pin:Option cr):Option (cr×Nat×Int×Nat×Operand):=match pin,o.guard with
 |some p,none=>match nZ p o.op o.dst with
  |some y=>some (p,y)
  |none=>none
 |_,_=>none
noncomputable def gw(Γ:Gm)(T:aL)(N:Nat)(ops:Array Oper):Nat->Array Bool->Option cr->St->(St->Option J)->Option J
 |0,listed,_,U,K=>cond (Region.ready .any ops listed).isEmpty (K U) none
 |fuel+1,listed,pin,U,K=>match Region.ready .any ops listed with
  |[]=>K U
  |r::rs=>match ob (wt Γ ops listed) (r::rs)with
   |some i=>match ops[i]? with
    |some o=>jo ops o U (λU=>wr T N o U λU'=>gw Γ T N ops fuel (listed.setIfInBounds i true) (r8 T U o pin) U' K) λU'=>gw Γ T N ops fuel (listed.setIfInBounds i true) none U' K
    |none=>none
   |none=>rX (λr=>match ops[r]? with
    |some o=>cond (ey Γ o||fP ops (ij Γ ops) r) (match wu o pin with
     |some (p,_,k,t,x)=>cond (fP ops (ij Γ ops) r) (n9 T p k t x U λU'=>gw Γ T N ops fuel (listed.setIfInBounds r true) none U' K) none
     |none=>jo ops o U (λU=>n8 Γ T N o U λU'=>gw Γ T N ops fuel (listed.setIfInBounds r true) none U' K) λU'=>gw Γ T N ops fuel (listed.setIfInBounds r true) none U' K) none
    |none=>none) (r::rs)
noncomputable def r9(Γ:Gm)(T:aL)(N:Nat)(ops:Array Oper)(draw:Bool)(U:St)(K:St->Option J):Option J :=
 cond draw (cond (Region.noSelect ops) (gw Γ T N ops ops.size (Array.replicate ops.size false) none U K) none) (ii Γ T N ops (List.range ops.size) none U K)
def jp(n:Nat)(ops:Array Oper):Bool:=ops.toList.all λo=>match o.dst with
 |some d=>Nat.blt d n
 |none=>true
end
structure ao[DC](P:Program)[Inv P](Γ:Gm):Prop where
 g:∀f en,Γ.g f=some en->ax P f en/\∀p∈en.sig.rs,p.agg=false->p.t.nc=1
 m:∀f en,Γ.m f=some en->fz P f en/\∀p∈en.rs,p.agg=false->p.t.nc=1
 v:∀f en,Γ.v f=some en->cW P f en/\∀p∈en.rs,p.agg=false->p.t.nc=1
 n:∀f en,Γ.n f=some en->ia P f en
 s:∀f en,Γ.s f=some en->False
 z:∀f en,Γ.z f=some en->kg P f en
structure jq[DC](P:Program)(w0:World)(lab0:Nat->an)(Γ:Gm):Prop where
 g:∀f en,Γ.g f=some en->ly P w0 lab0 f en/\∀p∈en.sig.rs,p.agg=false->p.t.nc=1
 m:∀f en,Γ.m f=some en->rz P w0 lab0 f en/\∀p∈en.rs,p.agg=false->p.t.nc=1
 v:∀f en,Γ.v f=some en->rI P w0 lab0 f en/\∀p∈en.rs,p.agg=false->p.t.nc=1
 n:∀f en,Γ.n f=some en->rK P w0 lab0 f en
 s:∀f en,Γ.s f=some en->False
 z:∀f en,Γ.z f=some en->rU P w0 lab0 f en
def ao.at[DC]{P:Program}[Inv P]{Γ:Gm}(h:ao P Γ){w0:World}{lab0:Nat->an}(hI:Inv.I P w0)(hB:∀k,Inv.B P k->lab0 k=.st):jq P w0 lab0 Γ :=
 ⟨λf en hf=>⟨(h.g f en hf).1.at hI hB,(h.g f en hf).2⟩,λf en hf=>⟨(h.m f en hf).1.at hI hB,(h.m f en hf).2⟩,λf en hf=>⟨(h.v f en hf).1.at hI hB,(h.v f en hf).2⟩,λf en hf=>(h.n f en hf).at hI hB,λf en hf=>h.s f en hf,λf en hf=>(h.z f en hf).at hI hB⟩
section
variable {P : Program} {U U' : St} {E E' : aA} {w w' : World} {w0 : World} {lab0 : Nat → an} {oo : Nat → Value} {n : Nat} {a : Act} {T : aL} {Γ : Gm} {J : Type} {ops : Array Oper} {N : Nat} [DC]
def eP(h:jp n ops=true){i:Nat}{o:Oper}(ho:ops[i]? = some o):∀d,o.dst=some d->d<n:=by
 intro d hd;have hm:o∈ops.toList:=by have:=Array.mem_of_getElem? ho;simpa using this
 have:=List.all_eq_true.1 h o hm;rw[hd]at this;simpa using this
def lP(h:R w0 lab0 oo n U E a w):∀args:List Operand,ac (av U E w) (args.map (ev U)) (args.map a.eval)
 |[]=>trivial
 |x::l=>⟨aJ h x,lP h l⟩
def sa{op:Op}{f:Nat}{args:List Operand}(h:lI op=some (f,args)):∃arr ts,op=.call { callee:=.value (.func f),args:=arr,argTypes:=ts }/\arr.toList=args:=by
 unfold lI at h;split at h;·rename_i f' arr ts;injection h with h;injection h with e1 e2;subst e1;exact⟨arr,ts,rfl,e2⟩
 ·cases h
def oc{op:Op}{f:Nat}{args:List Operand}(h:lJ U op=some (f,args)):∃x arr ts,op=.call { callee:=.value x,args:=arr,argTypes:=ts }/\arr.toList=args/\ev U x=.c (.fn f []):=by
 unfold lJ at h;split at h
 ·rename_i x arr ts;split at h;·rename_i f' hf;injection h with h;injection h with e1 e2;subst e1;exact⟨x,arr,ts,rfl,e2,hf⟩
  ·cases h
 ·cases h
def od(h:R w0 lab0 oo n U E a w){x:Operand}{f:Nat}(hx:ev U x=.c (.fn f [])):a.eval x=.func (.func f) #[] #[]:=by have:=aJ h x;rw[hx]at this;exact this.1
def DE(hT:aG P T)(h:R w0 lab0 oo n U E a w){o:Oper}(hn:lK T U o.op=true):∃b,(execOp a.eval o).run P w=.ok (.value (.bool b)) w:=by
 obtain⟨dst,op,oty,pos,after,guard⟩:=o;simp only at hn;unfold lK at hn;split at hn
 ·rename_i op t x y t';simp only[Bool.and_eq_true]at hn;obtain⟨hop,hn⟩:=hn;obtain⟨ti,A,m,c,ht,hel,hx,hy⟩:∃(ti:TI) (A:Option Addr) (m c:Nat),T t=some ti/\ti.el.isSome=true/\a.eval x=.slice A m c/\a.eval y=.slice none 0 0:=by
   split at hn;·rename_i ti _ _ _ _ ht hx hy;have rx:=aJ h x;have ry:=aJ h y;rw[hx]at rx;rw[hy]at ry;obtain⟨A,m,d,e,_⟩:=rx.c_inv;injection e with e;exact⟨ti,A,m,d,ht,hn,e,ry.c_inv⟩
   ·rename_i ti r ht hx hy;have rx:=aJ h x;have ry:=aJ h y;rw[hx]at rx;rw[hy]at ry;obtain⟨e,_,A,m,d,e'⟩:=rx.c_inv;exact⟨ti,A,m,d,ht,(by simp only[Bool.and_eq_true]at hn;exact hn.1),e.trans (e▸e'),ry.c_inv⟩
   ·cases hn
  obtain⟨e,he⟩:=Option.isSome_iff_exists.1 hel;have hu:=eH hT ht he;have heq:(Op.equal t (.slice A m c) (.slice none 0 0)).run P w=.ok A.isNone w:=by
   have key:∀d,(Op.equalIn (d+1) t (.slice A m c) (.slice none 0 0)).run P w=.ok A.isNone w:=λd=>by cases A<;>simp[Op.equalIn,run_underlying hu]
   exact key 9999
  have hguard:(eqGuard op t x y (.slice A m c) (.slice none 0 0)).run P w=.ok () w:=ni (λu e=>by cases e) (λe=>by cases e);cases op<;>simp only[wn]at hop<;>try contradiction
  ·refine⟨A.isNone, ?_⟩;simp only[execOp,hx,hy];rw[Sem.run_bind,Sem.run_bind,hguard];have:binOp .eql t (.slice A m c) (.slice none 0 0)=(do pure (.bool (<-Op.equal t (.slice A m c) (.slice none 0 0))):Sem Value):=rfl;simp[this,heq]
  ·refine⟨!A.isNone, ?_⟩;simp only[execOp,hx,hy];rw[Sem.run_bind,Sem.run_bind,hguard];have:binOp .neq t (.slice A m c) (.slice none 0 0)=(do pure (.bool (!(<-Op.equal t (.slice A m c) (.slice none 0 0)))):Sem Value):=rfl;simp[this,heq]
 ·cases hn
def wv(hT:aG P T)(hΓ:jq P w0 lab0 Γ)(h:R w0 lab0 oo n U E a w){o:Oper}(hd:∀d,o.dst=some d->d<n){K:St->Option J}{r:J}(hr:n8 Γ T N o U K=some r){next:Act->World->Prop}{Q:Exit->Act->World->Prop}
  (hK:∀U' E' v w',K U'=some r->R w0 lab0 oo n U' E' (a.put o.dst v) w'->(ey Γ o=true->aV w w')->next (a.put o.dst v) w'):o.wp P a w next Q:=by
 unfold n8 at hr;split at hr
 ·rename_i c x y hp;have hop:o.op=.pick c x y:=by
   obtain⟨dst,op,oty,pos,after,guard⟩:=o;simp only at hp ⊢;cases op<;>simp only[ic]at hp<;>try contradiction
   injection hp with hp;injection hp with e1 e2;injection e2 with e2 e3;rw[e1,e2,e3]
  split at hr
  ·rename_i b hb;have hc:=aJ h c;rw[hb]at hc;have hc:a.eval c=.bool b:=hc;have hrun:(execOp a.eval o).run P w=.ok (.value (if b then a.eval x else a.eval y)) w:=by simp[execOp,hop,hc,asBool]
   unfold Oper.wp;rw[hrun];cases b;·exact hK _ E _ w hr (h.iput hd (aJ h y)) λ_=>aV.refl w
   ·exact hK _ E _ w hr (h.iput hd (aJ h x)) λ_=>aV.refl w
  ·cases hr
 ·rename_i hnp;split at hr
  ·rename_i f args hcall;split at hr
   ·rename_i en hen;split at hr
    ·rename_i X hX;rw[jm]at hr;cases hpre:a8 en.pre X;·rw[hpre]at hr;cases hr
     rw[hpre]at hr;simp only[cond_true,n7]at hr;have hG:en.G X=some (en.val X):=by unfold aO.G;rw[hpre];rfl
     split at hr
     ·rename_i U' hout;obtain⟨hE,hfl⟩:=hΓ.g f en hen;obtain⟨x0,arr,ts,hop,harr,hx0⟩:=oc hcall;have hev:a.eval x0=.func (.func f) #[] #[]:=(od h hx0);have hs:ac (av U E w) (args.map (ev U)) (arr.map a.eval).toList:=by rw[Array.toList_map,harr];exact lP h args
      have hq:ey Γ o=true->bj en.sig.ps=true:=by
       intro hq;unfold ey at hq;split at hq;·rename_i f' args' hcs;obtain⟨arr',ts',hop',_⟩:=sa hcs;rw[hop]at hop';injection hop' with hop';injection hop' with e1 e2 e3;injection e1 with e1;subst e1;have hx0:SV.c (.fn f' [])=.c (.fn f []):=hx0;injection hx0 with hx0;injection hx0 with hx0;subst hx0;rw[hen]at hq;exact hq
       ·rw[hop]at hq;simp[ic,fD]at hq
      have hrun:(execOp a.eval o).run P w=(callFunc f (arr.map a.eval)).run P w:=by simp[execOp,hop,resolve,hev,Deferred.ofValue,invoke]
      unfold Oper.wp;rw[hrun];rcases Do hE h hs hX hG hd hfl hout with⟨h1,h2⟩|⟨v,w',h1,v',E',he,h2,h3⟩
      ·rw[h1,Oper.upon_enter];refine h2.mono ?_;rintro e w' ⟨v,E',rfl,h3,h4⟩
       exact hK U' E' v w' hr h3 λhqq=>h4 (hq hqq)
      ·injection he with he;subst he;rw[h1];exact hK U' E' v w' hr h2 λhqq=>h3 (hq hqq)
     ·cases hr
    ·cases hr
   ·rename_i hng;split at hr
    ·rename_i en hen;split at hr
     ·rename_i qs X hX;rw[jm]at hr;cases hpre:a8 en.pre X;·rw[hpre]at hr;cases hr
      rw[hpre]at hr;simp only[cond_true,n7]at hr;split at hr
      ·rename_i U' hout;obtain⟨hE,hfl⟩:=hΓ.m f en hen;obtain⟨x0,arr,ts,hop,harr,hx0⟩:=oc hcall;have hev:a.eval x0=.func (.func f) #[] #[]:=(od h hx0);have hs:ac (av U E w) (args.map (ev U)) (arr.map a.eval).toList:=by rw[Array.toList_map,harr];exact lP h args
       have hq:ey Γ o=true->False:=by
        intro hq;unfold ey at hq;split at hq;·rename_i f' args' hcs;obtain⟨arr',ts',hop',_⟩:=sa hcs;rw[hop]at hop';injection hop' with hop';injection hop' with e1 e2 e3;injection e1 with e1;subst e1;have hx0:SV.c (.fn f' [])=.c (.fn f []):=hx0;injection hx0 with hx0;injection hx0 with hx0;subst hx0;rw[hng]at hq;cases hq
        ·rw[hop]at hq;simp[ic,fD]at hq
       have hrun:(execOp a.eval o).run P w=(callFunc f (arr.map a.eval)).run P w:=by simp[execOp,hop,resolve,hev,Deferred.ofValue,invoke]
       unfold Oper.wp;rw[hrun];rcases Ds hE h hs hX hpre hd hfl hout with⟨h1,h2⟩|⟨v,w',h1,v',E',he,h2⟩
       ·rw[h1,Oper.upon_enter];refine h2.mono ?_;rintro e w' ⟨v,E',rfl,h3⟩
        exact hK U' E' v w' hr h3 λhqq=>(hq hqq).elim
       ·injection he with he;subst he;rw[h1];exact hK U' E' v w' hr h2 λhqq=>(hq hqq).elim
      ·cases hr
     ·cases hr
    ·obtain⟨x0,arr,ts,hop,harr,hx0⟩:=oc hcall;have hev:a.eval x0=.func (.func f) #[] #[]:=(od h hx0);have hs:ac (av U E w) (args.map (ev U)) (arr.map a.eval).toList:=by rw[Array.toList_map,harr];exact lP h args
     have hq:ey Γ o=true->False:=by
      intro hq;unfold ey at hq;split at hq;·rename_i f' args' hcs;obtain⟨arr',ts',hop',_⟩:=sa hcs;rw[hop]at hop';injection hop' with hop';injection hop' with e1 e2 e3;injection e1 with e1;subst e1;have hx0:SV.c (.fn f' [])=.c (.fn f []):=hx0;injection hx0 with hx0;injection hx0 with hx0;subst hx0;rw[hng]at hq;cases hq
      ·rw[hop]at hq;simp[ic,fD]at hq
     have hrun:(execOp a.eval o).run P w=(callFunc f (arr.map a.eval)).run P w:=by simp[execOp,hop,resolve,hev,Deferred.ofValue,invoke]
     have fin:∀U',K U'=some r->(bM P f (arr.map a.eval) w λe w'=>∃v E',e=.returned v/\R w0 lab0 oo n U' E' (a.put o.dst v) w')->o.wp P a w next Q:=by
      intro U' hr hcalls;unfold Oper.wp;rw[hrun];rcases hcalls with⟨h1,h2⟩|⟨v,w',h1,v',E',he,h2⟩
      ·rw[h1,Oper.upon_enter];refine h2.mono ?_;rintro e w' ⟨v,E',rfl,h3⟩
       exact hK U' E' v w' hr h3 λhqq=>(hq hqq).elim
      ·injection he with he;subst he;rw[h1];exact hK U' E' v w' hr h2 λhqq=>(hq hqq).elim
     split at hr
     ·rename_i en hen;split at hr
      ·rename_i qs X hX;rw[jm]at hr;cases hpre:a8 en.pre X;·rw[hpre]at hr;cases hr
       rw[hpre]at hr;simp only[cond_true,n7]at hr;split at hr;·rename_i U' hout;obtain⟨hE,hfl⟩:=hΓ.v f en hen;exact fin U' hr (Dw hE h hs hX hpre hd hfl hout)
       ·cases hr
      ·cases hr
     ·split at hr
      ·rename_i en hen;split at hr
       ·rename_i X hX;rw[jm]at hr;cases hpre:a8 en.pre X;·rw[hpre]at hr;cases hr
        rw[hpre]at hr;simp only[cond_true]at hr;split at hr;·rename_i U' hout;exact fin U' hr (Dx (hΓ.n f en hen) h hs hX hpre hd hout)
        ·cases hr
       ·cases hr
      ·split at hr
       ·rename_i en hen;split at hr
        ·rename_i X hX;rw[jm]at hr;cases hpre:a8 en.pre X;·rw[hpre]at hr;cases hr
         rw[hpre]at hr;simp only[cond_true]at hr;split at hr;·rename_i U' hout;exact(hΓ.s f en hen).elim
         ·cases hr
        ·cases hr
       ·split at hr
        ·rename_i en hen;split at hr
         ·rename_i X hX;rw[jm]at hr;cases hpre:a8 en.pre X;·rw[hpre]at hr;cases hr
          rw[hpre]at hr;simp only[cond_true]at hr;have hcalls:=Dy (hΓ.z f en hen) h hs hX hpre hd (Q:=λU'=>K U'=some r) λy=>by
           have hy:=Dz hr y;split at hy;·rename_i U' hout;exact⟨U',hout,hy⟩
           ·cases hy
          unfold Oper.wp;rw[hrun];rcases hcalls with⟨h1,h2⟩|⟨v,w',h1,v',E',U',he,hk,h2⟩
          ·rw[h1,Oper.upon_enter];refine h2.mono ?_;rintro e w' ⟨v,E',U',rfl,hk,h3⟩
           exact hK U' E' v w' hk h3 λhqq=>(hq hqq).elim
          ·injection he with he;subst he;rw[h1];exact hK U' E' v w' hk h2 λhqq=>(hq hqq).elim
         ·cases hr
        ·cases hr
  ·rename_i hnc;split at hr
   ·rename_i c s hv;rw[rY,rZ,aM]at hr;cases c
    ·cases hne:lK T U o.op;·rw[hne]at hr;cases hr
     ·rw[hne]at hr;obtain⟨q1,q2⟩:=wl (show ie _ _=some r from hr);obtain⟨b,h1⟩:=DE hT h hne;unfold Oper.wp;rw[h1];cases b;·exact hK _ E _ w q2 (h.iput hd rfl) λ_=>aV.refl w
      ·exact hK _ E _ w q1 (h.iput hd rfl) λ_=>aV.refl w
    ·have hr:K (dv U o.dst s)=some r:=by cases hne:lK T U o.op<;>(rw[hne]at hr;exact hr)
     obtain⟨v,h1,h2⟩:=g9 hT h hv rfl;unfold Oper.wp;rw[h1];exact hK _ E v w hr (h.iput hd h2) λ_=>aV.refl w
   ·rename_i hv;rw[aQ.kL_eq]at hr;obtain⟨U',h1,h2⟩:=aQ.k_run hr;have hnq:ey Γ o=true->iZ o.op=true:=by intro hq;unfold nD at h1;split at h1;all_goals first | (cases h1;done) | (rename_i he;rw[he];unfold ey at hq;rw[he]at hq;simp[lI,ic,fD,iZ]at hq ⊢;done) | (rename_i he _;rw[he];unfold ey at hq;rw[he]at hq;simp[lI,ic,fD,iZ]at hq ⊢;done)
    rcases C8 hT h hd h1 with⟨v,w',E',g1,gx,g2⟩|⟨w',E',g1,g2⟩;·unfold Oper.wp;rw[g1];exact hK U' E' v w' h2 g2 λhq=>gx (hnq hq)
    ·have hnm:iZ o.op=false:=by
      cases hm:iZ o.op;·rfl
      ·exfalso;unfold iZ at hm;split at hm;·rename_i he;unfold execOp at g1;rw[he]at g1;simp only at g1;rw[Sem.run_bind]at g1;cases hX:(Instr.makeSlice _ _ _).run P w<;>rw[hX]at g1<;>simp[Result.andThen]at g1
       ·rename_i he;unfold execOp at g1;rw[he]at g1;simp only at g1;rw[Sem.run_bind]at g1;cases hX:(Instr.alloc _ _ _).run P w<;>rw[hX]at g1<;>simp[Result.andThen]at g1
       ·rename_i he;unfold execOp at g1;rw[he]at g1;simp only at g1;rw[Sem.run_bind]at g1;cases hX:(Instr.box _ _).run P w<;>rw[hX]at g1<;>simp[Result.andThen]at g1
       ·rename_i he;unfold execOp at g1;rw[he]at g1;simp only at g1;rw[Sem.run_bind]at g1;cases hX:(Instr.buildSlice _ _ _).run P w<;>rw[hX]at g1<;>simp[Result.andThen]at g1
       ·cases hm
     unfold Oper.wp;rw[g1];exact hK U' E' undef w' h2 g2 λhq=>by rw[hnm]at hnq;exact absurd (hnq hq) (by simp)
def R.seen(h:R w0 lab0 oo n U E a w){t:Nat}(ht:t<n){b:Bool}(hb:U.slot t=.c (.bool b)):R w0 lab0 oo n (U.put t (.c (.bool b))) E a w/\a.tmps[t]? = some (.bool b):=by
 have hs:=h.slots t;rw[hb]at hs;have hbd:=h.bound;have hv:bX oo a t=.bool b:=hs;unfold bX at hv;rw[if_pos (by omega)]at hv;have hlt:t<a.tmps.size:=by rw[h.size];exact ht
 have hget:a.tmps[t]? = some (.bool b):=by rw[Array.getD_eq_getD_getElem?,Array.getElem?_eq_getElem hlt]at hv;rw[Array.getElem?_eq_getElem hlt];exact congrArg some hv
 refine⟨?_,hget⟩;have:=h.put (d:=t) (s:=.c (.bool b)) (v:=.bool b) ht rfl;have e:a.put (some t) (.bool b)=a:=by
  unfold Act.put;have:a.tmps.setIfInBounds t (.bool b)=a.tmps:=by
   apply Array.ext_getElem?;intro i;rw[Array.getElem?_setIfInBounds];by_cases e:t=i;·subst e;rw[if_pos rfl,if_pos hlt,hget]
   ·rw[if_neg e]
  simp only[this]
 rwa [e]at this
def sb(h:R w0 lab0 oo n U E a w)(hops:jp n ops=true){i:Nat}{o:Oper}(ho:ops[i]? = some o){F K:St->Option J}{r:J}(hr:jo ops o U F K=some r){G:Prop}
  (hF:∀U',R w0 lab0 oo n U' E a w->F U'=some r->Region.wanted o (yielded ops a.tmps)=true->G)
  (hK:∀U',R w0 lab0 oo n U' E (a.put o.dst undef) w->K U'=some r->Region.wanted o (yielded ops a.tmps)=false->G):G:=by
 have hd:=eP hops ho;unfold jo at hr;split at hr;·rename_i hg;exact hF U h hr (by simp[Region.wanted,hg])
 ·rename_i j want hg;split at hr
  ·rename_i t ht;have htn:t<n:=by
    unfold r6 at ht;split at ht;·rename_i oj hoj;exact eP hops hoj t ht
    ·cases ht
   have hbind:(ops[j]?).bind (·.dst)=some t:=by
    unfold r6 at ht;split at ht;·rename_i oj hoj;rw[hoj];exact ht
    ·cases ht
   split at hr
   ·rename_i b hb;obtain⟨h1,h2⟩:=h.seen htn hb;have hy:yielded ops a.tmps j=some b:=by unfold yielded;rw[hbind];simp[h2]
    have hw:Region.wanted o (yielded ops a.tmps)=(b == want):=by unfold Region.wanted;rw[hg];simp only[hy];cases b<;>cases want<;>rfl
    cases b<;>cases want
    ·exact hF _ h1 hr (by rw[hw];rfl)
    ·exact hK _ (h1.iput (s:=.tup []) hd ⟨#[],rfl,trivial⟩) hr (by rw[hw];rfl)
    ·exact hK _ (h1.iput (s:=.tup []) hd ⟨#[],rfl,trivial⟩) hr (by rw[hw];rfl)
    ·exact hF _ h1 hr (by rw[hw];rfl)
   ·rename_i l hb;have hs:=h.slots t;rw[hb]at hs;obtain⟨arr,hv,_⟩:=hs;have hbd:=h.bound;unfold bX at hv;rw[if_pos (by omega)]at hv;have hlt:t<a.tmps.size:=by rw[h.size];exact htn
    have hy:yielded ops a.tmps j=none:=by unfold yielded;rw[hbind];rw[Array.getD_eq_getD_getElem?,Array.getElem?_eq_getElem hlt]at hv;have hv:a.tmps[t]=.tuple arr:=hv;simp[Array.getElem?_eq_getElem hlt,hv]
    exact hK _ (h.iput (s:=.tup []) hd ⟨#[],rfl,trivial⟩) hr (by unfold Region.wanted;rw[hg];simp[hy])
   ·cases hr
  ·cases hr
def DF(h:R w0 lab0 oo n U E a w)(hops:jp n ops=true){i:Nat}{o:Oper}(ho:ops[i]? = some o){F K:St->Option J}{r:J}(hr:jo ops o U F K=some r){G:Prop}
  (hF:∀U',R w0 lab0 oo n U' E a w->(o.guard=none->U'=U)->F U'=some r->Region.wanted o (yielded ops a.tmps)=true->G)
  (hK:∀U',R w0 lab0 oo n U' E (a.put o.dst undef) w->K U'=some r->Region.wanted o (yielded ops a.tmps)=false->G):G:=by
 cases hg:o.guard with
 |none =>unfold jo at hr;rw[hg]at hr;exact hF U h (λ_=>rfl) hr (by simp[Region.wanted,hg])
 |some q=>exact sb h hops ho hr (λU' h' hF' hw=>hF U' h' (λhn=>by rw[hg]at hn;cases hn) hF' hw) hK
def kp{i:Nat}{o:Oper}(ho:ops[i]? = some o){next:Act->World->Prop}{Q:Exit->Act->World->Prop}(hw:Region.wanted o (yielded ops a.tmps)=true)(h:o.wp P a w next Q):wpOp P ops Q i next a w:=by unfold wpOp;rw[ho];simp only[hw,if_true];exact .inl h
def ww{i:Nat}{o:Oper}(ho:ops[i]? = some o){next:Act->World->Prop}{Q:Exit->Act->World->Prop}(hw:Region.wanted o (yielded ops a.tmps)=false)(h:next (a.put o.dst undef) w):wpOp P ops Q i next a w:=by unfold wpOp;rw[ho];simp only[hw];exact h
def DG(a:Act)(p:cr):Prop:=∀e k,p.el=some (e,k)->0<=k/\∃g m c,a.eval (.tmp p.d)=.slice (some ⟨g,0,none⟩) m c/\k<m/\a.eval (.tmp e)=.pointer (some ⟨g,k.toNat,none⟩)
def eQ(U:St)(E:aA)(a:Act)(w:World)(pin:Option cr):Prop:=∀p,pin=some p->p.d<100000->(∃row,nR U E w p.r p.i p.f row (a.eval (.tmp p.d)))/\DG a p
def wx{α β:Type}(g:α->β):∀(ps:List PT) (xs:List α) {x:α},d6 ps xs=some x->d6 ps (xs.map g)=some (g x)
 |[],[],_,h=>by cases h
 |[],_::_,_,h=>by cases h
 |_::_,[],_,h=>by cases h
 |p::ps,y::ys,x,h=>by
  simp only[d6,List.map_cons]at h ⊢;cases hio:p.io;·rw[hio]at h;exact wx g ps ys h
  ·rw[hio]at h;injection h with h;subst h;rfl
def wy(hT:aG P T)(h:R w0 lab0 oo n U E a w){o:Oper}{p:cr}(hp:nX T U o=some p)(hd:∀d,o.dst=some d->d<n){c:Bool}{s:SV}(hv:bB T U o.op=some (c,s))(hc:c=true) :
  o.guard=none/\∃v,(execOp a.eval o).run P w=.ok (.value v) w/\av U E w s v/\eQ (dv U o.dst s) E (a.put o.dst v) w (some p):=by
 obtain⟨v,h1,h2⟩:=g9 hT h hv hc;have hbd:=h.bound;obtain⟨dst,op,oty,pos,after,guard⟩:=o;unfold nX at hp;simp only at hp hd h1 ⊢;split at hp
 ·rename_i t x d;split at hp
  ·rename_i r i f hx;split at hp
   ·rename_i row ti hrow ht;cases hq:(row.deep&&(ti.el.isSome&&!ti.agg));·rw[hq]at hp;cases hp
    rw[hq]at hp;injection hp with hp;subst hp;simp only[Bool.and_eq_true,Bool.not_eq_true']at hq;refine⟨rfl,v,h1,h2,λp hp hlt=>?_⟩;injection hp with hp;subst hp;have hdn:=hd d rfl;have rx:=aJ h x;rw[hx]at rx;obtain⟨row',g,m,c',e1,e2,e3,e4,e5,e6⟩:=rx.c_inv;rw[hrow]at e1;injection e1 with e1;subst e1;refine⟨⟨row,hrow,hq.1,e3,e4,g,m,c',e2, ?_⟩,λe k he=>by cases he⟩;have hev:(a.put (some d) v).eval (.tmp d)=v:=by show(a.tmps.setIfInBounds d v).getD d undef=v;rw[jN _ _ _ _ (by rw[h.size];exact hdn),if_pos rfl]
    rw[hev];have hagg:=u3 hT ht w;rw[hq.2.2]at hagg;simp only[execOp,e6]at h1;obtain⟨u,hcl⟩:∃u,w.cell? ⟨g,i.toNat*row.t.nc+f,none⟩=some u:=by
     have hal:gU U (.elt r i f) 1=some (((cD row.t (row.xs.getD i.toNat row.t.dflt) (cond row.deep (some r) none)).drop f).take 1):=by simp only[gU,hrow];rw[show Nat.ble (f+1) row.t.nc=true from Nat.ble_eq_true_of_le (by omega)];rfl
     obtain⟨ad,vs,f',k1,k2,k3,_⟩:=qo h hal rx.c_inv;rw[e6]at k1;injection k1 with k1;injection k1 with k1;exact⟨vs[f'],by rw[k1];exact k3 f' _ (List.getElem?_eq_getElem (by omega))⟩
    simp[Instr.loadAt,Instr.sureAddr,loadVar,hagg,hcl]at h1;rw[hcl,h1]
   ·cases hp
  ·cases hp
 ·cases hp
def DH(hT:aG P T)(hΓ:jq P w0 lab0 Γ)(h:R w0 lab0 oo n U E a w){o:Oper}(hd:∀d,o.dst=some d->d<n){p:cr}{f:Nat}{args:List Operand}(hcall:lJ U o.op=some (f,args))
  {en:aO} (hen:Γ.g f=some en) (hio:kj p.d (d6 en.sig.ps args)=true) (hone:cM en.sig.ps=true) (hpin:eQ U E a w (some p)) {K:St->Option J}{r:J} (hr:r7 Γ N p f args o.dst U K=some r) {next:Act->World->Prop}{Q:Exit->Act->World->Prop}
  (hK:∀U' E' v w',K U'=some r->R w0 lab0 oo n U' E' (a.put o.dst v) w'->next (a.put o.dst v) w'):o.wp P a w next Q:=by
 obtain⟨x0,arr,ts,hop,harr,hx0⟩:=oc hcall;have hev:a.eval x0=.func (.func f) #[] #[]:=od h hx0;obtain⟨x,hx,hxd⟩:∃x,d6 en.sig.ps args=some x/\x=.tmp p.d/\p.d<100000:=by
  unfold kj at hio;split at hio;·rename_i e he;simp only[Bool.and_eq_true]at hio;exact⟨_,he,by rw[Nat.eq_of_beq_eq_true hio.1],by simpa using hio.2⟩
  ·cases hio
 obtain⟨rfl,hlt⟩:=hxd;obtain⟨⟨row,hp⟩,_⟩:=hpin p rfl hlt;unfold r7 at hr;rw[hen,hp.hrow]at hr;simp only at hr;split at hr
 ·rename_i X hX;rw[jm]at hr;cases hpre:a8 en.pre X;·rw[hpre]at hr;cases hr
  rw[hpre]at hr;simp only[cond_true,n7]at hr;have hG:en.G X=some (en.val X):=by unfold aO.G;rw[hpre];rfl
  split at hr
  ·rename_i x' hx';split at hr
   ·rename_i U' hout;obtain⟨hE,hfl⟩:=hΓ.g f en hen;have hs:ac (av U E w) (args.map (ev U)) (arr.map a.eval).toList:=by rw[Array.toList_map,harr];exact lP h args
    have hrun:(execOp a.eval o).run P w=(callFunc f (arr.map a.eval)).run P w:=by simp[execOp,hop,resolve,hev,Deferred.ofValue,invoke]
    have hvv:d6 en.sig.ps (arr.map a.eval).toList=some (a.eval (.tmp p.d)):=by rw[Array.toList_map,harr];exact wx a.eval _ _ hx
    unfold Oper.wp;rw[hrun];rcases Dq hE h hs hp hone hvv hX hG hx' hd hfl hout with⟨h1,h2⟩|⟨v,w',h1,v',E',he,h2⟩
    ·rw[h1,Oper.upon_enter];refine h2.mono ?_;rintro e w' ⟨v,E',rfl,h3⟩
     exact hK U' E' v w' hr h3
    ·injection he with he;subst he;rw[h1];exact hK U' E' v w' hr h2
   ·cases hr
  ·cases hr
 ·cases hr
def DI{e:Nat}{kk:IntKind}{L:List Nat}{g m c:Nat}{ys:List Int}(ho:am w (.sl e (.int kk)) L [.slice (some ⟨g,0,none⟩) m c] ys){k:Nat}(hk:k<m)(x:Int) :
  ∃w',(storeCells ⟨g,k,none⟩ [.int kk x] 0).run P w=.ok () w'/\am w' (.sl e (.int kk)) L [.slice (some ⟨g,0,none⟩) m c] (ys.set k x:List Int)/\g∈L/\(∀j,j≠g->w'.heap[j]? = w.heap[j]?)/\w'.heap.size=w.heap.size/\w'.os=w.os/\Tp w w'/\w'.output=w.output:=by
 obtain⟨v,css,Ls,hv,h1,rfl,h2⟩:=ho;injection hv with hv;subst hv;have hm:m=ys.length:=by
  rcases h1.2 with⟨h0,_⟩|⟨_,_,_,e0,_⟩;·cases h0
  ·injection e0
 subst hm;have key:∀{Ls:List (List Nat)}{css:List (List Value)}{ys:List Int},az (λl c y=>am w (.int kk) l c y) Ls css ys->css.flatten=ys.map (λy=>Value.int kk y)/\css=ys.map (λy=>[Value.int kk y])/\Ls=ys.map (λ_=>[]):=by
  intro Ls;induction Ls with
  |nil =>
   intro css ys h;cases css with
   |nil=>cases ys with
    |nil=>exact⟨rfl,rfl,rfl⟩
    |cons _ _=>exact h.elim
   |cons _ _=>cases ys<;>exact h.elim
  |cons l Ls ih =>
   intro css ys h;cases css with
   |nil=>cases ys<;>exact h.elim
   |cons cc css=>cases ys with
    |nil=>exact h.elim
    |cons y ys =>obtain⟨⟨rfl,rfl⟩,h⟩:=h;obtain⟨i1,i2,i3⟩:=ih h;exact⟨by simp[i1],by rw[i2];simp,by rw[i3];simp⟩
 obtain⟨j1,j2,j3⟩:=key h2;have hsz:k+1<=ys.length*(Ty.int kk).nc:=by show k+1<=ys.length*1;omega
 obtain⟨w',hst,ho',hother,hsize,hos⟩:=ownsRow_over (P:=P) (w:=w) (us:=[.int kk x]) (o:=k) h1 hsz (λu hu=>by simp at hu;subst hu;rfl);refine⟨w',hst,⟨_,(ys.set k x).map (λy=>[Value.int kk y]),(ys.set k x).map (λ_=>[]),rfl, ?_, ?_, ?_⟩, ?_,hother,hsize,hos.1,hos.2.1,hos.2.2⟩
 ·show World.ownsRow w' 0 e 1 _ (ys.set k x).length _;rw[List.length_set];have hfl:((ys.set k x).map (λy=>[Value.int kk y])).flatten=css.flatten.take k++[.int kk x]++css.flatten.drop (k+1):=by
   have:((ys.set k x).map (λy=>[Value.int kk y])).flatten=(ys.set k x).map (λy=>Value.int kk y):=by
    induction(ys.set k x)with
    |nil=>rfl
    |cons a l ih=>simp[ih]
   rw[this,j1,List.set_eq_take_append_cons_drop,if_pos hk];simp
  rw[hfl];exact ho'
 ·rw[j3];have:∀l:List Int,(l.map λ_=>([]:List Nat)).flatten=[]:=λl=>by induction l with
   |nil=>rfl
   |cons a l ih=>simp[ih]
  rw[this,this]
 ·have:∀l:List Int,az (λ(l:List Nat) (c:List Value) (y:Int)=>am w' (.int kk) l c y) (l.map λ_=>[]) (l.map λy=>[Value.int kk y]) l:=by
   intro l;induction l with
   |nil=>trivial
   |cons a l ih=>exact⟨⟨rfl,rfl⟩,ih⟩
  exact this _
 ·exact List.mem_append_left _ (by simp[Value.ownBlock])
def wz(hT:aG P T)(h:R w0 lab0 oo n U E a w){o:Oper}{p:cr}{e:Nat}{k:Int}{t:Nat}{x:Operand}(hput:nZ p o.op o.dst=some (e,k,t,x))(hpin:eQ U E a w (some p)){K:St->Option J}{r:J}(hr:n9 T p k t x U K=some r){next:Act->World->Prop}{Q:Exit->Act->World->Prop}
  (hK:∀U' E' v w',K U'=some r->R w0 lab0 oo n U' E' (a.put o.dst v) w'->next (a.put o.dst v) w'):o.wp P a w next Q:=by
 obtain⟨dst,op,oty,pos,after,guard⟩:=o;simp only at hput hK ⊢;unfold nZ at hput;split at hput
 ·rename_i t' e' x' e0 k0 hel;cases hq:(Nat.beq e' e0&&(Nat.blt e0 100000&&Nat.blt p.d 100000));·rw[hq]at hput;cases hput
  rw[hq]at hput;simp only[cond_true,Option.some.injEq,Prod.mk.injEq]at hput;obtain⟨rfl,rfl,rfl,rfl⟩:=hput;simp only[Bool.and_eq_true]at hq;obtain rfl:=Nat.eq_of_beq_eq_true hq.1;obtain⟨⟨row,pp⟩,hE⟩:=hpin p rfl (by simpa using hq.2.2);obtain⟨hk0,g,m,c,hv,hkm,hptr⟩:=hE _ _ hel;unfold n9 at hr;rw[pp.hrow]at hr;simp only at hr;split at hr
  ·rename_i row1 ti kk mm hr0 ht hx;injection hr0 with hr0;subst hr0;cases hq2:Nat.beq ti.zero.length 1;·rw[hq2]at hr;cases hr
   rw[hq2]at hr;have hsz1:=Nat.eq_of_beq_eq_true hq2;simp only[cond_true]at hr;split at hr
   ·rename_i es k' ys hg;cases hq3:gk kk k';·rw[hq3]at hr;cases hr
    rw[hq3]at hr;obtain rfl:=lh hq3;simp only[cond_true]at hr;split at hr
    ·rename_i x1 hset;obtain⟨L,o1,o2,o3,o4⟩:=rq h pp hg;rw[hv]at o1 o4;obtain⟨w',g1,g2,g3,g4,g5,g6,g7,g8⟩:=DI (P:=P) o1 (k:=k0.toNat) (by omega) mm;have hxv:a.eval x'=.int kk mm:=by have:=aJ h x';rw[hx]at this;exact this
     obtain⟨f1,W⟩:=o4 g2 hset o2 (λk hk=>.inl hk) (λk hk hkL=>g4 k λe=>hkL (e▸g3));have hrun:(execOp a.eval ⟨none,.store t' (.tmp e') x',oty,pos,after,guard⟩).run P w=.ok .skip w':=by have hs:=nF hT ht (v:=.int kk mm) (by rw[hsz1];rfl) (g:=g) (o:=k0.toNat) (w:=w) (w':=w') g1;simp[execOp,hptr,hxv,hs]
     unfold Oper.wp;rw[hrun]
     classical
     let E':aA:=⟨λk=>if k∈L then f1 k else E.lab k,E.rv,E.bb⟩;refine hK _ E' undef w' hr ?_;show R w0 lab0 oo n _ E' a w';refine R.called (E':=E') (qs:=[p.r]) h (λj hj hsp=>?_) ⟨g6,g7,g8⟩ (by omega) rfl (λq row2 hrow=>?_) (λq row2 hrow=>?_);·have hjL:j∉L:=λhl=>hsp p.r (by simp) (.inr (o3 j hl));exact⟨g4 j λe=>hjL (e▸g3),if_neg hjL⟩
     ·by_cases hm:q∈[p.r];·obtain⟨ro,row',w1,w2,w3,w4,_⟩:=W.row q hm;rw[hrow]at w1;injection w1 with w1;subst w1;exact⟨row',w2,rfl,by rw[w3],by omega⟩
      ·exact⟨row2,by rw[W.other q hm];exact hrow,rfl,rfl,Nat.le_refl _⟩
     ·by_cases hm:q∈[p.r];·obtain⟨ro,row',w1,w2,w3,w4,w5⟩:=W.row q hm;rw[hrow]at w2;injection w2 with w2;subst w2;exact .inr (w5 E'.lab (λk hk=>if_pos hk) (λk _ _ hk=>if_neg hk))
      ·rw[W.other q hm]at hrow;exact .inl ⟨hm,hrow⟩
    ·cases hr
   ·cases hr
  ·cases hr
 ·cases hput
def wB(hT:aG P T)(h:R w0 lab0 oo n U E a w){o:Oper}{p p':cr}(hp:nY T U p o.op o.dst=some p')(hd:∀d,o.dst=some d->d<n)(hpin:eQ U E a w (some p)){c:Bool}{s:SV}(hv:bB T U o.op=some (c,s))(hc:c=true) :
  ∃v,(execOp a.eval o).run P w=.ok (.value v) w/\av U E w s v/\eQ (dv U o.dst s) E (a.put o.dst v) w (some p'):=by
 obtain⟨v,h1,h2⟩:=g9 hT h hv hc;refine⟨v,h1,h2, ?_⟩;obtain⟨dst,op,oty,pos,after,guard⟩:=o;simp only at hp hd h1 hv ⊢;unfold nY at hp;split at hp
 ·rename_i t d i e;cases hq:(Nat.beq d p.d&&(Nat.blt d 100000&&!(Nat.beq e d)));·rw[hq]at hp;cases hp
  rw[hq]at hp;simp only[Bool.and_eq_true,Bool.not_eq_true']at hq;obtain rfl:=Nat.eq_of_beq_eq_true hq.1;have hdlt:p.d<100000:=by simpa using hq.2.1
  have hne:e≠p.d:=λhe=>by rw[he,Nat.beq_refl]at hq;cases hq.2.2
  simp only[cond_true]at hp;split at hp
  ·rename_i e2 t2 xs q kk k ti hdc hic ht;split at hp
   ·rename_i el hel;split at hp
    ·rename_i ei row hei hrow;cases hz:Nat.beq ei.zero.length 1;·rw[hz]at hp;cases hp
     rw[hz]at hp;have hz1:=Nat.eq_of_beq_eq_true hz;simp only[cond_true]at hp;split at hp
     ·rename_i e3 k3 ys hg;injection hp with hp;subst hp;obtain⟨⟨row',pp⟩,_⟩:=hpin p rfl hdlt;have:row'=row:=by have:=pp.hrow;rw[hrow]at this;injection this with this;exact this.symm
      subst this;have hen:=hd e rfl;have hevd:(a.put (some e) v).eval (.tmp p.d)=a.eval (.tmp p.d):=by show(a.tmps.setIfInBounds e v).getD p.d undef=a.tmps.getD p.d undef;rw[jN _ _ _ _ (by rw[h.size];exact hen),if_neg (Ne.symm hne)]
      have heve:(a.put (some e) v).eval (.tmp e)=v:=by show(a.tmps.setIfInBounds e v).getD e undef=v;rw[jN _ _ _ _ (by rw[h.size];exact hen),if_pos rfl]
      obtain⟨L,o1,_,_,_⟩:=rq h pp hg;obtain⟨v0,css,Ls,hvv,h3,_,_⟩:=o1;injection hvv with hvv;have rx:=aJ h (.tmp p.d);rw[hdc]at rx;have ri:=aJ h i;rw[hic]at ri;have ri:a.eval i=.int kk k:=ri;obtain⟨A,m,c2,ev1,ev2,_⟩:=(show ae U E w (.sn e2 t2 xs q) (a.eval (.tmp p.d))from rx);injection ev1 with ev1;have hchk:0<=k/\k<(xs.length:Int):=by
       simp only[bB,ht,hdc,hic,hel,hei]at hv;simp only[qg,ab.weak,ld]at hv;cases hb:Nat.beq t2.nc ei.zero.length;·rw[hb]at hv;cases hv
       ·rw[hb]at hv;simp only[cond_true,Option.some.injEq,Prod.mk.injEq]at hv;rw[<-hv.1]at hc;simpa using hc
      have hsl:∃g c3,a.eval (.tmp p.d)=.slice (some ⟨g,0,none⟩) m c3:=by
       rcases h3.2 with⟨h0,h00⟩|⟨g,cap,cur,e0,_⟩;·rw[<-hvv,ev1]at h0;injection h0 with q1 q2 q3;omega
       ·rw[<-hvv,ev1]at e0;injection e0 with q1 q2 q3;subst q1;exact⟨g,c2,ev1⟩
      obtain⟨g,c3,hsl⟩:=hsl;have hu:=eH hT ht hel;have hs:=iS hT hei;have hvp:v=.pointer (some ⟨g,k.toNat,none⟩):=by
       have hm:k<(m:Int):=by omega
       have:(execOp a.eval ⟨some e,.indexAddr t (.tmp p.d) i,oty,pos,after,guard⟩).run P w=.ok (.value (.pointer (some ((⟨g,0,none⟩:Addr).add (k.toNat*ei.zero.length))))) w:=by simp[execOp,hsl,ri,Instr.indexAt,run_underlying hu,asIntOf,hchk.1,hm,hs]
       rw[this]at h1;injection h1 with h1;injection h1 with h1;rw[<-h1,add_lit,hz1];simp
      intro p1 hp1 hlt1;injection hp1 with hp1;subst hp1;refine⟨⟨row', ?_⟩,λe1 k1 he1=>?_⟩;·show nR _ E w p.r p.i p.f row' ((a.put (some e) v).eval (.tmp p.d));rw[hevd];exact⟨pp.hrow,pp.deep,pp.i0,pp.lt,pp.cell⟩
      ·injection he1 with he1;injection he1 with he1 he2;subst he1 he2;refine⟨hchk.1,g,m,c3, ?_,by omega,by rw[heve];exact hvp⟩;show(a.put (some e) v).eval (.tmp p.d)=_;rw[hevd];exact hsl
     ·cases hp
    ·cases hp
   ·cases hp
  ·cases hp
 ·cases hp
def kq(hT:aG P T)(hΓ:jq P w0 lab0 Γ)(hops:jp n ops=true){Q:Exit->Act->World->Prop}{K:St->Option J}{r:J}
  (hK:∀U' E' a' w',K U'=some r->R w0 lab0 oo n U' E' a' w'->Q .normal a' w') :
  ∀(is:List Nat) {pin:Option cr}{U:St}{E:aA}{a:Act}{w:World},R w0 lab0 oo n U E a w->eQ U E a w pin->ii Γ T N ops is pin U K=some r->wpOps P ops Q is a w
 |[],pin,U,E,a,w,h,_,hr=>hK U E a w hr h
 |i::rest,pin,U,E,a,w,h,hpin,hr=>by
  have nopin:∀{U:St}{E:aA}{a:Act}{w:World},eQ U E a w none:=λp hp=>by cases hp
  rw[wpOps_cons];simp only[ii]at hr;split at hr
  ·rename_i o ho;split at hr;·refine sb h hops ho hr (λU' h' hF hw=>kp ho hw ?_) (λU' h' hr' hw=>ww ho hw (kq hT hΓ hops hK rest h' nopin hr'));exact wv hT hΓ h' (eP hops ho) hF λσ2 E2 v w2 hr2 h2 _=>kq hT hΓ hops hK rest h2 nopin hr2
   ·rename_i p hm;split at hr
    ·rename_i c s hv;rw[rY,rZ]at hr;cases c;·cases hr
     simp only[cond_true]at hr;obtain⟨hg,v,h1,h2,h3⟩:o.guard=none/\∃v,(execOp a.eval o).run P w=.ok (.value v) w/\av U E w s v/\eQ (dv U o.dst s) E (a.put o.dst v) w (some p):=by
      unfold oa at hm;split at hm;·rename_i p' hp';injection hm with hm;subst hm;exact wy hT h hp' (eP hops ho) hv rfl
      ·split at hm;·cases hm
       ·rename_i p' ;split at hm;·cases hm
        ·rename_i hg;split at hm
         ·split at hm;·rename_i en _;cases hq:(kj p'.d (d6 en.sig.ps _)&&cM en.sig.ps)<;>rw[hq]at hm<;>cases hm
          ·cases hm
         ·split at hm;·rename_i p2 hel;injection hm with hm;subst hm;obtain⟨v,h1,h2,h3⟩:=wB hT h hel (eP hops ho) hpin hv rfl;exact⟨hg,v,h1,h2,h3⟩
          split at hm;·cases hm
          cases hq:(fD o.op&&(fC p'.d o.dst&&ig p' o.dst));·rw[hq]at hm;cases hm
          rw[hq]at hm;injection hm with hm;subst hm;simp only[Bool.and_eq_true]at hq;obtain⟨v,h1,h2⟩:=g9 hT h hv rfl;refine⟨hg,v,h1,h2,λp hp hlt=>?_⟩;obtain⟨⟨row,k1,k2,k3,k4,k5⟩,hE⟩:=hpin p hp hlt;injection hp with hp;subst hp;have keep:∀z,fC z o.dst=true->(a.put o.dst v).eval (.tmp z)=a.eval (.tmp z):=by
           intro z hz;cases hdst:o.dst with
           |none=>rfl
           |some e =>
            have he:=eP hops ho e hdst;rw[hdst]at hz;show(a.tmps.setIfInBounds e v).getD z undef=a.tmps.getD z undef;rw[jN _ _ _ _ (by rw[h.size];exact he),if_neg];rintro rfl
            simp[fC]at hz
          refine⟨⟨row,⟨?_,k2,k3,k4, ?_⟩⟩,λe k he=>?_⟩;rotate_left 2
          ·obtain⟨q1,g,m,c,q2,q3,q4⟩:=hE e k he;refine⟨q1,g,m,c,by rw[keep _ hq.2.1];exact q2,q3, ?_⟩;rw[keep _ (by have:=hq.2.2;unfold ig at this;rw[he]at this;exact this)];exact q4
          ·cases hdst:o.dst<;>exact k1
          ·rw[keep _ hq.2.1];exact k5
     refine kp ho (by simp[Region.wanted,hg]) ?_;unfold Oper.wp;rw[h1];exact kq hT hΓ hops hK rest (h.iput (eP hops ho) h2) h3 hr
    ·cases hr
   ·rename_i p f args hm;unfold oa at hm;split at hm;·cases hm
    ·split at hm;·cases hm
     ·rename_i p';split at hm;·cases hm
      ·rename_i hg;split at hm
       ·rename_i f' args' hcall;split at hm
        ·rename_i en hen;cases hq:(kj p'.d (d6 en.sig.ps args')&&cM en.sig.ps);·rw[hq]at hm;cases hm
         rw[hq]at hm;injection hm with e1 e2 e3;subst e1 e2 e3;simp only[Bool.and_eq_true]at hq;refine kp ho (by simp[Region.wanted,hg]) ?_;exact DH hT hΓ h (eP hops ho) hcall hen hq.1 hq.2 hpin hr λU' E' v w' hr' h'=>kq hT hΓ hops hK rest h' nopin hr'
        ·cases hm
       ·split at hm;·cases hm
        split at hm;·cases hm
        ·cases hq:(fD o.op&&(fC p'.d o.dst&&ig p' o.dst))<;>rw[hq]at hm<;>cases hm
   ·rename_i p e k t x hm;unfold oa at hm;split at hm;·cases hm
    ·split at hm;·cases hm
     ·rename_i p';split at hm;·cases hm
      ·rename_i hg;split at hm
       ·split at hm;·rename_i en _;cases hq:(kj p'.d (d6 en.sig.ps _)&&cM en.sig.ps)<;>rw[hq]at hm<;>cases hm
        ·cases hm
       ·split at hm;·cases hm
        split at hm;·rename_i e1 k1 t1 x1 hput;injection hm with q1 q2 q3 q4 q5;subst q1 q2 q3 q4 q5;refine kp ho (by simp[Region.wanted,hg]) ?_;exact wz hT h hput hpin hr λU' E' v w' hr' h'=>kq hT hΓ hops hK rest h' nopin hr'
        ·cases hq:(fD o.op&&(fC p'.d o.dst&&ig p' o.dst))<;>rw[hq]at hm<;>cases hm
  ·cases hr
def NP(Q:Exit->Act->World->Prop):Prop:=∀c a a' w,Q (.panic c) a w->Q (.panic c) a' w
def sc{f:Nat->Bool}{i:Nat}:∀{l:List Nat},ob f l=some i->i∈l/\f i=true
 |[],h=>by cases h
 |j::l,h=>by
  simp only[ob]at h;cases hb:f j;·rw[hb]at h;exact⟨List.mem_cons_of_mem _ (sc h).1,(sc h).2⟩
  ·rw[hb]at h;injection h with h;subst h;exact⟨List.mem_cons_self,hb⟩
def wC(hT:aG P T)(h:R w0 lab0 oo n U E a w){o:Oper}{pin:Option cr}(hd:∀d,o.dst=some d->d<n)(hpin:o.guard=none->eQ U E a w pin){c:Bool}{s:SV}(hv:bB T U o.op=some (c,s))(hc:c=true)
  {v:Value} (h1:(execOp a.eval o).run P w=.ok (.value v) w):eQ (dv U o.dst s) E (a.put o.dst v) w (r8 T U o pin):=by
 have nopin:∀{U:St}{E:aA}{a:Act}{w:World},eQ U E a w none:=λp hp=>by cases hp
 have same:∀{v'},(execOp a.eval o).run P w=.ok (.value v') w->v'=v:=λ{v'} h2=>by rw[h1]at h2;injection h2 with h2;injection h2 with h2;exact h2.symm
 unfold r8;split;·rename_i p hp;obtain⟨_,v',k1,_,k2⟩:=wy hT h hp hd hv hc;obtain rfl:=same k1;exact k2
 ·split
  ·rename_i p hg;have hpin:=hpin hg;split;·rename_i p' hp';obtain⟨v',k1,_,k2⟩:=wB hT h hp' hd hpin hv hc;obtain rfl:=same k1;exact k2
   ·cases hq:(fC p.d o.dst&&ig p o.dst);·exact nopin
    ·simp only[Bool.and_eq_true]at hq;intro p' hp' hlt;injection hp' with hp';subst hp';obtain⟨⟨row,k1,k2,k3,k4,k5⟩,hE⟩:=hpin p rfl hlt;have keep:∀z,fC z o.dst=true->(a.put o.dst v).eval (.tmp z)=a.eval (.tmp z):=by
      intro z hz;cases hdst:o.dst with
      |none=>rfl
      |some e =>
       have he:=hd e hdst;rw[hdst]at hz;show(a.tmps.setIfInBounds e v).getD z undef=a.tmps.getD z undef;rw[jN _ _ _ _ (by rw[h.size];exact he),if_neg];rintro rfl
       simp[fC]at hz
     refine⟨⟨row,⟨?_,k2,k3,k4, ?_⟩⟩,λe k he=>?_⟩;·cases hdst:o.dst<;>exact k1
     ·rw[keep _ hq.1];exact k5
     ·obtain⟨q1,g,m,c,q2,q3,q4⟩:=hE e k he;refine⟨q1,g,m,c,by rw[keep _ hq.1];exact q2,q3, ?_⟩;rw[keep _ (by have:=hq.2;unfold ig at this;rw[he]at this;exact this)];exact q4
  ·exact nopin
def ik(hT:aG P T)(hΓ:jq P w0 lab0 Γ)(hops:jp n ops=true)(hsel:Region.noSelect ops=true){Q:Exit->Act->World->Prop}(hQ:NP Q){K:St->Option J}{r:J}
  (hK:∀U' E' a' w',K U'=some r->R w0 lab0 oo n U' E' a' w'->Q .normal a' w') :
  ∀(fuel:Nat) (listed:Array Bool) {pin:Option cr}{U:St}{E:aA}{a:Act}{w:World},fw ops listed->R w0 lab0 oo n U E a w->eQ U E a w pin->gw Γ T N ops fuel listed pin U K=some r->ef P ops (ij Γ ops) Q fuel listed a w
 |0,listed,pin,U,E,a,w,hcl,h,hpin,hr=>by
  simp only[gw]at hr;cases hq:(Region.ready .any ops listed).isEmpty;·rw[hq]at hr;cases hr
  ·rw[hq]at hr;exact⟨by simpa using hq,hK U E a w hr h⟩
 |fuel+1,listed,pin,U,E,a,w,hcl,h,hpin,hr=>by
  have nopin:∀{U:St}{E:aA}{a:Act}{w:World},eQ U E a w none:=λp hp=>by cases hp
  simp only[gw]at hr;split at hr;·rename_i hre;exact Df hre (hK U E a w hr h) _
  ·rename_i i0 rs hre;split at hr
   ·rename_i i hi;obtain⟨hmem,hfs⟩:=sc hi;rw[<-hre]at hmem;split at hr
    ·rename_i o ho;obtain⟨hfree,hH⟩:Region.free .any ops listed i=true/\ij Γ ops i=false:=by unfold wt at hfs;rw[ho]at hfs;simp only[Bool.and_eq_true,Bool.not_eq_true']at hfs;exact⟨hfs.2.1,hfs.2.2⟩
     refine DF h hops ho hr (λU' h' hsame hF hw=>?_) (λU' h' hr' hw=>?_)
     ·unfold wr at hF;split at hF
      ·rename_i c s hv;rw[rY,rZ]at hF;cases hso:qW o.op s;·rw[hso]at hF;cases hF
       ·rw[hso]at hF;cases c;·cases hF
        ·cases hpo:ja o.op;·obtain⟨v,h1,h2⟩:=Da hT h' hv rfl hso;exact vG hH ho hpo hsel hcl hfree hmem (λc a' w' hq=>hQ c _ _ _ hq) (.inl ⟨hw,h1⟩) (ik hT hΓ hops hsel hQ hK fuel _ (hcl.put hmem) (h'.iput (eP hops ho) h2) (wC hT h' (eP hops ho) (λhg=>by have:=hsame hg;subst this;exact hpin) hv rfl (h1 w (aV.refl w))) hF)
         ·obtain⟨v,h1,h2⟩:=Db hT h' hv rfl hpo;exact vH ho hsel hfree hmem (λc a' w' hq=>hQ c _ _ _ hq) (.inl ⟨hw,λw' _=>h1 w'⟩) (ik hT hΓ hops hsel hQ hK fuel _ (hcl.put hmem) (h'.iput (eP hops ho) h2) (wC hT h' (eP hops ho) (λhg=>by have:=hsame hg;subst this;exact hpin) hv rfl (h1 w)) hF)
      ·cases hF
     ·cases hpo:ja o.op;·exact vG hH ho hpo hsel hcl hfree hmem (λc a' w' hq=>hQ c _ _ _ hq) (.inr ⟨hw,rfl⟩) (ik hT hΓ hops hsel hQ hK fuel _ (hcl.put hmem) h' nopin hr')
      ·exact vH ho hsel hfree hmem (λc a' w' hq=>hQ c _ _ _ hq) (.inr ⟨hw,rfl⟩) (ik hT hΓ hops hsel hQ hK fuel _ (hcl.put hmem) h' nopin hr')
    ·cases hr
   ·refine⟨(λhe=>by rw[hre]at he;cases he),λi hi=>?_⟩;rw[hre]at hi;have hr:=wm hr i hi;split at hr
    ·rename_i o ho;cases hq:(ey Γ o||fP ops (ij Γ ops) i);·rw[hq]at hr;cases hr
     ·rw[hq]at hr;simp only[cond_true]at hr;have hext:∀{w'},(ey Γ o=true->aV w w')->fP ops (ij Γ ops) i=false->aV w w':=λh1 h2=>h1 (by simpa[h2]using hq);split at hr
      ·rename_i p e k t x hput;cases hlb:fP ops (ij Γ ops) i;·rw[hlb]at hr;cases hr
       rw[hlb]at hr;simp only[cond_true]at hr;unfold wu at hput;split at hput
       ·rename_i p' hg;split at hput;·rename_i y hy;injection hput with hput;injection hput with q1 q2;subst q1 q2;refine kp ho (by simp[Region.wanted,hg]) ?_;exact wz hT h hy hpin hr λU' E' v w' hr' h'=>⟨(λhlf=>by cases hlf),ik hT hΓ hops hsel hQ hK fuel _ (hcl.put (by rw[hre];exact hi)) h' nopin hr'⟩
        ·cases hput
       ·cases hput
      refine sb h hops ho hr (λU' h' hF hw=>kp ho hw ?_) (λU' h' hr' hw=>ww ho hw ⟨λ_=>aV.refl w,ik hT hΓ hops hsel hQ hK fuel _ (hcl.put (by rw[hre];exact hi)) h' nopin hr'⟩);exact wv hT hΓ h' (eP hops ho) hF λσ2 E2 v w2 hr2 h2 h3=>⟨hext h3,ik hT hΓ hops hsel hQ hK fuel _ (hcl.put (by rw[hre];exact hi)) h2 nopin hr2⟩
    ·cases hr
def DJ(hT:aG P T)(hΓ:jq P w0 lab0 Γ)(hm:P.follows .mixedOrders=true)(hops:jp n ops=true){Q:Exit->Act->World->Prop}(hQ:NP Q){K:St->Option J}{r:J}{id:Nat}{draw:Bool}
  (hK:∀U' E' a' w',K U'=some r->R w0 lab0 oo n U' E' a' w'->Q .normal a' w') (h:R w0 lab0 oo n U E a w) (hr:r9 Γ T N ops draw U K=some r):(Code.region id ops draw).wp P Q a w:=by
 unfold r9 at hr;cases draw;·exact wp_region (kq hT hΓ hops hK _ h (λp hp=>by cases hp) hr)
 ·simp only[cond_true]at hr;cases hsel:Region.noSelect ops;·rw[hsel]at hr;cases hr
  ·rw[hsel]at hr;refine wp_region_any hm (vE _ _ _ _ (ik hT hΓ hops hsel hQ hK _ _ fw.none (h.ext ?_) (λp hp=>by cases hp) hr));exact⟨rfl,⟨rfl,λ_=>Nat.le_succ _⟩,rfl,Nat.le_refl _,λ_ _=>rfl⟩
end
def au{α:Type}:List (Nat×α)->Nat->Option α
 |[],_=>none
 | (k,v)::l,t=>cond (Nat.beq t k) (some v) (au l t)
structure dI where
 bx:Bool
 k:Nat
 i:Nat
structure lQ where
 loc:dI
 nm:Nat
 e:Nat
 t:Ty
 deep:Bool
structure aa where
 slots:List Nat
 boxes:List Nat
 nils:List lQ
 frz:List (dI×Nat×Ty)
 rows:List (dI×Nat)
def jr(U:St)(l:dI):Option ab :=
 cond l.bx (match U.box l.k with
  |some (_,cs)=>cs[l.i]?
  |none=>none)
 (match U.slot l.k with
  |.c x=>cond (Nat.beq l.i 0) (some x) none
  |.agg cs=>cs[l.i]?
  |.tup _=>none)
def og(U:St)(l:dI)(c:ab):St :=
 cond l.bx (match U.box l.k with
  |some (te,cs)=>⟨U.slot,ai U.box l.k (some (te,cs.set l.i c)),U.row⟩
  |none=>U)
 (match U.slot l.k with
  |.c _=>U.put l.k (.c c)
  |.agg cs=>U.put l.k (.agg (cs.set l.i c))
  |.tup _=>U)
def wD(U:St)(t r:Nat)(row:ah)(m:Nat):St :=
 ⟨ai (λt'=>(U.slot t').map (cH [r])) t (.c (.own r)),λb=>fT [r] (U.box b),ai U.row r (some ⟨row.e,row.t,row.xs.take m,row.deep,false⟩)⟩
def sd(U:St)(bx:Bool)(t:Nat):Option St:=cond bx (some U) (match U.slot t with
 |.c (.part r (.ofNat 0) m)=>match U.row r with
  |some row=>some (wD U t r row m.toNat)
  |none=>none
 |_=>some U)
def se(U:St)(d:lQ):Option St:=match jr U d.loc with
 |some (.part _ _ _)=>sd U d.loc.bx d.loc.k
 |some .nil=>match U.row d.nm with
  |none=>some (og (U.withRow (ai U.row d.nm (some ⟨d.e,d.t,[],d.deep,true⟩))) d.loc (.own d.nm))
  |some _=>none
 |some (.own r)=>match U.row r with
  |some row=>match nC row d.deep with
   |some row'=>some { U with row:=ai U.row r (some row') }
   |none=>some U
  |none=>some U
 |_=>some U
def oh:List lQ->St->Option St
 |[],U=>some U
 |d::ds,U=>match se U d with
  |some U'=>oh ds U'
  |none=>none
def sf(U:St)(d:dI×Nat×Ty):Option St:=match jr U d.1 with
 |some (.own r)=>absorb r none U
 |some .nil=>some (og U d.1 (.sn d.2.1 d.2.2 [] none))
 |_=>some U
def ol:List (dI×Nat×Ty)->St->Option St
 |[],U=>some U
 |d::ds,U=>match sf U d with
  |some U'=>ol ds U'
  |none=>none
def wE(U:St):List (dI×Nat)->Option (List (Nat×Nat))
 |[]=>some []
 | (l,q)::ls=>match jr U l,wE U ls with
  |some (.own r),some m=>some ((r,q)::m)
  |_,_=>none
def eZ(m:List (Nat×Nat))(f:Nat->ab)(r:Nat):ab:=match au m r with
 |some q=>f q
 |none=>.undef
def dR(m:List (Nat×Nat))(bs:List Nat):ab->ab
 |.own r=>eZ m .own r
 |.part r lo n=>eZ m (λq=>.part q lo n) r
 |.elt r i f=>eZ m (λq=>.elt q i f) r
 |.sn e t xs (some r)=>eZ m (λq=>.sn e t xs (some q)) r
 |.full e t xs (some r)=>eZ m (λq=>.full e t xs (some q)) r
 |.selt t x (some r) f=>eZ m (λq=>.selt t x (some q) f) r
 |.box b f=>cond (aR b bs) (.box b f) .undef
 |.mp b=>cond (aR b bs) (.mp b) .undef
 |.fn f caps=>cond (caps.all λp=>aR p.1 bs) (.fn f caps) .undef
 |c=>c
def sg(q:Nat):Bool:=Nat.ble 1000000000 q
def jt(q:Nat)(row:ah):ah:=⟨row.e,row.t,row.xs,row.deep,sg q&&row.nilE⟩
def om(U:St)(f:ab->ab):List Nat->Option (List (Nat×(Nat×List ab)))
 |[]=>some []
 |b::bs=>match U.box b,om U f bs with
  |some (te,cs),some l=>some ((b,(te,cs.map f))::l)
  |_,_=>none
def ks(U:St):List (Nat×Nat)->Option (List (Nat×ah))
 |[]=>some []
 | (r,q)::m=>match U.row r,ks U m with
  |some row,some l=>some ((q,jt q row)::l)
  |_,_=>none
def dS(sl:List (Nat×SV))(t:Nat):SV:=match au sl t with
 |some s=>s
 |none=>.c .undef
def al(sl:List (Nat×SV))(bx:List (Nat×(Nat×List ab)))(rw:List (Nat×ah)):St:=⟨dS sl,au bx,au rw⟩
def lR(U:St)(f:ab->ab):List Nat->List (Nat×SV)
 |[]=>[]
 |t::ts=>(t,(U.slot t).map f)::lR U f ts
def eR(cl:aa)(U:St):Option St:=match(oh cl.nils U).bind (ol cl.frz)with
 |some σ1=>match wE σ1 cl.rows with
  |some m=>cond (cF (m.map (·.1))&&cF (m.map (·.2))) (match om σ1 (dR m cl.boxes) cl.boxes,ks σ1 m with
   |some bx,some rw=>some (al (lR σ1 (dR m cl.boxes) cl.slots) bx rw)
   |_,_=>none) none
  |none=>none
 |none=>none
section
variable {P : Program} {U U' : St} {E E' : aA} {w w' : World} {w0 : World} {lab0 : Nat → an} {oo : Nat → Value} {n : Nat} {a : Act} [DC]
def R.reslot(h:R w0 lab0 oo n U E a w){t:Nat}{s:SV}(hs:∀v,av U E w (U.slot t) v->av U E w s v):R w0 lab0 oo n (U.put t s) E a w:=by
 have m:bC U E w (U.put t s) E w:=bC.same rfl rfl;refine⟨h.bound,h.size,h.defers,λt'=>?_,λb te cs hb=>?_,h.rows,h.same⟩
 ·by_cases e:t'=t;·subst e;show av _ _ _ (ai U.slot t' s t') _;rw[aD];exact(hs _ (h.slots t')).move m
  ·show av _ _ _ (ai U.slot t s t') _;rw[aH _ _ e];exact(h.slots t').move m
 ·obtain⟨arr,h1,h2,h3,h4⟩:=h.boxes b te cs hb;exact⟨arr,h1,h2,h3.imp λ_ _ h=>h.move m,h4⟩
def R.rebox(h:R w0 lab0 oo n U E a w){b te:Nat}{cs cs':List ab}(hb:U.box b=some (te,cs))(hl:cs'.length=cs.length)(hs:∀vs,ac (ae U E w) cs vs->ac (ae U E w) cs' vs) :
  R w0 lab0 oo n ⟨U.slot,ai U.box b (some (te,cs')),U.row⟩ E a w:=by
 have m:bC U E w ⟨U.slot,ai U.box b (some (te,cs')),U.row⟩ E w:=by
  refine⟨λr row h=>⟨row,h,rfl,rfl,Nat.le_refl _⟩,λb' te' cs0 hb'=>?_,λ_ _ _ h1 h2=>⟨h1,h2⟩,λ_ _ _ _ h=>h⟩;by_cases e:b'=b;·subst e;rw[hb]at hb';injection hb' with hb';injection hb' with e1 e2;subst e1 e2;exact⟨te,cs',aD _ _ _,rfl,hl⟩
  ·exact⟨te',cs0,(aH _ _ e).trans hb',rfl,rfl⟩
 refine⟨h.bound,h.size,h.defers,λt'=>(h.slots t').move m,λb' te' cs0 hb'=>?_,h.rows,h.same⟩;by_cases e:b'=b;·subst e;have hb':ai U.box b' (some (te,cs')) b'=some (te',cs0):=hb';rw[aD]at hb';injection hb' with hb';injection hb' with e1 e2;subst e1 e2;obtain⟨arr,h1,h2,h3,h4⟩:=h.boxes b' te cs hb;exact⟨arr,h1,h2,(hs _ h3).imp λ_ _ h=>h.move m,h4⟩
 ·have hb':ai U.box b (some (te,cs')) b'=some (te',cs0):=hb';rw[aH _ _ e]at hb';obtain⟨arr,h1,h2,h3,h4⟩:=h.boxes b' te' cs0 hb';exact⟨arr,h1,h2,h3.imp λ_ _ h=>h.move m,h4⟩
def ac.reset{Q:ab->Value->Prop}{c c':ab}(hs:∀v,Q c v->Q c' v):∀{cs:List ab}{vs:List Value}{i:Nat},cs[i]? = some c->ac Q cs vs->ac Q (cs.set i c') vs
 |[],_,_,h,_=>by simp at h
 |x::cs,[],_,_,h=>h.elim
 |x::cs,v::vs,0,h,h2=>by simp at h;subst h;exact⟨hs _ h2.1,h2.2⟩
 |x::cs,v::vs,i+1,h,h2=>⟨h2.1,ac.reset hs (by simpa using h) h2.2⟩
def R.resetAt(h:R w0 lab0 oo n U E a w){l:dI}{c c':ab}(hc:jr U l=some c)(hs:∀v,ae U E w c v->ae U E w c' v):R w0 lab0 oo n (og U l c') E a w:=by
 obtain⟨bx,k,i⟩:=l;unfold jr at hc;unfold og;cases bx
 ·simp only[cond_false]at hc ⊢;split at hc
  ·rename_i x hx;cases hi:Nat.beq i 0;·rw[hi]at hc;cases hc
   ·rw[hi]at hc;injection hc with hc;subst hc;exact h.reslot λv hv=>by rw[hx]at hv;exact hs v hv
  ·rename_i cs hx;refine h.reslot λv hv=>?_;rw[hx]at hv;obtain⟨arr,e,hv⟩:=hv;exact⟨arr,e,hv.reset hs hc⟩
  ·cases hc
 ·simp only[cond_true]at hc ⊢;split at hc;·rename_i te cs hx;exact h.rebox hx (by simp) λvs hv=>hv.reset hs hc
  ·cases hc
def R.reslotV(h:R w0 lab0 oo n U E a w){t:Nat}{s:SV}(hs:av U E w s (bX oo a t)):R w0 lab0 oo n ⟨ai U.slot t s,U.box,U.row⟩ E a w:=by
 have m:bC U E w ⟨ai U.slot t s,U.box,U.row⟩ E w:=bC.same rfl rfl;refine⟨h.bound,h.size,h.defers,λt'=>?_,λb te cs hb=>?_,h.rows,h.same⟩
 ·by_cases e:t'=t;·subst e;show av _ _ _ (ai U.slot t' s t') _;rw[aD];exact hs.move m
  ·show av _ _ _ (ai U.slot t s t') _;rw[aH _ _ e];exact(h.slots t').move m
 ·obtain⟨arr,h1,h2,h3,h4⟩:=h.boxes b te cs hb;exact⟨arr,h1,h2,h3.imp λ_ _ h=>h.move m,h4⟩
def wF{k:Nat}:∀(css:List (List Value)) (m:Nat),(∀c∈css,c.length=k)->(css.take m).flatten=css.flatten.take (m*k)
 |[],m,_=>by simp
 |c::css,0,_=>by simp
 |c::css,m+1,h=>by have e:=h c List.mem_cons_self;rw[List.take_succ_cons,List.flatten_cons,List.flatten_cons,wF css m λc hc=>h c (List.mem_cons_of_mem _ hc),List.take_append,List.take_of_length_le (l:=c) (by rw[e,Nat.add_mul];omega),e,show(m+1)*k-k=m*k by rw[Nat.add_mul];omega]
def az.take{α β γ:Type}{Q:α->β->γ->Prop}:∀{as:List α}{bs:List β}{cs:List γ},az Q as bs cs->∀n,az Q (as.take n) (bs.take n) (cs.take n)
 |_,_,_,_,0=>by simp only[List.take_zero];trivial
 |[],[],[],_,_+1=>trivial
 |_::_,_::_,_::_,h,n+1=>⟨h.1,az.take h.2 n⟩
def wG{t:Ty}{w:World}{S:Nat->Prop}:∀{css:List (List Value)}{xs:List t.den},ac (λc y=>Rd w S t c y) css xs->∀c∈css,c.length=t.nc
 |[],[],_,_,hc=>by cases hc
 |c::css,x::xs,h,c',hc=>by
  rcases List.mem_cons.1 hc with rfl|hc;·exact h.1.len
  ·exact wG h.2 c' hc
def wH{t:Ty}{w:World}:∀{Ls:List (List Nat)}{css:List (List Value)}{xs:List t.den},az (λl c y=>am w t l c y) Ls css xs->∀c∈css,c.length=t.nc
 |[],[],[],_,_,hc=>by cases hc
 |l::Ls,c::css,x::xs,h,c',hc=>by
  rcases List.mem_cons.1 hc with rfl|hc;·exact h.1.len
  ·exact wH h.2 c' hc
def DK{w:World}{base n e size m0 c:Nat}{A:Option Addr}{xs:List Value}(h:w.ownsRow base e size (.slice A m0 c) n xs){m:Nat}(hm:m<=n):w.ownsRow base e size (.slice A m c) m (xs.take (m*size)):=by
 refine⟨by rw[List.length_take,h.1];exact Nat.min_eq_left (Nat.mul_le_mul_right _ hm), ?_⟩;rcases h.2 with⟨e1,h0⟩|⟨g,cap,cur,e1,h1,h2,h3,h4,h5,h6⟩
 ·injection e1 with e1 e2 e3;subst e1 e3;have:m=0:=by omega
  subst this;exact .inl ⟨rfl,rfl⟩
 ·injection e1 with e1 e2 e3;subst e1 e3;refine .inr ⟨g,_,cur,rfl,h1,h2,by omega,h4,h5, ?_⟩;rw[<-h6,List.take_take,Nat.min_eq_left (Nat.mul_le_mul_right _ hm)]
def R.trunc(h:R w0 lab0 oo n U E a w){t r:Nat}{m:Int}{row:ah}(hs:U.slot t=.c (.part r 0 m))(hrow:U.row r=some row):∃E',R w0 lab0 oo n (wD U t r row m.toNat) E' a w:=by
 have hv:=h.slots t;rw[hs]at hv;obtain⟨row',A,c,e1,_,e3,e4,e5,e6,e7,_,e8⟩:=(show ae U E w (.part r 0 m) (bX oo a t)from hv);rw[hrow]at e1;injection e1 with e1;subst e1;obtain⟨m0,hrv⟩:=e8 rfl;let E':aA:=⟨E.lab,ai E.rv r (.slice A m.toNat c),E.bb⟩;let σ1:St:=⟨λt'=>(U.slot t').map (cH [r]),λb=>fT [r] (U.box b),ai U.row r (some ⟨row.e,row.t,row.xs.take m.toNat,row.deep,false⟩)⟩;have ne:∀q,q∉[r]->q≠r:=λq hq e=>hq (by simp[e]);have G:R w0 lab0 oo n σ1 E' a w:=by
  refine R.moved (qs:=[r]) (B:=λ_=>False) (E':=E') (U':=σ1) h (λk _ _=>⟨rfl,rfl⟩) ⟨rfl,⟨rfl,λ_=>Nat.le_refl _⟩,rfl⟩ (Nat.le_refl _) rfl (λt=>rfl) (λb te cs hb=>⟨cs.map (cH [r]), ?_,by simp⟩) (λb te cs hb=>?_) (λq row2 hq hr=>⟨row2,(aH _ _ (ne q hq)).trans hr,aH _ _ (ne q hq),rfl,Nat.le_refl _⟩) (λq row2 hr=>?_);·show fT [r] (U.box b)=_;rw[hb];rfl
  ·have hb':fT [r] (U.box b)=some (te,cs):=hb;cases hx:U.box b with
   |none=>rw[hx]at hb';cases hb'
   |some p =>rw[hx]at hb';injection hb' with hb';injection hb' with e1 e2;subst e1 e2;exact .inl ⟨id,p.2,rfl,rfl⟩
  ·have hr':ai U.row r (some ⟨row.e,row.t,row.xs.take m.toNat,row.deep,false⟩) q=some row2:=hr;by_cases e:q=r
   ·subst e;rw[aD]at hr';injection hr' with hr';subst hr';refine .inr ?_;show a7 w E.lab q _ (ai E.rv q (.slice A m.toNat c) q);rw[aD];obtain⟨css,k1,k2,k3,_⟩:=h.rows q row hrow;rw[hrv]at k1 k2;have hlen:∀c∈css,c.length=row.t.nc:=by
     cases hd:row.deep;·rw[hd]at k3;exact wG k3
     ·rw[hd]at k3;obtain⟨Ls,j1,_⟩:=k3;exact wH j1
    have hle:m.toNat<=row.xs.length:=by omega
    refine⟨css.take m.toNat, ?_,λk hk=>k2 k (by cases A<;>exact hk), ?_,λhn=>by cases hn⟩
    ·have hx:(row.xs.take m.toNat).length=m.toNat:=by rw[List.length_take];omega
     show w.ownsRow 0 row.e row.t.nc _ (row.xs.take m.toNat).length _;rw[hx,wF css _ hlen];exact DK k1 hle
    ·show cond row.deep _ _;cases hd:row.deep;·rw[hd]at k3;exact ac.take k3 _
     ·rw[hd]at k3;obtain⟨Ls,j1,j2,j3⟩:=k3;have hsplit:Ls.flatten=(Ls.take m.toNat).flatten++(Ls.drop m.toNat).flatten:=by rw[<-List.flatten_append,List.take_append_drop]
      rw[hsplit]at j2 j3;exact⟨Ls.take m.toNat,az.take j1 _,(List.nodup_append.1 j2).1,λk hk=>j3 k (List.mem_append_left _ hk)⟩
   ·rw[aH _ _ e]at hr';exact .inl ⟨(by simpa using e),hr',aH _ _ e⟩
 refine⟨E',R.reslotV G (s:=.c (.own r)) ⟨?_, ?_,A,m.toNat,c,e5⟩⟩;·rw[e5];exact(aD _ _ _).symm
 ·show(ai U.row r _ r).isSome=true;rw[aD];rfl
def DL(h:R w0 lab0 oo n U E a w){bx:Bool}{t:Nat}(hr:sd U bx t=some U'):∃E',R w0 lab0 oo n U' E' a w:=by
 unfold sd at hr;cases bx
 ·simp only[cond_false]at hr;split at hr
  ·rename_i r m hs;split at hr;·rename_i row hrow;injection hr with hr;subst hr;exact h.trunc hs hrow
   ·cases hr
  ·injection hr with hr;subst hr;exact⟨E,h⟩
 ·injection hr with hr;subst hr;exact⟨E,h⟩
def DM(h:R w0 lab0 oo n U E a w){d:lQ}(hr:se U d=some U'):∃E',R w0 lab0 oo n U' E' a w:=by
 unfold se at hr;split at hr;·exact DL h hr
 ·rename_i hc;split at hr
  ·rename_i hfree;injection hr with hr;subst hr;have G:=h.nilRow (r:=d.nm) (e:=d.e) (t:=d.t) (deep:=d.deep) hfree;refine⟨_,R.resetAt (c:=.nil) G ?_ λv hv=>?_⟩;·exact hc
   ·obtain rfl:v=_:=hv;exact⟨(aD _ _ _).symm,by show(ai U.row d.nm _ d.nm).isSome=true;rw[aD];rfl,none,0,0,rfl⟩
  ·cases hr
 ·split at hr
  ·rename_i row hrow;split at hr;·rename_i row' hsh;injection hr with hr;subst hr;exact⟨E,(h.shal hrow hsh).2.2.2⟩
   ·injection hr with hr;subst hr;exact⟨E,h⟩
  ·injection hr with hr;subst hr;exact⟨E,h⟩
 ·injection hr with hr;subst hr;exact⟨E,h⟩
def wI:∀{ds:List lQ}{U U':St}{E:aA},R w0 lab0 oo n U E a w->oh ds U=some U'->∃E',R w0 lab0 oo n U' E' a w
 |[],U,U',E,h,hr=>by injection hr with hr;subst hr;exact⟨E,h⟩
 |d::ds,U,U',E,h,hr=>by
  simp only[oh]at hr;split at hr;·rename_i σ1 h1;obtain⟨E1,g1⟩:=DM h h1;exact wI g1 hr
  ·cases hr
def DN(h:R w0 lab0 oo n U E a w){d:dI×Nat×Ty}(hr:sf U d=some U'):∃E',R w0 lab0 oo n U' E' a w:=by
 unfold sf at hr;split at hr;·rename_i r hc;obtain⟨lab',g,_⟩:=R.absorbs (p:=none) (qs:=[r]) (U':=U') h (by simp[Fw.absorbs,hr]) (λ_ h=>by cases h);exact⟨_,g⟩
 ·rename_i hc;injection hr with hr;subst hr;exact⟨E,h.resetAt hc λv hv=>by obtain rfl:v=_:=hv;exact⟨none,0,0,rfl,rfl,Nat.le_refl _,Nat.zero_le _,.inl rfl⟩⟩
 ·injection hr with hr;subst hr;exact⟨E,h⟩
def wJ:∀{ds:List (dI×Nat×Ty)}{U U':St}{E:aA},R w0 lab0 oo n U E a w->ol ds U=some U'->∃E',R w0 lab0 oo n U' E' a w
 |[],U,U',E,h,hr=>by injection hr with hr;subst hr;exact⟨E,h⟩
 |d::ds,U,U',E,h,hr=>by
  simp only[ol]at hr;split at hr;·rename_i σ1 h1;obtain⟨E1,g1⟩:=DN h h1;exact wJ g1 hr
  ·cases hr
def ku(m:List (Nat×Nat)):an->an
 |.row r=>match au m r with
  |some q=>.row q
  |none=>.dead
 |.inn r=>match au m r with
  |some q=>.inn q
  |none=>.dead
 |l=>l
def wK{m:List (Nat×Nat)}{p p':Option Nat}(h:(p=none/\p'=none)\/∃r q,p=some r/\p'=some q/\au m r=some q):ku m (aP p)=aP p':=by
 rcases h with⟨rfl,rfl⟩|⟨r,q,rfl,rfl,h⟩;·rfl
 ·simp[aP,ku,h]
def R.ren(h:R w0 lab0 oo n U E a w){m:List (Nat×Nat)}{bs:List Nat}(hslot:∀t,U'.slot t=(U.slot t).map (dR m bs)\/U'.slot t=.c .undef)
  (hbox:∀b te cs,U'.box b=some (te,cs)->∃cs0,U.box b=some (te,cs0)/\cs=cs0.map (dR m bs))
  (hbox':∀b te cs,aR b bs=true->U.box b=some (te,cs)->U'.box b=some (te,cs.map (dR m bs)))
  (hrow:∀q row',U'.row q=some row'->∃r row,au m r=some q/\U.row r=some row/\row'=jt q row)
  (hrow':∀r q row,au m r=some q->U.row r=some row->U'.row q=some (jt q row))
  (inj:∀r r' q,au m r=some q->au m r'=some q->r=r'):∃E',R w0 lab0 oo n U' E' a w:=by
 classical
 let E':aA:=⟨λk=>ku m (E.lab k),λq=>if hq:∃r,au m r=some q then E.rv hq.choose else undef,E.bb⟩;have hrv:∀r q,au m r=some q->E'.rv q=E.rv r:=by intro r q hq;have hex:∃r,au m r=some q:=⟨r,hq⟩;show(if hq:∃r,au m r=some q then E.rv hq.choose else undef)=_;rw[dif_pos hex,inj _ _ _ hex.choose_spec hq]
 have hlab:∀k,E'.lab k=ku m (E.lab k):=λk=>rfl;have rd:∀{p p':Option Nat}{t:Ty}{cs:List Value}{x:t.den},((p=none/\p'=none)\/∃r q,p=some r/\p'=some q/\au m r=some q)->Rd w (λk=>E.lab k=aP p) t cs x->Rd w (λk=>E'.lab k=aP p') t cs x:=by intro p p' t cs x hp hr;refine hr.mono λk hk=>?_;rw[hlab,hk];exact wK hp
 have selt:∀{p p':Option Nat}{t:Ty}{x:t.den}{f:Nat}{v:Value},((p=none/\p'=none)\/∃r q,p=some r/\p'=some q/\au m r=some q)->ae U E w (.selt t x p f) v->ae U' E' w (.selt t x p' f) v:=by intro p p' t x f v hp hr;obtain⟨ad,cs,h1,h2,h3,h4,h5⟩:=hr;exact⟨ad,cs,h1,h2,by rw[hlab,h3];exact wK hp,rd hp h4,h5⟩
 have hc:∀c v,ae U E w c v->ae U' E' w (dR m bs c) v:=by
  intro c v hv;cases c with
  |undef=>trivial
  |int _ _=>exact hv
  |bool _=>exact hv
  |str _=>exact hv
  |err _=>exact hv
  |bor v0 e t xs=>exact⟨hv.1,rd (p:=none) (p':=none) (.inl ⟨rfl,rfl⟩) hv.2⟩
  |nil=>exact hv
  |sn e t xs p =>
   cases p with
   |none=>exact rd (p:=none) (p':=none) (.inl ⟨rfl,rfl⟩) hv
   |some r =>
    simp only[dR,eZ];split;·rename_i q hq;exact rd (p:=some r) (p':=some q) (.inr ⟨r,q,rfl,rfl,hq⟩) hv
    ·trivial
  |full e t xs p =>
   cases p with
   |none=>exact⟨rd (p:=none) (p':=none) (.inl ⟨rfl,rfl⟩) hv.1,hv.2⟩
   |some r =>
    simp only[dR,eZ];split;·rename_i q hq;exact⟨rd (p:=some r) (p':=some q) (.inr ⟨r,q,rfl,rfl,hq⟩) hv.1,hv.2⟩
    ·trivial
  |own r =>
   simp only[dR,eZ];split;·rename_i q hq;obtain⟨rfl,h1,h2⟩:=hv;obtain⟨row,hr⟩:=Option.isSome_iff_exists.1 h1;exact⟨(hrv r q hq).symm,by rw[hrow' r q row hq hr];rfl,h2⟩
   ·trivial
  |part r lo n =>
   simp only[dR,eZ];split
   ·rename_i q hq;obtain⟨row,A,c,h1,h2,h3,h4,h5,h6,h7,h8⟩:=hv;refine⟨jt q row,A,c,hrow' r q row hq h1,h2,h3,h4,h5,h6,h7,⟨λhn=>?_,λh0=>?_⟩⟩;·rw[hrv r q hq];exact h8.1 hn
    ·rw[hrv r q hq];exact h8.2 h0
   ·trivial
  |box b f =>
   simp only[dR];cases hb:aR b bs;·trivial
   ·obtain⟨rfl,te,cs,h1,h2⟩:=hv;exact⟨rfl,te,_,hbox' b te cs hb h1,by simpa using h2⟩
  |mp b =>
   simp only[dR];cases hb:aR b bs;·trivial
   ·obtain⟨rfl,te,cs,h1⟩:=hv;exact⟨rfl,te,_,hbox' b te cs hb h1⟩
  |mset t xs=>exact hv
  |elt r i f =>
   simp only[dR,eZ];split;·rename_i q hq;obtain⟨row,g,n,c,h1,h2,h3,h4,h5,h6⟩:=hv;exact⟨jt q row,g,n,c,hrow' r q row hq h1,by rw[hrv r q hq];exact h2,h3,h4,h5,h6⟩
   ·trivial
  |selt t x p f =>
   cases p with
   |none=>exact selt (p:=none) (p':=none) (.inl ⟨rfl,rfl⟩) hv
   |some r =>
    simp only[dR,eZ];split;·rename_i q hq;exact selt (p:=some r) (p':=some q) (.inr ⟨r,q,rfl,rfl,hq⟩) hv
    ·trivial
  |fn f caps =>
   simp only[dR];cases hb:caps.all λp=>aR p.1 bs;·trivial
   ·obtain⟨rfl,hv⟩:=hv;refine⟨rfl,λp hp=>?_⟩;obtain⟨te,cs,h1,h2⟩:=hv p hp;exact⟨te,_,hbox' p.1 te cs (List.all_eq_true.1 hb p hp) h1,by simpa using h2⟩
 refine⟨E',h.bound,h.size,h.defers,λt=>?_,λb te cs hb=>?_,λq row' hq=>?_, ?_⟩
 ·rcases hslot t with e|e;·rw[e];exact(h.slots t).mapl hc
  ·rw[e];show av U' E' w (.c .undef) (bX oo a t);exact True.intro
 ·obtain⟨cs0,h1,rfl⟩:=hbox b te cs hb;obtain⟨arr,k1,k2,k3,k4⟩:=h.boxes b te cs0 h1;exact⟨arr,k1,by rw[hlab,k2];rfl,k3.mapl hc,k4⟩
 ·obtain⟨r,row,h1,h2,rfl⟩:=hrow q row' hq;obtain⟨css,k1,k2,k3,k4⟩:=h.rows r row h2;rw[hrv r q h1];refine⟨css,k1,λk hk=>by rw[hlab,k2 k hk];simp[ku,h1], ?_,λh=>k4 (Bool.and_eq_true_iff.1 h).2⟩;show cond row.deep _ _;cases hd:row.deep;·rw[hd]at k3;exact ac.imp (λc y hy=>Rd.mono (λk hk=>(by rw[hlab,hk];rfl)) hy) (show ac (λc y=>Rd w (λk=>E.lab k=.st) row.t c y) css row.xs from k3)
  ·rw[hd]at k3;obtain⟨Ls,j1,j2,j3⟩:=k3;exact⟨Ls,j1,j2,λk hk=>by rw[hlab,j3 k hk];simp[ku,h1]⟩
 ·refine⟨h.same.os,h.same.tape,h.same.output,h.same.size,λk hk hl=>?_,λk hk hl=>?_⟩;·obtain⟨g1,g2⟩:=h.same.old k hk hl;exact⟨by rw[hlab,g1];rfl,g2⟩
  ·obtain⟨g1,g2⟩:=h.same.gone k hk hl;exact⟨by rw[hlab,g1];rfl,g2⟩
def kw{a b:Nat}:Nat.beq a b=true↔a=b:=⟨Nat.eq_of_beq_eq_true,λe=>by subst e;exact Nat.beq_refl a⟩
def dz{α:Type}:∀{l:List (Nat×α)}{t:Nat}{v:α},au l t=some v->(t,v)∈l
 |[],_,_,h=>by cases h
 | (k,u)::l,t,v,h=>by
  simp only[au]at h;cases hb:Nat.beq t k;·rw[hb]at h;exact List.mem_cons_of_mem _ (dz h)
  ·rw[hb]at h;injection h with h;rw[<-h,kw.1 hb];exact List.mem_cons_self
def wL{f:ab->ab}(t:Nat):∀ts:List Nat,au (lR U f ts) t=some ((U.slot t).map f)\/au (lR U f ts) t=none
 |[]=>.inr rfl
 |t'::ts=>by
  simp only[lR,au];cases hb:Nat.beq t t';·exact wL t ts
  ·rw[kw.1 hb];exact .inl rfl
def sh{f:ab->ab}(b:Nat):∀{bs:List Nat}{l:List (Nat×(Nat×List ab))},om U f bs=some l ->
  (∀te cs,au l b=some (te,cs)->∃cs0,U.box b=some (te,cs0)/\cs=cs0.map f)/\(∀te cs,aR b bs=true->U.box b=some (te,cs)->au l b=some (te,cs.map f))
 |[],l,h=>by injection h with h;subst h;exact⟨(λte cs h=>by cases h),λte cs h=>by cases h⟩
 |b'::bs,l,h=>by
  simp only[om]at h;split at h
  ·rename_i te cs l' hb hl;injection h with h;subst h;obtain⟨g1,g2⟩:=sh b hl;simp only[au,aR];cases hq:Nat.beq b b';·exact⟨g1,λte cs hm=>g2 te cs (by simpa using hm)⟩
   ·obtain rfl:=kw.1 hq;refine⟨λte' cs' h'=>?_,λte' cs' _ h'=>?_⟩;·simp only[cond_true,Option.some.injEq,Prod.mk.injEq]at h';obtain⟨rfl,rfl⟩:=h';exact⟨cs,hb,rfl⟩
    ·rw[hb]at h';injection h' with h';injection h' with e1 e2;rw[e1,e2];rfl
  ·cases h
def wM(q:Nat):∀{m:List (Nat×Nat)}{l:List (Nat×ah)},ks U m=some l->∀row',au l q=some row'->∃r row,(r,q)∈m/\U.row r=some row/\row'=jt q row
 |[],l,h,row',h'=>by injection h with h;subst h;cases h'
 | (r,q')::m,l,h,row',h'=>by
  simp only[ks]at h;split at h
  ·rename_i row l' hr hl;injection h with h;subst h;simp only[au]at h';cases hb:Nat.beq q q';·rw[hb]at h';obtain⟨r',row2,k1,k2,k3⟩:=wM q hl row' h';exact⟨r',row2,List.mem_cons_of_mem _ k1,k2,k3⟩
   ·rw[hb]at h';injection h' with h';obtain rfl:=kw.1 hb;exact⟨r,row,List.mem_cons_self,hr,h'.symm⟩
  ·cases h
def wN{r q:Nat}{row:ah}(hrow:U.row r=some row):∀{m:List (Nat×Nat)}{l:List (Nat×ah)},ks U m=some l->(m.map (·.2)).Nodup->(r,q)∈m->au l q=some (jt q row)
 |[],l,h,_,hm=>by cases hm
 | (r',q')::m,l,h,hn,hm=>by
  simp only[ks]at h;split at h
  ·rename_i row' l' hr hl;injection h with h;subst h;simp only[au];simp only[List.map_cons,List.nodup_cons]at hn;rcases List.mem_cons.1 hm with e|hm;·injection e with e1 e2;subst e1 e2;rw[hr]at hrow;injection hrow with hrow;rw[Nat.beq_refl,hrow];rfl
   ·have hne:Nat.beq q q'=false:=by
     cases hb:Nat.beq q q';·rfl
     ·exact absurd (List.mem_map.2 ⟨(r,q),hm,kw.1 hb⟩) hn.1
    rw[hne];exact wN hrow hl hn.2 hm
  ·cases h
def DO{m:List (Nat×Nat)}(h:(m.map (·.2)).Nodup){r r' q:Nat}(h1:(r,q)∈m)(h2:(r',q)∈m):r=r':=by
 induction m with
 |nil=>cases h1
 |cons p m ih =>
  simp only[List.map_cons,List.nodup_cons]at h;rcases List.mem_cons.1 h1 with e|h1
  ·rcases List.mem_cons.1 h2 with e'|h2;·rw[<-e]at e';injection e' with e' _;exact e'.symm
   ·exact absurd (List.mem_map.2 ⟨_,h2,by rw[<-e]⟩) h.1
  ·rcases List.mem_cons.1 h2 with e'|h2;·exact absurd (List.mem_map.2 ⟨_,h1,by rw[<-e']⟩) h.1
   ·exact ih h.2 h1 h2
def DP{m:List (Nat×Nat)}{r q:Nat}(h:(r,q)∈m)(hn:(m.map (·.1)).Nodup):au m r=some q:=by
 induction m with
 |nil=>cases h
 |cons p m ih =>
  obtain⟨k,u⟩:=p;simp only[List.map_cons,List.nodup_cons]at hn;simp only[au];rcases List.mem_cons.1 h with e|h;·injection e with e1 e2;subst e1 e2;rw[Nat.beq_refl];rfl
  ·cases hb:Nat.beq r k;·exact ih h hn.2
   ·exact absurd (List.mem_map.2 ⟨_,h,kw.1 hb⟩) hn.1
def sj(h:R w0 lab0 oo n U E a w){cl:aa}(hr:eR cl U=some U'):∃E',R w0 lab0 oo n U' E' a w:=by
 unfold eR at hr;split at hr
 ·rename_i σ1 h1;obtain⟨σ2,h1,h2⟩:=Option.bind_eq_some_iff.1 h1;obtain⟨E2,G2⟩:=wI h h1;obtain⟨E1,G⟩:=wJ G2 h2;split at hr
  ·rename_i m hm;cases hq:(cF (m.map (·.1))&&cF (m.map (·.2)))
   ·rw[hq]at hr;cases hr
   ·rw[hq]at hr;simp only[Bool.and_eq_true]at hq;simp only[cond_true]at hr;have n1:=fv hq.1;have n2:=fv hq.2;split at hr
    ·rename_i bx rw' hbx hrw;injection hr with hr;subst hr;refine G.ren (m:=m) (bs:=cl.boxes) (λt=>?_) (λb te cs hb=>?_) (λb te cs hm hb=>?_) (λq row' hq=>?_) (λr q row hl hrow=>?_) (λr r' q hl hl'=>?_)
     ·show dS _ t=_\/dS _ t=_;unfold dS;rcases wL (U:=σ1) (f:=dR m cl.boxes) t cl.slots with e|e;·rw[e];exact .inl rfl
      ·rw[e];exact .inr rfl
     ·exact(sh b hbx).1 te cs hb
     ·exact(sh b hbx).2 te cs hm hb
     ·obtain⟨r,row,k1,k2,k3⟩:=wM q hrw row' hq;exact⟨r,row,DP k1 n1,k2,k3⟩
     ·exact wN hrow hrw n2 (dz hl)
     ·exact DO n2 (dz hl) (dz hl')
    ·cases hr
  ·cases hr
 ·cases hr
end
inductive Ex where
 |nrm
 |exit (id:Nat)
 |ret
def DQ:Ex->Exit
 |.nrm=>.normal
 |.exit id=>.exit id
 |.ret=>.ret
inductive bN where
 |n
 |mk (join:Option aa) (lp:Option aa) (a b:bN)
def bN.fst:bN->bN
 |.n=>.n
 |.mk _ _ a _=>a
def bN.snd:bN->bN
 |.n=>.n
 |.mk _ _ _ b=>b
def bN.join:bN->Option aa
 |.n=>none
 |.mk j _ _ _=>j
def bN.lp:bN->Option aa
 |.n=>none
 |.mk _ l _ _=>l
def oq:Option aa->St->Option St
 |none,U=>some U
 |some cl,U=>eR cl U
def ot(U:St)(l:dI):Bool:=match jr U l with
 |some (.own r)=>match U.row r with
  |some row=>row.nilE||Nat.blt 0 row.xs.length
  |none=>true
 |_=>true
def sk(U:St)(l:dI):St:=match jr U l with
 |some (.own r)=>match U.row r with
  |some row=>⟨U.slot,U.box,ai U.row r (some ⟨row.e,row.t,row.xs,row.deep,true⟩)⟩
  |none=>U
 |_=>U
def DR:Option aa->List (dI×Nat)
 |none=>[]
 |some cl=>cl.rows
section
variable {J : Type}
def lS(F:St->Option J):List (dI×Nat)->St->Option J
 |[],U=>F U
 | (l,q)::ls,U=>cond (sg q) (cond (ot U l) (lS F ls (sk U l)) none) (lS F ls U)
abbrev ap(j:Option aa)(K:Ex->St->Option J):Ex->St->Option J
 |.nrm,U=>(oq j U).bind (K .nrm)
 |.exit i,U=>K (.exit i) U
 |.ret,U=>K .ret U
abbrev bE(F:St->Option J)(K:Ex->St->Option J):Ex->St->Option J
 |.nrm,U=>F U
 |.exit i,U=>K (.exit i) U
 |.ret,U=>K .ret U
abbrev lT(id:Nat)(K:Ex->St->Option J):Ex->St->Option J
 |.nrm,U=>K .nrm U
 |.exit i,U=>cond (Nat.beq i id) (K .nrm U) (K (.exit i) U)
 |.ret,U=>K .ret U
def bm(f:St->(Ex->St->Option J)->Option J)(cl:aa):Nat->St->(Ex->St->Option J)->Option J
 |0,_,_=>none
 |N+1,U,K=>f U (ap (some cl) (bE (λU''=>bm f cl N U'' K) K))
noncomputable def ak(Γ:Gm)(T:aL)(B:Nat->Option aa)(N:Nat):Code->bN->St->(Ex->St->Option J)->Option J
 |.skip,_,U,K=>K .nrm U
 |.label _,_,U,K=>K .nrm U
 |.region _ ops draw,_,U,K=>r9 Γ T N ops draw U (K .nrm)
 |.seq a b,pl,U,K=>ak Γ T B N a pl.fst U (ap pl.join (bE (λU'=>ak Γ T B N b pl.snd U' K) K))
 |.cond c a b,pl,U,K=>match ev U c with
  |.c (.bool t)=>cond t (ak Γ T B N a pl.fst U K) (ak Γ T B N b pl.snd U K)
  |_=>none
 |.block id c,pl,U,K=>ak Γ T B N c pl.fst U (ap pl.join (lT id K))
 |.loop c,pl,U,K=>match pl.lp with
  |some cl=>match pl.join with
   |none=>(eR cl U).bind λσ0=>bm (λU K=>ak Γ T B N c pl.fst U K) cl N σ0 K
   |some cl1=>(eR cl1 U).bind λσ0=>ak Γ T B N c pl.snd σ0 (ap (some cl) (bE (λU''=>bm (λU K=>ak Γ T B N c pl.fst U K) cl N U'' K) K))
  |none=>none
 |.exit id,_,U,K=>(oq (B id) U).bind (K (.exit id))
 |.ret,_,U,K=>lS (λU=>(oq (B 1000000) U).bind (K .ret)) (DR (B 1000000)) U
 |_,_,_,_=>none
end
def dj(n:Nat):Code->Bool
 |.region _ ops _=>jp n ops
 |.seq a b=>dj n a&&dj n b
 |.cond _ a b=>dj n a&&dj n b
 |.block _ c=>dj n c
 |.loop c=>dj n c
 |_=>true
section
variable {P : Program} {U U' : St} {E E' : aA} {w w' : World} {w0 : World} {lab0 : Nat → an} {oo : Nat → Value} {n : Nat} {a : Act} {T : aL} {Γ : Gm} {J : Type} {B : Nat → Option aa} {N : Nat} [DC]
def sm{p:Nat->Prop}(h:∃n,p n):∃n,p n/\∀m,p m->n<=m:=by
 classical
 obtain⟨n,hn⟩:=h;induction n using Nat.strongRecOn with
 |_ n ih =>
  by_cases hex:∃m,m<n/\p m;·obtain⟨m,h1,h2⟩:=hex;exact ih m h1 h2
  ·exact⟨n,hn,λm hm=>Nat.le_of_not_lt λhlt=>hex ⟨m,hlt,hm⟩⟩
noncomputable def fE{p:Nat->Prop}(h:∃n,p n):Nat:=(sm h).choose
def DS{p:Nat->Prop}(h:∃n,p n):p (fE h):=(sm h).choose_spec.1
def DT{p:Nat->Prop}(h:∃n,p n){m:Nat}(hm:p m):fE h<=m:=(sm h).choose_spec.2 m hm
def so(h:R w0 lab0 oo n U E a w){cl:Option aa}(hr:oq cl U=some U'):∃E',R w0 lab0 oo n U' E' a w:=by
 cases cl with
 |none =>injection hr with hr;subst hr;exact⟨E,h⟩
 |some cl=>exact sj h hr
def DU(h:R w0 lab0 oo n U E a w){l:dI}(hc:ot U l=true):R w0 lab0 oo n (sk U l) E a w:=by
 have key:∀r row,U.row r=some row->(row.nilE||Nat.blt 0 row.xs.length)=true->R w0 lab0 oo n ⟨U.slot,U.box,ai U.row r (some ⟨row.e,row.t,row.xs,row.deep,true⟩)⟩ E a w:=by
  intro r row hrow' hc;have m:bC U E w ⟨U.slot,U.box,ai U.row r (some ⟨row.e,row.t,row.xs,row.deep,true⟩)⟩ E w:=by
   refine⟨λr' row1 h1=>?_,λb te cs hb=>⟨te,cs,hb,rfl,rfl⟩,λ_ _ _ h1 h2=>⟨h1,h2⟩,λ_ _ _ _ h=>h⟩;by_cases e:r'=r;·subst e;rw[hrow']at h1;injection h1 with h1;subst h1;exact⟨_,aD _ _ _,rfl,rfl,Nat.le_refl _⟩
   ·exact⟨row1,(aH _ _ e).trans h1,rfl,rfl,Nat.le_refl _⟩
  refine⟨h.bound,h.size,h.defers,λt=>(h.slots t).move m,λb te cs hb=>?_,λr' row1 h1=>?_,h.same⟩;·obtain⟨arr,h1,h2,h3,h4⟩:=h.boxes b te cs hb;exact⟨arr,h1,h2,h3.imp λ_ _ h=>h.move m,h4⟩
  ·by_cases e:r'=r
   ·subst e;have h1':ai U.row r' (some ⟨row.e,row.t,row.xs,row.deep,true⟩) r'=some row1:=h1;rw[aD]at h1';injection h1' with h1';subst h1';obtain⟨css,k1,k2,k3,k4⟩:=h.rows r' row hrow';refine⟨css,k1,k2,k3,λ_ hl=>?_⟩;have hl':row.xs.length=0:=hl;cases hn:row.nilE;·rw[hn,hl']at hc;cases hc
    ·exact k4 hn hl'
   ·have h1':ai U.row r (some ⟨row.e,row.t,row.xs,row.deep,true⟩) r'=some row1:=h1;rw[aH _ _ e]at h1';exact h.rows r' row1 h1'
 unfold sk;split
 ·rename_i r hr;split;·rename_i row hrow;refine key r row hrow ?_;unfold ot at hc;rw[hr]at hc;simp only[hrow]at hc;exact hc
  ·exact h
 ·exact h
def sq{F:St->Option J}{r:J}:∀{ls:List (dI×Nat)}{U:St}{E:aA},R w0 lab0 oo n U E a w->lS F ls U=some r->∃U',R w0 lab0 oo n U' E a w/\F U'=some r
 |[],U,E,h,hr=>⟨U,h,hr⟩
 | (l,q)::ls,U,E,h,hr=>by
  simp only[lS]at hr;cases hq:sg q;·rw[hq]at hr;exact sq h hr
  ·rw[hq]at hr;cases hc:ot U l;·rw[hc]at hr;cases hr
   ·rw[hc]at hr;exact sq (DU h hc) hr
def NP.then{Q:Exit->Act->World->Prop}(h:NP Q)(next:Act->World->Prop):NP (Exit.then next Q):=λc a a' w hq=>h c a a' w hq
def NP.block{Q:Exit->Act->World->Prop}(h:NP Q)(id:Nat):NP (Exit.inBlock id Q):=λc a a' w hq=>h c a a' w hq
def eS(w0:World)(lab0:Nat->an)(oo:Nat->Value)(n:Nat)(K:Ex->St->Option J)(r:J)(Q:Exit->Act->World->Prop):Prop :=
 ∀e U' E' a' w',K e U'=some r->R w0 lab0 oo n U' E' a' w'->Q (DQ e) a' w'
def eS.join{K:Ex->St->Option J}{r:J}{Q:Exit->Act->World->Prop}(h:eS w0 lab0 oo n K r Q)(j:Option aa):eS w0 lab0 oo n (ap j K) r Q:=by
 intro e U' E' a' w' hr hR;cases e with
 |nrm =>obtain⟨σ2,h1,h2⟩:=Option.bind_eq_some_iff.1 hr;obtain⟨E2,g⟩:=so hR h1;exact h .nrm σ2 E2 a' w' h2 g
 |exit i=>exact h (.exit i) U' E' a' w' hr hR
 |ret=>exact h .ret U' E' a' w' hr hR
def fa(hT:aG P T)(hΓ:jq P w0 lab0 Γ)(hm:P.follows .mixedOrders=true):∀(c:Code) (pl:bN) {U:St}{E:aA}{a:Act}{w:World}{K:Ex->St->Option J}{r:J}{Q:Exit->Act->World->Prop},
  dj n c=true->R w0 lab0 oo n U E a w->ak Γ T B N c pl U K=some r->NP Q->eS w0 lab0 oo n K r Q->c.wp P Q a w
 |.skip,pl,U,E,a,w,K,r,Q,_,h,hr,_,hK=>wp_skip (hK .nrm U E a w hr h)
 |.label l,pl,U,E,a,w,K,r,Q,_,h,hr,_,hK=>wp_label (hK .nrm U E a w hr h)
 |.region id ops draw,pl,U,E,a,w,K,r,Q,hc,h,hr,hQ,hK=>DJ hT hΓ hm hc hQ (λU' E' a' w' hr' h'=>hK .nrm U' E' a' w' hr' h') h hr
 |.seq x y,pl,U,E,a,w,K,r,Q,hc,h,hr,hQ,hK=>by
  simp only[dj,Bool.and_eq_true]at hc;refine wp_seq (fa hT hΓ hm x pl.fst hc.1 h hr (hQ.then _) (eS.join ?_ _));intro e U' E' a' w' hr' h';cases e with
  |nrm=>exact fa hT hΓ hm y pl.snd hc.2 h' hr' hQ hK
  |exit i=>exact hK (.exit i) U' E' a' w' hr' h'
  |ret=>exact hK .ret U' E' a' w' hr' h'
 |.cond c x y,pl,U,E,a,w,K,r,Q,hc,h,hr,hQ,hK=>by
  simp only[dj,Bool.and_eq_true]at hc;simp only[ak]at hr;split at hr
  ·rename_i t ht;have hv:=aJ h c;rw[ht]at hv;cases t;·exact wp_cond_false hv (fa hT hΓ hm y pl.snd hc.2 h hr hQ hK)
   ·exact wp_cond_true hv (fa hT hΓ hm x pl.fst hc.1 h hr hQ hK)
  ·cases hr
 |.block id c,pl,U,E,a,w,K,r,Q,hc,h,hr,hQ,hK=>by
  refine wp_block (fa hT hΓ hm c pl.fst hc h hr (hQ.block id) (eS.join ?_ _));intro e U' E' a' w' hr' h';cases e with
  |nrm=>exact hK .nrm U' E' a' w' hr' h'
  |exit i =>
   show if i=id then Q .normal a' w' else Q (.exit i) a' w'
   simp only[lT]at hr';cases hb:Nat.beq i id;·rw[hb]at hr';rw[if_neg λe=>by subst e;rw[Nat.beq_refl]at hb;cases hb];exact hK (.exit i) U' E' a' w' hr' h'
   ·rw[hb]at hr';rw[if_pos (Nat.eq_of_beq_eq_true hb)];exact hK .nrm U' E' a' w' hr' h'
  |ret=>exact hK .ret U' E' a' w' hr' h'
 |.loop c,pl,U,E,a,w,K,r,Q,hc,h,hr,hQ,hK=>by
  simp only[ak]at hr;split at hr
  ·rename_i cl hcl
   classical
   let F:Nat->St->Option J:=λM U=>bm (λU K=>ak Γ T B N c pl.fst U K) cl M U K;let At:Nat->Act->World->Prop:=λM a w=>(∃U E,R w0 lab0 oo n U E a w/\F M U=some r) \/
    (M=N+1/\∃U E,R w0 lab0 oo n U E a w/\ak Γ T B N c pl.snd U (ap (some cl) (bE (F N) K))=some r)
   have hstart:∃M,At M a w:=by
    split at hr;·obtain⟨σ0,h1,h2⟩:=Option.bind_eq_some_iff.1 hr;obtain⟨E0,g⟩:=sj h h1;exact⟨N,.inl ⟨σ0,E0,g,h2⟩⟩
    ·obtain⟨σ0,h1,h2⟩:=Option.bind_eq_some_iff.1 hr;obtain⟨E0,g⟩:=sj h h1;exact⟨N+1,.inr ⟨rfl,σ0,E0,g,h2⟩⟩
   refine wp_loop (I:=λa w=>∃M,At M a w) (μ:=λa w=>if hex:∃M,At M a w then fE hex else 0) hstart ?_;intro a w hI;have hμ:(if hex:∃M,At M a w then fE hex else 0)=fE hI:=dif_pos hI;simp only[hμ];have next:∀M U' E' a' w',M<fE hI->F M U'=some r->R w0 lab0 oo n U' E' a' w'->(∃M,At M a' w')/\(if hex:∃M,At M a' w' then fE hex else 0)<fE hI:=by intro M U' E' a' w' hM hr' h';have hA:At M a' w':=.inl ⟨U',E',h',hr'⟩;refine⟨⟨M,hA⟩, ?_⟩;have hμ':(if hex:∃M,At M a' w' then fE hex else 0)=fE (⟨M,hA⟩:∃M,At M a' w'):=dif_pos ⟨M,hA⟩;rw[hμ'];have:=DT (⟨M,hA⟩:∃M,At M a' w') hA;omega
   rcases DS hI with⟨σ1,E1,g1,hr1⟩|⟨hM,σ1,E1,g1,hr1⟩
   ·generalize hM:fE hI=M at hr1 next
    cases M with
    |zero=>cases hr1
    |succ M =>
     simp only[F,bm]at hr1;refine fa hT hΓ hm c pl.fst hc g1 hr1 (hQ.then _) (eS.join ?_ _);intro e U' E' a' w' hr' h';cases e with
     |nrm=>exact next M U' E' a' w' (Nat.lt_succ_self M) hr' h'
     |exit i=>exact hK (.exit i) U' E' a' w' hr' h'
     |ret=>exact hK .ret U' E' a' w' hr' h'
   ·refine fa hT hΓ hm c pl.snd hc g1 hr1 (hQ.then _) (eS.join ?_ _);intro e U' E' a' w' hr' h';cases e with
    |nrm=>exact next N U' E' a' w' (by omega) hr' h'
    |exit i=>exact hK (.exit i) U' E' a' w' hr' h'
    |ret=>exact hK .ret U' E' a' w' hr' h'
  ·cases hr
 |.exit id,pl,U,E,a,w,K,r,Q,_,h,hr,_,hK=>by obtain⟨σ2,h1,h2⟩:=Option.bind_eq_some_iff.1 hr;obtain⟨E2,g⟩:=so h h1;exact wp_exit (hK (.exit id) σ2 E2 a w h2 g)
 |.ret,pl,U,E,a,w,K,r,Q,_,h,hr,_,hK=>by obtain⟨σ1,h,hr⟩:=sq h hr;obtain⟨σ2,h1,h2⟩:=Option.bind_eq_some_iff.1 hr;obtain⟨E2,g⟩:=so h h1;exact wp_ret (hK .ret σ2 E2 a w h2 g)
 |.rangeFunc _ _ _ _,_,_,_,_,_,_,_,_,_,_,hr,_,_=>by cases hr
 |.scope _,_,_,_,_,_,_,_,_,_,_,hr,_,_=>by cases hr
 |.goto _,_,_,_,_,_,_,_,_,_,_,hr,_,_=>by cases hr
 |.refuse _,_,_,_,_,_,_,_,_,_,_,hr,_,_=>by cases hr
end
def il(agg:Bool)(cs:List ab):SV:=match agg,cs with
 |true,cs=>.agg cs
 |false,[c]=>.c c
 |false,_=>.c .undef
def d7:(ps:List PT)->aj ps->Nat->List (Nat×SV)×List (Nat×ah)
 |[],_,_=>([],[])
 |⟨t,agg,io⟩::ps,X,i=>match io with
  |false=>((i,il agg (cD t X.1 none))::(d7 ps X.2 (i+1)).1,(d7 ps X.2 (i+1)).2)
  |true=>match aw (100000+i) t X.1 0 with
   | (cs,rows,_)=>((i,il agg cs)::(100000+i,il agg cs)::(d7 ps X.2 (i+1)).1,rows)
def bG(ps:List PT)(X:aj ps):St:=al (d7 ps X 0).1 [] (d7 ps X 0).2
def fV(T:aL)(U:St):List ResultVar->Option (List SV)
 |[]=>some []
 |.tmp t::rs=>match fV T U rs with
  |some l=>some (ev U (.tmp t)::l)
  |none=>none
 |.cell x ty::rs=>match ev U (.tmp x),T ty,fV T U rs with
  |.c c,some i,some l=>match lf U c i.agg i.zero.length with
   |some s=>some (s::l)
   |none=>none
  |_,_,_=>none
def ky(look:Nat->Option ah):(rs:List PT)->List SV->Option (aj rs)
 |[],[]=>some ()
 |p::ps,s::ss=>match ek p.agg s with
  |some cs=>cU (cx look p.t cs) (ky look ps ss)
  |none=>none
 |[],_::_=>none
 |_::_,[]=>none
def fb:List PT->List SV->List ab
 |p::ps,s::ss=>(match ek p.agg s with|some cs=>cs|none=>[])++fb ps ss
 |_,_=>[]
def lU(U:St):(ps:List PT)->Nat->Option (ca ps)
 |[],_=>some ()
 |⟨t,agg,false⟩::ps,i=>lU U ps (i+1)
 |⟨t,agg,true⟩::ps,i=>match ek agg (U.slot (100000+i))with
  |some cs=>cx U.row t cs
  |none=>none
def ju(U:St):(ps:List PT)->Nat->List ab
 |[],_=>[]
 |⟨t,agg,false⟩::ps,i=>ju U ps (i+1)
 |⟨t,agg,true⟩::ps,i=>match ek agg (U.slot (100000+i))with
  |some cs=>cs
  |none=>[]
def lV(look:Nat->Option ah):List ab->Bool
 |[.nil]=>true
 |[.own r]=>match look r with
  |some row=>row.nilE||Nat.blt 0 row.xs.length
  |none=>false
 |_=>false
def fc{α:Type}(look:Nat->Option ah):List PT->List SV->Option α->Option α
 |p::ps,s::ss,X=>cond p.io (match ek p.agg s with
  |some cs=>cond (lV look cs) (fc look ps ss X) none
  |none=>none) (fc look ps ss X)
 |[],_,X=>X
 |_::_,[],X=>X
def sr(look:Nat->Option ah):List PT->List SV->Prop
 |p::ps,s::ss=>(p.io=true->∀cs,ek p.agg s=some cs->lV look cs=true)/\sr look ps ss
 |[],_=>True
 |_::_,[]=>True
def lW{α:Type}{look:Nat->Option ah}{r:α}:∀{rs:List PT}{ss:List SV}{X:Option α},fc look rs ss X=some r->sr look rs ss/\X=some r
 |[],_,_,h=>⟨trivial,h⟩
 |_::_,[],_,h=>⟨trivial,h⟩
 |p::ps,s::ss,X,h=>by
  simp only[fc]at h;cases hio:p.io;·rw[hio]at h;obtain⟨h1,h2⟩:=lW (show fc look ps ss X=some r from h);exact⟨⟨(λhq=>by rw[hio]at hq;cases hq),h1⟩,h2⟩
  ·rw[hio]at h;simp only[cond_true]at h;split at h
   ·rename_i cs hcs;cases hq:lV look cs;·rw[hq]at h;cases h
    rw[hq]at h;obtain⟨h1,h2⟩:=lW (show fc look ps ss X=some r from h);exact⟨⟨λ_ cs' hcs'=>by rw[hcs]at hcs';injection hcs' with hcs';subst hcs';exact hq,h1⟩,h2⟩
   ·cases h
def ou(T:aL)(sig:bf)(rv:List ResultVar)(U:St):Option (ca sig.ps×aj sig.rs) :=
 match fV T U rv with
 |some ss=>cond (cF (aq (fb sig.rs ss++ju U sig.ps 0))) (fc U.row sig.rs ss (cU (lU U sig.ps 0) (ky U.row sig.rs ss))) none
 |none=>none
def su(T:aL)(sig:bf)(rv:List ResultVar):Ex->St->Option (ca sig.ps×aj sig.rs)
 |.nrm,U=>ou T sig rv U
 |.ret,U=>ou T sig rv U
 |.exit _,_=>none
section
variable {P : Program} {U U' : St} {E E' : aA} {w w' : World} {w0 : World} {lab0 : Nat → an} {oo : Nat → Value} {n : Nat} {a : Act} {T : aL} {Γ : Gm} {B : Nat → Option aa} {N : Nat} [DC]
def lX{agg:Bool}{cs:List ab}{us:List Value}{v:Value}(hc:d5 agg v us)(h:ac (ae U E w) cs us):av U E w (il agg cs) v:=by
 cases agg
 ·obtain rfl:us=[v]:=hc;cases cs with
  |nil=>exact True.intro
  |cons c cs=>cases cs with
   |nil=>exact h.1
   |cons _ _=>exact True.intro
 ·obtain⟨arr,rfl,rfl⟩:=hc;exact⟨arr,rfl,h⟩
def lY{α:Type}:∀{l l':List (Nat×α)}{t:Nat},au (l++l') t=match au l t with|some v=>some v|none=>au l' t
 |[],_,_=>rfl
 | (k,v)::l,l',t=>by
  simp only[List.cons_append,au];cases Nat.beq t k;·exact lY
  ·rfl
def sw(d:Nat)(t:Ty):∀(y:t.den) (j:Nat),∀p∈(aw d t y j).2.1,au (aw d t y j).2.1 p.1=some p.2:=by
 induction t with
 |int k=>intro y j p hp;simp[aw]at hp
 |bool=>intro y j p hp;simp[aw]at hp
 |fnc g=>intro y j p hp;simp[aw]at hp
 |str=>intro y j p hp;simp[aw]at hp
 |err=>intro y j p hp;simp[aw]at hp
 |sl e t _ =>intro y j p hp;simp only[aw,List.mem_singleton]at hp;subst hp;simp[aw,au]
 |pair t1 t2 ih1 ih2 =>
  intro y j p hp;simp only[aw,List.mem_append]at hp ⊢;rw[lY];rcases hp with hp|hp;·rw[ih1 _ _ p hp]
  ·cases hl:au (aw d t1 y.1 j).2.1 p.1 with
   |none=>exact ih2 _ _ p hp
   |some v =>have h1:=(eO d).2 _ (dz hl);have h2:=(eO d).2 p hp;obtain⟨i1,_,a1,b1⟩:=h1;obtain⟨i2,a2,_,b2⟩:=h2;have:=jd (b1.symm.trans b2);exact absurd (Nat.lt_of_lt_of_le a1 a2) (by rw[this];exact Nat.lt_irrefl _)
def DV{L:List Nat}:∀{ps:List PT}{vs:List Value}{X:aj ps}{i:Nat},da w L ps vs X->(bj ps=true->L=[])->cM ps=true->L.Nodup ->
  ∃(f:Nat->an) (rvf:Nat->Value),(∀k∈L,f k≠.st) /\
   ∀(U:St) (E:aA),(∀k,k∈L->E.lab k=f k)->(∀k,k∉L->E.lab k=.st)->E.rv=rvf->(∀r row,au (d7 ps X i).2 r=some row->U.row r=some row) ->
    (∀p∈(d7 ps X i).1,∃j v,vs[j]? = some v/\(p.1=i+j\/p.1=100000+(i+j))/\av U E w p.2 v) /\
    (∀r row,au (d7 ps X i).2 r=some row->a7 w E.lab r row (E.rv r)):=by
 intro ps;have ro:∀{p:PT}{v:Value}{x:p.t.den}{U:St}{E:aA},(∃cs,d5 p.agg v cs/\Rd w (λk=>k∉L) p.t cs x)->(∀k,k∉L->E.lab k=.st)->av U E w (il p.agg (cD p.t x none)) v:=by
  rintro p v x U E ⟨cs,h1,h2⟩ hl
  exact lX h1 (gV (p:=none) (h2.mono λk hk=>hl k hk))
 have ros:∀{ps:List PT}{vs:List Value}{X:aj ps}{i:Nat},bj ps=true->da w L ps vs X->(d7 ps X i).2=[]/\∀(U:St) (E:aA),(∀k,k∉L->E.lab k=.st)->∀p∈(d7 ps X i).1,∃j v,vs[j]? = some v/\(p.1=i+j\/p.1=100000+(i+j))/\av U E w p.2 v:=by
  intro ps;induction ps with
  |nil=>intro vs X i _ _;exact⟨rfl,λU E _ p hp=>by simp[d7]at hp⟩
  |cons p ps ih =>
   intro vs X i hn ha;cases vs with
   |nil=>exact ha.elim
   |cons v vs =>
    obtain⟨t,agg,io⟩:=p;simp only[bj,List.all_cons,Bool.and_eq_true,Bool.not_eq_true']at hn;obtain⟨hio,hn⟩:=hn;subst hio;obtain⟨h1,h2⟩:=ha;obtain⟨g1,g2⟩:=ih (i:=i+1) hn h2;refine⟨g1,λU E hl p hp=>?_⟩;rcases List.mem_cons.1 hp with rfl|hp;·exact⟨0,v,rfl,.inl rfl,ro (p:=⟨t,agg,false⟩) h1 hl⟩
    ·obtain⟨j,v',k1,k2,k3⟩:=g2 U E hl p hp;exact⟨j+1,v',(by simpa using k1),k2.elim (λe=>.inl (by omega)) (λe=>.inr (by omega)),k3⟩
 induction ps with
 |nil =>intro vs X i ha hn ho hL;have hL0:=hn rfl;subst hL0;refine⟨λ_=>.dead,λ_=>undef,(λk hk=>by cases hk),λU E _ _ _ _=>⟨λp hp=>by simp[d7]at hp,λr row hr=>by simp[d7,au]at hr⟩⟩
 |cons p ps ih =>
  intro vs X i ha hn ho hL;cases vs with
  |nil=>exact ha.elim
  |cons v vs =>
   obtain⟨t,agg,io⟩:=p;obtain⟨h1,h2⟩:=ha;cases io
   ·obtain⟨f,rvf,k1,k2⟩:=ih (i:=i+1) h2 (λhq=>hn (by simpa[bj]using hq)) ho hL;refine⟨f,rvf,k1,λU E e1 e2 e3 e4=>?_⟩;obtain⟨g1,g2⟩:=k2 U E e1 e2 e3 e4;refine⟨λp hp=>?_,g2⟩;rcases List.mem_cons.1 hp with rfl|hp;·exact⟨0,v,rfl,.inl rfl,ro (p:=⟨t,agg,false⟩) h1 e2⟩
    ·obtain⟨j,v',k1,k2,k3⟩:=g1 p hp;exact⟨j+1,v',(by simpa using k1),k2.elim (λe=>.inl (by omega)) (λe=>.inr (by omega)),k3⟩
   ·obtain⟨cs,hcv,hown⟩:=h1;have hown:am w t L cs X.1:=hown;obtain⟨f,rvf,k1,k2⟩:=jf (100000+i) (j:=0) hown hL;obtain⟨r1,r2⟩:=ros (i:=i+1) ho h2;have hrows:(d7 (⟨t,agg,true⟩::ps) X i).2=(aw (100000+i) t X.1 0).2.1:=rfl;refine⟨f,rvf,λk hk=>?_,λU E e1 e2 e3 e4=>?_⟩;·obtain⟨i',_,_,hf⟩:=k1 k hk;rcases hf with hf|hf<;>rw[hf]<;>simp
    ·rw[hrows]at e4;have hmem:∀p∈(aw (100000+i) t X.1 0).2.1,au (aw (100000+i) t X.1 0).2.1 p.1=some p.2:=sw _ _ _ _;obtain⟨g1,g2⟩:=k2 U E e1 (λp hp=>by rw[e3]) (λp hp=>e4 _ _ (hmem p hp));refine⟨λp hp=>?_,λr row hr=>?_⟩
     ·rcases List.mem_cons.1 hp with rfl|hp;·exact⟨0,v,rfl,.inl rfl,lX hcv g1⟩
      rcases List.mem_cons.1 hp with rfl|hp;·exact⟨0,v,rfl,.inr rfl,lX hcv g1⟩
      ·obtain⟨j,v',k1,k2,k3⟩:=r2 U E e2 p hp;exact⟨j+1,v',(by simpa using k1),k2.elim (λe=>.inl (by omega)) (λe=>.inr (by omega)),k3⟩
     ·rw[hrows]at hr;exact g2 (r,row) (dz hr)
def sx{sl:List (Nat×SV)}{σ0:St}{v:Value}{t:Nat}(h:∀p∈sl,p.1=t->av σ0 E w p.2 v):av σ0 E w (dS sl t) v:=by
 unfold dS;split;·rename_i s hs;exact h _ (dz hs) rfl
 ·exact(show ae σ0 E w .undef v from True.intro)
def gy(ts:Array Value):ResultVar->Sem Value
 |.tmp t=>pure (ts.getD t undef)
 |.cell x t=>do loadVar t (<-asAddr (ts.getD x undef))
def DW(fn:Func)(ts:Array Value):results fn ts=(do let vs <-fn.results.mapM (gy ts);pure (if h:vs.size=1 then vs[0]else .tuple vs)):=by
 unfold results;have:(λx:ResultVar=>match x with
  |.tmp t=>pure (ts.getD t undef)
  |.cell x t=>do loadVar t (<-asAddr (ts.getD x undef)))=gy ts:=by
  funext x;cases x<;>rfl
 rw[<-this];rfl
def lZ(hT:aG P T)(h:R w0 lab0 oo n U E a w):∀{rv:List ResultVar}{ss:List SV},fV T U rv=some ss ->
  ∃vs:List Value,ac (av U E w) ss vs/\(rv.mapM (gy a.tmps)).run P w=.ok vs w:=by
 intro rv;induction rv with
 |nil =>intro ss hr;injection hr with hr;subst hr;exact⟨[],trivial,by simp⟩
 |cons r rv ih =>
  intro ss hr;cases r with
  |tmp t =>
   simp only[fV]at hr;split at hr;·rename_i l hl;injection hr with hr;subst hr;obtain⟨vs,h1,h3⟩:=ih hl;refine⟨a.eval (.tmp t)::vs,⟨aJ h (.tmp t),h1⟩, ?_⟩;have h0:(gy a.tmps (.tmp t)).run P w=.ok (a.eval (.tmp t)) w:=rfl;rw[List.mapM_cons,Sem.run_bind,h0];show((do let bs <-rv.mapM (gy a.tmps);pure (a.eval (.tmp t)::bs)):Sem (List Value)).run P w=_;rw[Sem.run_bind,h3];rfl
   ·cases hr
  |cell x ty =>
   simp only[fV]at hr;split at hr
   ·rename_i c i l hc hi hl;split at hr
    ·rename_i s hs;injection hr with hr;subst hr;obtain⟨vs,h1,h3⟩:=ih hl;have hx:=aJ h (.tmp x);rw[hc]at hx;obtain⟨v,g1,g2⟩:=qp hT h hi hs hx;have g1:=g1 w (aV.refl w);have hx2:a.eval (.tmp x)=a.tmps.getD x undef:=rfl;rw[hx2]at g1;refine⟨v::vs,⟨g2,h1⟩, ?_⟩;have h0:(gy a.tmps (.cell x ty)).run P w=.ok v w:=by
      have ha:∃ad,a.tmps.getD x undef=.pointer (some ad):=by
       obtain⟨cs,hl',_⟩:∃cs,gU U c i.zero.length=some cs/\True:=by
        unfold lf at hs;split at hs;·rename_i cs hcs;exact⟨cs,hcs,trivial⟩
        ·cases hs
       obtain⟨ad,vs',f,e,_⟩:=qo h hl' (show ae U E w c (a.tmps.getD x undef)from hx);exact⟨_,e⟩
      obtain⟨ad,ha⟩:=ha;show((do loadVar ty (<-asAddr (a.tmps.getD x undef)):Sem Value)).run P w=_;rw[ha]at g1 ⊢;exact g1
     rw[List.mapM_cons,Sem.run_bind,h0];show((do let bs <-rv.mapM (gy a.tmps);pure (v::bs)):Sem (List Value)).run P w=_;rw[Sem.run_bind,h3];rfl
    ·cases hr
   ·cases hr
def l4{fn:Func}{vs:List Value}(h:(fn.results.toList.mapM (gy a.tmps)).run P w=.ok vs w):∃v,(results fn a.tmps).run P w=.ok v w/\fR vs v:=by
 have h2:(fn.results.mapM (gy a.tmps)).run P w=.ok vs.toArray w:=by rw[show fn.results=fn.results.toList.toArray from by simp,List.mapM_toArray];simp[h]
 rw[DW,Sem.run_bind,h2];match vs with
 |[]=>exact⟨.tuple #[],by simp,rfl⟩
 |[u]=>exact⟨u,by simp,rfl⟩
 |u::u'::vs=>exact⟨.tuple (u::u'::vs).toArray,by simp,rfl⟩
def DX(h:R w0 lab0 oo n U E a w){io:Bool}{t:Ty}{cs:List ab}{us:List Value}{y:t.den}(hz:io=true->lV U.row cs=true)(hp:cx U.row t cs=some y)(hc:ac (ae U E w) cs us):qZ io t us y:=by
 cases t with
 |sl e t =>
  intro hio hl;have hz:=hz hio;rcases qv (show fu U.row e t cs=some y from hp)with⟨rfl,rfl⟩|⟨r,row,rfl,hr,rfl,hd,rfl,rfl⟩;·obtain⟨u,rfl,hu⟩:=bA hc;obtain rfl:u=_:=hu;rfl
  ·obtain⟨u,rfl,hu⟩:=bA hc;obtain⟨rfl,_⟩:=hu;obtain⟨css,_,_,_,h4⟩:=h.rows r row hr;have hl:row.xs.length=0:=hl;simp only[lV,hr,hl]at hz;rw[h4 (by simpa using hz) hl]
 |int k=>trivial
 |bool=>trivial
 |str=>trivial
 |err=>trivial
 |fnc g=>trivial
 |pair a b=>trivial
def ov(h:R w0 lab0 oo n U E a w):∀{rs:List PT}{ss:List SV}{vs:List Value}{Y:aj rs},ky U.row rs ss=some Y->sr U.row rs ss->ac (av U E w) ss vs->(aq (fb rs ss)).Nodup ->
  ∃Lr,fQ w rs vs Y Lr/\Lr.Nodup/\∀k∈Lr,∃q∈aq (fb rs ss),cG E.lab q k
 |[],[],[],Y,_,_,_,_=>⟨[],rfl,List.nodup_nil,λk hk=>by cases hk⟩
 |p::ps,s::ss,v::vs,Y,hp,hz,hs,hn=>by
  simp only[ky]at hp;split at hp
  ·rename_i cs hcs;obtain⟨h1,h2⟩:=cV hp;obtain⟨us,k1,k2⟩:=jh hcs hs.1;have hcells:fb (p::ps) (s::ss)=cs++fb ps ss:=by simp[fb,hcs]
   rw[hcells,eK]at hn ⊢;obtain⟨n1,n2,n3⟩:=List.nodup_append.1 hn;obtain⟨L1,o1,o2,o3⟩:=eM h h1 k2 n1;obtain⟨L2,g1,g2,g3⟩:=ov h h2 hz.2 hs.2 n2;refine⟨L1++L2,⟨us,L1,L2,rfl,k1,o1,DX h (λhio=>hz.1 hio cs hcs) h1 k2,g1⟩,List.nodup_append.2 ⟨o2,g2,λx hx y hy e=>?_⟩,λk hk=>?_⟩;·subst e;obtain⟨q,q1,q2⟩:=o3 x hx;obtain⟨q',q1',q2'⟩:=g3 x hy;exact n3 q q1 q' q1' (gn q2 q2')
   ·rcases List.mem_append.1 hk with hk|hk;·obtain⟨q,q1,q2⟩:=o3 k hk;exact⟨q,List.mem_append_left _ q1,q2⟩
    ·obtain⟨q,q1,q2⟩:=g3 k hk;exact⟨q,List.mem_append_right _ q1,q2⟩
  ·cases hp
 |[],[],_::_,_,_,_,hs,_=>hs.elim
 |[],_::_,_,_,hp,_,_,_=>by cases hp
 |_::_,[],_,_,hp,_,_,_=>by cases hp
 |_::_,_::_,[],_,_,_,hs,_=>hs.elim
def sy(h:R w0 lab0 oo n U E a w):∀{ps:List PT}{i:Nat}{vs:List Value}{y:ca ps},lU U ps i=some y->vs.length=ps.length->(∀j v,vs[j]? = some v->oo (100000+(i+j))=v)->(aq (ju U ps i)).Nodup ->
  ∃L',hZ w L' ps vs y/\L'.Nodup/\∀k∈L',∃q∈aq (ju U ps i),cG E.lab q k
 |[],i,vs,y,_,_,_,_=>⟨[],rfl,List.nodup_nil,λk hk=>by cases hk⟩
 |⟨t,agg,false⟩::ps,i,v::vs,y,hr,hl,hv,hn=>by obtain⟨L',g1,g2,g3⟩:=sy h (ps:=ps) (i:=i+1) (vs:=vs) (y:=y) hr (by simpa using hl) (λj v' hj=>by have:=hv (j+1) v' (by simpa using hj);rwa [show i+1+j=i+(j+1)from by omega]) hn;exact⟨L',g1,g2,g3⟩
 |⟨t,agg,true⟩::ps,i,v::vs,y,hr,hl,hv,hn=>by
  simp only[lU]at hr;simp only[ju]at hn ⊢;split at hr
  ·rename_i cs hcs;rw[hcs]at hn;simp only at hn ⊢;have hs:=h.slots (100000+i);have hval:bX oo a (100000+i)=v:=by unfold bX;rw[if_neg (by omega)];exact hv 0 v rfl
   rw[hval]at hs;obtain⟨us,k1,k2⟩:=jh hcs hs;obtain⟨L,o1,o2,o3⟩:=eM h hr k2 hn;exact⟨L,⟨us,k1,o1⟩,o2,o3⟩
  ·cases hr
 |_::_,_,[],_,_,hl,_,_=>by simp at hl
def da.len{L:List Nat}:∀{ps:List PT}{vs:List Value}{X:aj ps},da w L ps vs X->vs.length=ps.length
 |[],[],_,_=>rfl
 |p::ps,v::vs,X,h=>by simp[da.len h.2]
 |[],_::_,_,h=>h.elim
 |_::_,[],_,h=>h.elim
def Ty.bd:(t:Ty)->t.den->Prop
 |.sl _ t,xs=>xs.length<=maxLen/\∀x∈xs,t.bd x
 |.pair a b,x=>a.bd x.1/\b.bd x.2
 |.int _,_=>True
 |.bool,_=>True
 |.str,_=>True
 |.err,_=>True
 |.fnc _,_=>True
def wO{α β:Type}{Q:α->β->Prop}{p:β->Prop}(hp:∀a b,Q a b->p b):∀{as:List α}{bs:List β},ac Q as bs->∀b∈bs,p b
 |[],[],_,_,hb=>by cases hb
 |_::_,_::_,h,b,hb=>by
  rcases List.mem_cons.1 hb with rfl|hb;·exact hp _ _ h.1
  ·exact wO hp h.2 b hb
 |[],_::_,h,_,_=>h.elim
 |_::_,[],h,_,_=>h.elim
def Rd.bd{S:Nat->Prop}:∀{t:Ty}{cs:List Value}{x:t.den},Rd w S t cs x->t.bd x
 |.int _,_,_,_=>trivial
 |.bool,_,_,_=>trivial
 |.str,_,_,_=>trivial
 |.err,_,_,_=>trivial
 |.fnc _,_,_,_=>trivial
 |.pair a b,_,_,h=>by obtain⟨c1,c2,_,h1,h2⟩:=h;exact⟨h1.bd,h2.bd⟩
 |.sl e t,_,xs,h=>by
  obtain⟨A,n,c,_,h1,h2,h3,h4⟩:=h;refine⟨by omega,λx hx=>?_⟩;rcases h4 with rfl|⟨ad,css,_,_,h5,_⟩;·rw[List.eq_nil_of_length_eq_zero h1]at hx;cases hx
  ·exact wO (p:=λx=>t.bd x) (λ_ _ hr=>hr.bd) h5 x hx
def am.bd:∀{t:Ty}{L:List Nat}{cs:List Value}{x:t.den},am w t L cs x->t.bd x:=λh=>(h.rd (S:=λ_=>True) λ_ _=>trivial).bd
def eB:(ps:List PT)->aj ps->Prop
 |[],_=>True
 |p::ps,X=>p.t.bd X.1/\eB ps X.2
def da.bd{L:List Nat}:∀{ps:List PT}{vs:List Value}{X:aj ps},da w L ps vs X->eB ps X
 |[],[],_,_=>trivial
 |p::ps,v::vs,X,h=>by
  refine⟨?_,h.2.bd⟩;obtain⟨cs,_,h1⟩:=h.1;cases hio:p.io;·rw[hio]at h1;exact Rd.bd h1
  ·rw[hio]at h1;exact am.bd h1
 |[],_::_,_,h=>h.elim
 |_::_,[],_,h=>h.elim
theorem DZ [Inv P] {f : Nat} {fn : Func} {c : Code} {sig : bf} {pre : Option (aj sig.ps → Bool)} {val : aj sig.ps → ca sig.ps × aj sig.rs} {pl : bN} {je : Option aa} (hf : P.funcs[f]? = some fn) (hb : fn.body = some c) (hname : (fn.name == "runtime.NumGoroutine") = false)
  (hm:P.follows .mixedOrders=true) (hT:aG P T) (hΓ:ao P Γ) (hc:dj fn.ntmps c=true) (hn:Nat.ble sig.ps.length fn.ntmps=true) (hn2:Nat.ble fn.ntmps 100000=true) (hone:cM sig.ps=true)
  (hG:∀X,eB sig.ps X->a8 pre X=true->∃N,ak Γ T B N c pl (bG sig.ps X) (ap je (su T sig fn.results.toList))=some (val X)):ax P f ⟨sig,pre,val⟩:=by
 intro w args L X y Y ha hno hL hlt hg hI hBL;have hg:cond (a8 pre X) (some (val X)) none=some (y,Y):=hg;obtain⟨N,hr⟩:∃N,ak Γ T B N c pl (bG sig.ps X) (ap je (su T sig fn.results.toList))=some (y,Y):=by
  cases hp:a8 pre X;·rw[hp]at hg;cases hg
  ·rw[hp]at hg;rw[<-hg];exact hG X ha.bd hp
 have hn:=Nat.le_of_ble_eq_true hn;have hn2:=Nat.le_of_ble_eq_true hn2;have hlen:args.size=sig.ps.length:=by have:=da.len ha;simpa using this
 refine .inl ⟨?_, ?_⟩
 ·have h1 : ¬ fn.name = "runtime.NumGoroutine" := by simpa using hname
  have h2:¬ fn.body=none:=by rw[hb];simp
  simp[callFunc,hf,h1,h2]
 obtain⟨f0,rvf,k1,k2⟩:=DV (i:=0) ha hno hone hL
 classical
 let lab0:Nat->an:=λk=>if k∈L then f0 k else .st
 let E:aA:=⟨lab0,rvf,λ_=>0⟩;let oo:Nat->Value:=λt=>args.getD (t-100000) undef;have hlab1:∀k,k∈L->E.lab k=f0 k:=λk hk=>if_pos hk;have hlab2:∀k,k∉L->E.lab k=.st:=λk hk=>if_neg hk;obtain⟨g1,g2⟩:=k2 (bG sig.ps X) E hlab1 hlab2 rfl (λr row h=>h);have hsz:(args++Array.replicate (fn.ntmps-args.size) undef).size=fn.ntmps:=by rw[Array.size_append,Array.size_replicate];omega
 have hR:R w lab0 oo fn.ntmps (bG sig.ps X) E { tmps:=args++Array.replicate (fn.ntmps-args.size) undef,defers:=[] } w:=by
  refine⟨hn2,hsz,rfl,λt=>?_,λb te cs hb=>?_,λr row hr=>g2 r row hr,⟨rfl,⟨rfl,λ_=>Nat.le_refl _⟩,rfl,Nat.le_refl _,λk hk hl=>⟨hl,rfl⟩,λk hk hl=>⟨hl,rfl⟩⟩⟩
  ·show av _ E w (dS (d7 sig.ps X 0).1 t) _;refine sx λp hp e=>?_;obtain⟨j,v,j1,j2,j3⟩:=g1 p hp;have hj:j<args.size:=by have:=(List.getElem?_eq_some_iff.1 j1).1;simpa using this
   have hval:bX oo { tmps:=args++Array.replicate (fn.ntmps-args.size) undef,defers:=[] } t=v:=by
    subst e;unfold bX;rcases j2 with j2|j2
    ·rw[if_pos (by omega),j2];simp only[Nat.zero_add,Array.getD_eq_getD_getElem?];rw[Array.getElem?_append_left hj];have:args[j]? = some v:=by simpa using j1
     rw[this];rfl
    ·rw[if_neg (by omega),j2];show args.getD (100000+(0+j)-100000) undef=v;rw[show 100000+(0+j)-100000=j from by omega,Array.getD_eq_getD_getElem?];have:args[j]? = some v:=by simpa using j1
     rw[this];rfl
   rw[hval];exact j3
  ·cases hb
 have hend:∀U' E' a' w',ou T sig fn.results.toList U'=some (y,Y)->R w lab0 oo fn.ntmps U' E' a' w'->a'.defers=[]/\∃v,(results fn a'.tmps).run P w'=.ok v w' /\
   ∃vs L' Lr,Ending.returned v=Ending.returned v/\lx w sig args.toList L y Y v w' vs L' Lr:=by
  intro U' E' a' w' hfin h';refine⟨h'.defers, ?_⟩;unfold ou at hfin;split at hfin
  ·rename_i ss hss;cases hq:cF (aq (fb sig.rs ss++ju U' sig.ps 0));·rw[hq]at hfin;cases hfin
   rw[hq]at hfin;obtain⟨hz,hfin⟩:=lW (show fc U'.row sig.rs ss _=some (y,Y)from hfin);obtain⟨p1,p2⟩:=cV (z:=(y,Y)) hfin;have hnd:=fv hq;rw[eK]at hnd;obtain⟨n1,n2,n3⟩:=List.nodup_append.1 hnd;obtain⟨vs,v1,v2⟩:=lZ hT h' hss;obtain⟨v,r1,r2⟩:=l4 v2;obtain⟨Lr,l1,l2,l3⟩:=ov h' p2 hz v1 n1;obtain⟨L',m1,m2,m3⟩:=sy h' (vs:=args.toList) p1 (da.len ha) (λj u hu=>by
    show args.getD (100000+(0+j)-100000) undef=u;rw[show 100000+(0+j)-100000=j from by omega,Array.getD_eq_getD_getElem?];have:args[j]? = some u:=by simpa using hu
    rw[this];rfl) n2
   have hold:∀k q,cG E'.lab q k->k∈L\/w.heap.size<=k:=by
    intro k q hk;by_cases h1:k∈L;·exact .inl h1
    ·refine .inr (Nat.le_of_not_lt λhlt=>?_);have:=(h'.same.old k hlt (hlab2 k h1)).1;rcases hk with hk|hk<;>rw[this]at hk<;>cases hk
   refine⟨v,r1,vs,L',Lr,rfl,r2,l1,m1,List.nodup_append.2 ⟨l2,m2,λx hx z hz e=>?_⟩,λk hk=>?_,λk hk=>?_,h'.same.os,h'.same.tape,h'.same.output,h'.same.size,λk hk hkL=>(h'.same.old k hk (hlab2 k hkL)).2⟩;·subst e;obtain⟨q,q1,q2⟩:=l3 x hx;obtain⟨q',q1',q2'⟩:=m3 x hz;exact n3 q q1 q' q1' (gn q2 q2')
   ·obtain⟨q,q1,q2⟩:=l3 k hk;exact hold k q q2
   ·obtain⟨q,q1,q2⟩:=m3 k hk;exact hold k q q2
  ·cases hfin
 refine calls_of_wp hf hb (fa hT (hΓ.at hI λk hk=>hlab2 k λhl=>hBL k hl hk) hm c pl hc hR hr ?_ (eS.join ?_ _));·intro ch a a' w' hq;obtain⟨_,v,vs,L',Lr,he,_⟩:=hq;cases he
 ·intro e U' E' a' w' hr' h';cases e with
  |nrm =>obtain⟨d1,v,d2,vs,L',Lr,d3,d4⟩:=hend U' E' a' w' hr' h';exact⟨d1,v,d2,v,vs,L',Lr,rfl,d4⟩
  |ret =>obtain⟨d1,v,d2,vs,L',Lr,d3,d4⟩:=hend U' E' a' w' hr' h';exact⟨d1,v,d2,v,vs,L',Lr,rfl,d4⟩
  |exit i=>cases hr'
end
def bg:(ps:List PT)->aj ps->Nat->Nat->List (Nat×SV)×List (Nat×ah)
 |[],_,_,_=>([],[])
 |⟨t,agg,false⟩::ps,X,i,j=>((i,il agg (cD t X.1 none))::(bg ps X.2 (i+1) j).1,(bg ps X.2 (i+1) j).2)
 |⟨t,agg,true⟩::ps,X,i,j=>match aw 100000 t X.1 j with
  | (cs,rows,j1)=>((i,il agg cs)::(bg ps X.2 (i+1) j1).1,rows++(bg ps X.2 (i+1) j1).2)
def ow(U:St):Rf->Option (List ab)
 |none=>some []
 |some p=>match U.box 100000 with
  |some (te,cs)=>cond (Nat.beq te p.1) (some cs) none
  |none=>none
def kz(U:St):Rf->Bool
 |none=>true
 |some _=>match U.slot 100000 with
  |.c (.box 100000 0)=>true
  |_=>false
section
variable {P : Program} {U U' : St} {E E' : aA} {w w' : World} {w0 : World} {lab0 : Nat → an} {oo : Nat → Value} {n : Nat} {a : Act} {T : aL} {Γ : Gm} {B : Nat → Option aa} {N : Nat} [DC]
def bY.len{S:Nat->Prop}:∀{ps:List PT}{vs:List Value}{X:aj ps}{L:List Nat},bY w S ps vs X L->vs.length=ps.length
 |[],[],_,_,_=>rfl
 |p::ps,v::vs,X,L,h=>by obtain⟨_,_,_,_,_,_,h⟩:=h;simp[bY.len h]
 |[],_::_,_,_,h=>h.elim
 |_::_,[],_,_,h=>h.elim
def bY.bd{S:Nat->Prop}:∀{ps:List PT}{vs:List Value}{X:aj ps}{L:List Nat},bY w S ps vs X L->eB ps X
 |[],[],_,_,_=>trivial
 |p::ps,v::vs,X,L,h=>by
  obtain⟨cs,L1,L2,_,_,h1,h2⟩:=h;refine⟨?_,h2.bd⟩;cases hio:p.io;·rw[hio]at h1;exact Rd.bd h1.2
  ·rw[hio]at h1;exact am.bd h1
 |[],_::_,_,_,h=>h.elim
 |_::_,[],_,_,h=>h.elim
def sC{ps:List PT}:∀{X:aj ps}{i j:Nat},∀p∈(bg ps X i j).2,∃q,j<=q/\p.1=aE 100000 q:=by
 induction ps with
 |nil=>intro X i j p hp;simp[bg]at hp
 |cons p0 ps ih =>
  intro X i j p hp;obtain⟨t,agg,io⟩:=p0;cases io;·exact ih (X:=X.2) p hp
  ·simp only[bg,List.mem_append]at hp;rcases hp with hp|hp;·obtain⟨q,q1,_,q2⟩:=(eO 100000).2 p hp;exact⟨q,q1,q2⟩
   ·obtain⟨q,q1,q2⟩:=ih (X:=X.2) p hp;exact⟨q,Nat.le_trans (eO 100000).1 q1,q2⟩
def wQ{l1 l2:List (Nat×ah)}{j1:Nat}(h1:∀p∈l1,au l1 p.1=some p.2)(h2:∀p∈l2,au l2 p.1=some p.2)(m1:∀p∈l1,∃q,q<j1/\p.1=aE 100000 q)(m2:∀p∈l2,∃q,j1<=q/\p.1=aE 100000 q):∀p∈l1++l2,au (l1++l2) p.1=some p.2:=by
 intro p hp;rw[lY];rcases List.mem_append.1 hp with hp|hp;·rw[h1 p hp]
 ·cases hl:au l1 p.1 with
  |none=>exact h2 p hp
  |some v =>obtain⟨q,q1,q2⟩:=m1 _ (dz hl);obtain⟨q',q3,q4⟩:=m2 p hp;have:=jd (q2.symm.trans q4);omega
def sD{t:Ty}{y:t.den}{j:Nat}:∀p∈(aw 100000 t y j).2.1,∃q,q<(aw 100000 t y j).2.2/\p.1=aE 100000 q:=λp hp=>by obtain⟨q,_,q1,q2⟩:=(eO 100000).2 p hp;exact⟨q,q1,q2⟩
def sE{ps:List PT}:∀{X:aj ps}{i j:Nat},∀p∈(bg ps X i j).2,au (bg ps X i j).2 p.1=some p.2:=by
 induction ps with
 |nil=>intro X i j p hp;simp[bg]at hp
 |cons p0 ps ih =>
  intro X i j;obtain⟨t,agg,io⟩:=p0;cases io;·exact ih (X:=X.2)
  ·exact wQ (sw 100000 t X.1 j) (ih (X:=X.2)) sD sC
def l5{S:Nat->Prop}:∀{ps:List PT}{vs:List Value}{X:aj ps}{L:List Nat}{i j:Nat},bY w S ps vs X L->L.Nodup ->
  ∃(f:Nat->an) (rvf:Nat->Value),(∀k∈L,∃q,f k=.row (aE 100000 q)\/f k=.inn (aE 100000 q)) /\
   ∀(U:St) (E:aA),(∀k∈L,E.lab k=f k)->(∀k,S k->E.lab k=.st)->(∀p∈(bg ps X i j).2,E.rv p.1=rvf p.1)->(∀p∈(bg ps X i j).2,U.row p.1=some p.2) ->
    (∀p∈(bg ps X i j).1,∃m v,vs[m]? = some v/\p.1=i+m/\av U E w p.2 v)/\∀p∈(bg ps X i j).2,a7 w E.lab p.1 p.2 (E.rv p.1):=by
 intro ps;induction ps with
 |nil =>
  intro vs X L i j ha hn;cases vs with
  |cons _ _=>exact ha.elim
  |nil =>obtain rfl:L=[]:=ha;exact⟨λ_=>.st,λ_=>undef,(λk hk=>by cases hk),λU E _ _ _ _=>⟨λp hp=>by simp[bg]at hp,λp hp=>by simp[bg]at hp⟩⟩
 |cons p0 ps ih =>
  intro vs X L i j ha hn;cases vs with
  |nil=>exact ha.elim
  |cons v vs =>
   obtain⟨cs,L1,L2,rfl,hcv,h1,h2⟩:=ha;obtain⟨n1,n2,n3⟩:=List.nodup_append.1 hn;obtain⟨t,agg,io⟩:=p0;cases io
   ·obtain⟨rfl,hrd⟩:=h1;obtain⟨f,rvf,k1,k2⟩:=ih (i:=i+1) (j:=j) h2 n2;refine⟨f,rvf,k1,λU E e1 e2 e3 e4=>?_⟩;obtain⟨g1,g2⟩:=k2 U E e1 e2 e3 e4;refine⟨λp hp=>?_,g2⟩;rcases List.mem_cons.1 hp with rfl|hp;·exact⟨0,v,rfl,rfl,lX hcv (gV (p:=none) (hrd.mono λk hk=>e2 k hk))⟩
    ·obtain⟨m,v',q1,q2,q3⟩:=g1 p hp;exact⟨m+1,v',by simpa using q1,by omega,q3⟩
   ·have hown:am w t L1 cs X.1:=h1;obtain⟨f1,v1,a1,b1⟩:=jf 100000 (j:=j) hown n1;obtain⟨f2,v2,a2,b2⟩:=ih (i:=i+1) (j:=(aw 100000 t X.1 j).2.2) h2 n2;have m1:∀p∈(aw 100000 t X.1 j).2.1,∃q,q<(aw 100000 t X.1 j).2.2/\p.1=aE 100000 q:=sD;have m2:∀p∈(bg ps X.2 (i+1) (aw 100000 t X.1 j).2.2).2,∃q,(aw 100000 t X.1 j).2.2<=q/\p.1=aE 100000 q:=sC;refine⟨λk=>if k∈L1 then f1 k else f2 k,λq=>if ∃p∈(aw 100000 t X.1 j).2.1,p.1=q then v1 q else v2 q,λk hk=>?_,λU E e1 e2 e3 e4=>?_⟩
    ·by_cases hk1:k∈L1;·obtain⟨q,_,_,hq⟩:=a1 k hk1;exact⟨q,by simpa[hk1]using hq⟩
     ·obtain⟨q,hq⟩:=a2 k ((List.mem_append.1 hk).resolve_left hk1);exact⟨q,by simpa[hk1]using hq⟩
    ·have hm:(bg (⟨t,agg,true⟩::ps) X i j)=((i,il agg (aw 100000 t X.1 j).1)::(bg ps X.2 (i+1) (aw 100000 t X.1 j).2.2).1,(aw 100000 t X.1 j).2.1++(bg ps X.2 (i+1) (aw 100000 t X.1 j).2.2).2):=rfl;rw[hm]at e3 e4 ⊢;obtain⟨g1,g2⟩:=b1 U E (λk hk=>(e1 k (List.mem_append_left _ hk)).trans (if_pos hk)) (λp hp=>(e3 p (List.mem_append_left _ hp)).trans (if_pos ⟨p,hp,rfl⟩)) (λp hp=>e4 p (List.mem_append_left _ hp));obtain⟨g3,g4⟩:=b2 U E (λk hk=>(e1 k (List.mem_append_right _ hk)).trans (if_neg λh'=>n3 k h' k hk rfl)) e2 (λp hp=>(e3 p (List.mem_append_right _ hp)).trans (if_neg λ⟨p',hp',e⟩=>by obtain⟨q,q1,q2⟩:=m1 p' hp';obtain⟨q',q3,q4⟩:=m2 p hp;have:=jd (q2.symm.trans (e.trans q4));omega)) (λp hp=>e4 p (List.mem_append_right _ hp));refine⟨λp hp=>?_,λp hp=>?_⟩
     ·rcases List.mem_cons.1 hp with rfl|hp;·exact⟨0,v,rfl,rfl,lX hcv g1⟩
      ·obtain⟨m,v',q1,q2,q3⟩:=g3 p hp;exact⟨m+1,v',by simpa using q1,by omega,q3⟩
     ·rcases List.mem_append.1 hp with hp|hp;·exact g2 p hp
      ·exact g4 p hp
def ip{args:Array Value}{m:Nat}{v:Value}(h:args.toList[m]? = some v):args.getD m undef=v:=by
 rw[Array.getD_eq_getD_getElem?];have:args[m]? = some v:=by simpa using h
 rw[this];rfl
end
def bq:Gm:=⟨λ_=>none,λ_=>none,λ_=>none,λ_=>none,λ_=>none,λ_=>none⟩
def ao.nil[DC]{P:Program}[Inv P]:ao P bq:=⟨λf en h=>(by cases h),λf en h=>(by cases h),λf en h=>(by cases h),λf en h=>(by cases h),λf en h=>(by cases h),λf en h=>(by cases h)⟩
def aT(Γ:Gm)(f:Nat)(en:aO):Gm:=⟨λk=>cond (Nat.beq k f) (some en) (Γ.g k),Γ.m,Γ.v,Γ.n,Γ.s,Γ.z⟩
def addV(Γ:Gm)(f:Nat)(en:dH):Gm:=⟨Γ.g,Γ.m,λk=>cond (Nat.beq k f) (some en) (Γ.v k),Γ.n,Γ.s,Γ.z⟩
def addN(Γ:Gm)(f:Nat)(en:fB):Gm:=⟨Γ.g,Γ.m,Γ.v,λk=>cond (Nat.beq k f) (some en) (Γ.n k),Γ.s,Γ.z⟩
def addZ(Γ:Gm)(f:Nat)(en:fU):Gm:=⟨Γ.g,Γ.m,Γ.v,Γ.n,Γ.s,λk=>cond (Nat.beq k f) (some en) (Γ.z k)⟩
def oy(rs:List PT):Bool:=rs.all λp=>p.agg||Nat.beq p.t.nc 1
def sF{rs:List PT}(hf:oy rs=true):∀p∈rs,p.agg=false->p.t.nc=1:=λp hp ha=>by have:=List.all_eq_true.1 hf p hp;rw[ha]at this;exact Nat.eq_of_beq_eq_true (by simpa using this)
def ao.add[DC]{P:Program}[Inv P]{Γ:Gm}(h:ao P Γ){f:Nat}{en:aO}(he:ax P f en)(hf:oy en.sig.rs=true):ao P (aT Γ f en):=by
 refine⟨λk en' hk=>?_,h.m,h.v,h.n,h.s,h.z⟩;simp only[aT]at hk;cases hb:Nat.beq k f;·rw[hb]at hk;exact h.g k en' hk
 ·rw[hb]at hk;injection hk with hk;subst hk;obtain rfl:=Nat.eq_of_beq_eq_true hb;exact⟨he,sF hf⟩
def ao.addV[DC]{P:Program}[Inv P]{Γ:Gm}(h:ao P Γ){f:Nat}{en:dH}(he:cW P f en)(hf:oy en.rs=true):ao P (addV Γ f en):=by
 refine⟨h.g,h.m,λk en' hk=>?_,h.n,h.s,h.z⟩;simp only[Fw.addV]at hk;cases hb:Nat.beq k f;·rw[hb]at hk;exact h.v k en' hk
 ·rw[hb]at hk;injection hk with hk;subst hk;obtain rfl:=Nat.eq_of_beq_eq_true hb;exact⟨he,sF hf⟩
def ao.addN[DC]{P:Program}[Inv P]{Γ:Gm}(h:ao P Γ){f:Nat}{en:fB}(he:ia P f en):ao P (addN Γ f en):=by
 refine⟨h.g,h.m,h.v,λk en' hk=>?_,h.s,h.z⟩;simp only[Fw.addN]at hk;cases hb:Nat.beq k f;·rw[hb]at hk;exact h.n k en' hk
 ·rw[hb]at hk;injection hk with hk;subst hk;obtain rfl:=Nat.eq_of_beq_eq_true hb;exact he
def ao.addZ[DC]{P:Program}[Inv P]{Γ:Gm}(h:ao P Γ){f:Nat}{en:fU}(he:kg P f en):ao P (addZ Γ f en):=by
 refine⟨h.g,h.m,h.v,h.n,h.s,λk en' hk=>?_⟩;simp only[Fw.addZ]at hk;cases hb:Nat.beq k f;·rw[hb]at hk;exact h.z k en' hk
 ·rw[hb]at hk;injection hk with hk;subst hk;obtain rfl:=Nat.eq_of_beq_eq_true hb;exact he
def bv(f:Func):Code:=match f.body with|some c=>c|none=>.skip
def af(n:Int):Int:=IntKind.i64.wrap n
def w8(n:Int):Int:=IntKind.u8.wrap n
def aI(n:Int)(m:Nat):Bool:=decide (0<=n)&&decide (n<(m:Int))
def kB:(l:List (Nat×Ty))->List Value->cb l->List ab
 |[],_,_=>[]
 |p::l,v::vs,x=>.bor v p.1 p.2 x.1::kB l vs x.2
 |_::_,[],_=>[]
def oB:List PT->Nat->List Nat
 |[],_=>[]
 |p::ps,i=>cond p.io (i::oB ps (i+1)) (oB ps (i+1))
def oC(l:List (Nat×SV)):List Nat->List (Nat×SV)
 |[]=>[]
 |i::is=>(100000+i,dS l i)::oC l is
def oD(ps:List PT)(X:aj ps):List (Nat×SV):=(0,.c (.box 100000 0))::(100000,.c (.box 100000 0))::((bg ps X 1 0).1++oC (bg ps X 1 0).1 (oB ps 1))
def db(k:cy)(ps:List PT)(lit:List Value)(X:(cb k.fx×k.t.den)×aj ps):St :=
 al (oD ps X.2) [(100000,(k.te,kB k.fx lit X.1.1++cD k.t X.1.2 none))] (bg ps X.2 1 0).2
def l7:List ab->Option (List Value)
 |[]=>some []
 |.bor v _ _ _::cs=>match l7 cs with
  |some l=>some (v::l)
  |none=>none
 |_=>none
def wR(U:St):(back:Bool)->(ps:List PT)->Option (ew back ps)
 |true,ps=>lU U ps 1
 |false,_=>some ()
def l8(U:St):Bool->List PT->List ab
 |true,ps=>ju U ps 1
 |false,_=>[]
def oE(T:aL)(k:cy)(ps:List PT)(back:Bool)(rs:List PT)(rv:List ResultVar)(U:St):Option (List Value×(k.t.den×(ew back ps×aj rs))) :=
 match fV T U rv,ow U (some (k.te,k.t))with
 |some ss,some cs=>cond (kz U (some (k.te,k.t))&&(cF (aq (fb rs ss++l8 U back ps))&&(aq (cs.drop k.fx.length)).isEmpty))
  (fc U.row rs ss (cU (l7 (cs.take k.fx.length)) (cU (cx U.row k.t (cs.drop k.fx.length)) (cU (wR U back ps) (ky U.row rs ss))))) none
 |_,_=>none
def wS(T:aL)(k:cy)(ps:List PT)(back:Bool)(rs:List PT)(rv:List ResultVar):Ex->St->Option (List Value×(k.t.den×(ew back ps×aj rs)))
 |.nrm,U=>oE T k ps back rs rv U
 |.ret,U=>oE T k ps back rs rv U
 |.exit _,_=>none
def oF:(l:List (Nat×Ty))->cb l->Prop
 |[],_=>True
 |p::l,x=>(Ty.sl p.1 p.2).bd x.1/\oF l x.2
section
variable {P : Program} {U U' : St} {E E' : aA} {w w' : World} {w0 : World} {lab0 : Nat → an} {oo : Nat → Value} {n : Nat} {a : Act} {T : aL} {Γ : Gm} {B : Nat → Option aa} {N : Nat} [DC]
def fA.bd{S:Nat->Prop}:∀{l:List (Nat×Ty)}{vs:List Value}{x:cb l},fA w S l vs x->oF l x
 |[],[],_,_=>trivial
 |p::l,v::vs,x,h=>⟨Rd.bd (t:=.sl p.1 p.2) h.1,h.2.bd⟩
 |[],_::_,_,h=>h.elim
 |_::_,[],_,h=>h.elim
def wT:∀{l:List (Nat×Ty)}{vs:List Value}{x:cb l},fA w (λk=>E.lab k=.st) l vs x->ac (ae U E w) (kB l vs x) vs
 |[],[],_,_=>trivial
 |p::l,v::vs,x,h=>⟨⟨rfl,h.1⟩,wT h.2⟩
 |[],_::_,_,h=>h.elim
 |_::_,[],_,h=>h.elim
def sG:∀{cs:List ab}{l us:List Value},l7 cs=some l->ac (ae U E w) cs us->us=l
 |[],l,[],h,_=>by injection h with h
 |[],l,_::_,h,hc=>hc.elim
 |c::cs,l,[],h,hc=>hc.elim
 |c::cs,l,u::us,h,hc=>by
  cases c with
  |bor v e t xs =>
   simp only[l7]at h;split at h;·rename_i l' hl;injection h with h;subst h;rw[sG hl hc.2,show u=v from hc.1.1]
   ·cases h
  |_=>cases h
def wU{l:List (Nat×SV)}:∀{is:List Nat}{p:Nat×SV},p∈oC l is->∃i∈is,p=(100000+i,dS l i)
 |i::is,p,h=>by
  rcases List.mem_cons.1 h with rfl|h;·exact⟨i,List.mem_cons_self,rfl⟩
  ·obtain⟨j,h1,h2⟩:=wU h;exact⟨j,List.mem_cons_of_mem _ h1,h2⟩
structure D3(w:World)(k:cy)(ps:List PT)(args:Array Value)(lit:List Value)(X:(cb k.fx×k.t.den)×aj ps)(g:Nat)(L:List Nat)(E:aA):Prop where
 out:∀k,k∉g::L->E.lab k=.st
 slots:∀t s,au (oD ps X.2) t=some s->av (db k ps lit X) E w s (if t<100000 then args.getD t undef else args.getD (t-100000) undef)
 boxes:∀b te cs,(db k ps lit X).box b=some (te,cs)->fN (db k ps lit X) E w b te cs
 rows:∀r row,(db k ps lit X).row r=some row->a7 w E.lab r row (E.rv r)
def D4{k:cy}{ps:List PT}{args:Array Value}{lit:List Value}{X:(cb k.fx×k.t.den)×aj ps}{g:Nat}{L:List Nat}(ha:rG w (λk=>k∉g::L) k ps args.toList X lit g L)(hn:(g::L).Nodup)(hlen:ps.length+1<=100000)(hsm:Nat.blt k.te bi=true):∃E,D3 w k ps args lit X g L E:=by
 classical
 obtain⟨v0,vs0,hal,⟨hv0,arr,cm,m1,m2,m3,m4,m5⟩,ha⟩:=ha;obtain⟨ng,hnL⟩:=List.nodup_cons.1 hn;obtain⟨f2,v2,a2,b2⟩:=l5 (i:=1) (j:=0) ha hnL;have hl:=ha.len;let E:aA:=⟨λk=>if k=g then .box 100000 else if k∈L then f2 k else .st,v2,λ_=>g⟩;have lg:E.lab g=.box 100000:=if_pos rfl;have l2:∀k∈L,E.lab k=f2 k:=λk hk=>(if_neg λ(e:k=g)=>ng (by rw[<-e];exact hk)).trans (if_pos hk);have lo:∀k,k∉g::L->E.lab k=.st:=λk hk=>(if_neg λe=>hk (by simp[e])).trans (if_neg λh'=>hk (by simp[h']));obtain⟨g3,g4⟩:=b2 (db k ps lit X) E l2 lo (λq hq=>rfl) (λq hq=>sE q hq);have hbox:(db k ps lit X).box 100000=some (k.te,kB k.fx lit X.1.1++cD k.t X.1.2 none):=rfl;have hflat:ac (ae (db k ps lit X) E w) (cD k.t X.1.2 none) cm:=lG m5;have hcs:0<(kB k.fx lit X.1.1++cD k.t X.1.2 none).length:=by have e1:=hflat.len;have e2:=m5.len;have:=k.t.nc_pos;rw[List.length_append];omega
 have h0:args.getD 0 undef=v0:=ip (by rw[hal];rfl);have hptr:av (db k ps lit X) E w (.c (.box 100000 0)) v0:=⟨hv0,_,_,hbox,hcs⟩;have hsl:∀t s,au (bg ps X.2 1 0).1 t=some s->1<=t/\t<100000/\av (db k ps lit X) E w s (args.getD t undef):=λt s hs=>by obtain⟨m,v,q1,q2,q3⟩:=g3 _ (dz hs);have hm':m<vs0.length:=(List.getElem?_eq_some_iff.1 q1).1;simp only at q2;refine⟨by omega,by omega, ?_⟩;rw[show t=m+1 by omega,ip (by rw[hal];simpa using q1)];exact q3
 refine⟨E,⟨lo,λt s hs=>?_,λb te cs hb=>?_,λr row hr=>g4 (r,row) (dz hr)⟩⟩
 ·unfold oD at hs;have hs2:au ([(0,.c (.box 100000 0)),(100000,.c (.box 100000 0))]++((bg ps X.2 1 0).1++oC (bg ps X.2 1 0).1 (oB ps 1))) t=some s:=hs;rw[lY]at hs2;split at hs2
  ·rename_i s' hs';injection hs2 with hs2;subst hs2;rcases List.mem_cons.1 (dz hs')with e|hm;·injection e with e1 e2;subst e1 e2;rw[if_pos (by omega),h0];exact hptr
   rcases List.mem_cons.1 hm with e|hm;·injection e with e1 e2;subst e1 e2;rw[if_neg (by omega),Nat.sub_self,h0];exact hptr
   ·cases hm
  ·rw[lY]at hs2;split at hs2;·rename_i s' hs';injection hs2 with hs2;subst hs2;obtain⟨q1,q2,q3⟩:=hsl t _ hs';rw[if_pos q2];exact q3
   ·obtain⟨i,_,e⟩:=wU (dz hs2);injection e with e1 e2;subst e1 e2;rw[if_neg (by omega),show 100000+i-100000=i by omega];unfold dS;split;·rename_i s' hs';exact(hsl i _ hs').2.2
    ·show True;trivial
 ·have hb':au [(100000,(k.te,kB k.fx lit X.1.1++cD k.t X.1.2 none))] b=some (te,cs):=hb;have:=dz hb';simp only[List.mem_singleton,Prod.mk.injEq]at this;obtain⟨rfl,rfl,rfl⟩:=this;refine⟨arr,.inl ⟨by simpa using hsm,m1⟩,lg, ?_,m2⟩;rw[m3];exact ac.app (wT (m4.mono lo)) hflat
def D5(h:R w0 lab0 oo n U E a w):∀{back:Bool}{ps:List PT}{vs:List Value}{y:ew back ps},wR U back ps=some y->vs.length=ps.length->(∀j v,vs[j]? = some v->oo (100000+(1+j))=v)->(aq (l8 U back ps)).Nodup ->
  ∃Lb,nT w Lb back ps vs y/\Lb.Nodup/\∀q∈Lb,∃r∈aq (l8 U back ps),cG E.lab r q
 |false,ps,vs,y,_,_,_,_=>⟨[],rfl,List.nodup_nil,λq hq=>by cases hq⟩
 |true,ps,vs,y,hr,hl,hv,hn=>sy h (i:=1) (vs:=vs) hr hl hv hn
theorem D6 [Inv P] {f : Nat} {fn : Func} {c : Code} {k : cy} {ps rs : List PT} {back : Bool} {pre : Option ((cb k.fx × k.t.den) × aj ps → Bool)} {val : (cb k.fx × k.t.den) × aj ps → k.t.den × (ew back ps × aj rs)} {pl : bN} {je : Option aa} (hf : P.funcs[f]? = some fn) (hb : fn.body = some c) (hname : (fn.name == "runtime.NumGoroutine") = false)
  (hm:P.follows .mixedOrders=true) (hT:aG P T) (hΓ:ao P Γ) (hc:dj fn.ntmps c=true) (hn:Nat.ble (ps.length+1) fn.ntmps=true) (hn2:Nat.ble fn.ntmps 100000=true)
  (hG:∀lit X,lit.length=k.fx.length->oF k.fx X.1.1->eB ps X.2->a8 pre X=true->∃N,ak Γ T B N c pl (db k ps lit X) (ap je (wS T k ps back rs fn.results.toList))=some (lit,val X)) (hsm:Nat.blt k.te bi=true:=by rfl):cW P f ⟨k,ps,back,rs,pre,val⟩:=by
 intro w args L g lit X ha hL hlt hpre hI hBL;have ha0:=ha;obtain⟨v0,vs0,hal,⟨hv0,arr0,cm0,m1,m2,m3,m4,m5⟩,hag⟩:=ha0;obtain⟨N,hr⟩:=hG lit X m4.len m4.bd hag.bd hpre;have hn:=Nat.le_of_ble_eq_true hn;have hn2:=Nat.le_of_ble_eq_true hn2;have hlen:args.size=ps.length+1:=by have hl0:vs0.length=ps.length:=hag.len;have e:=congrArg List.length hal;simp at e;omega
 refine .inl ⟨?_, ?_⟩
 ·have h1 : ¬ fn.name = "runtime.NumGoroutine" := by simpa using hname
  have h2:¬ fn.body=none:=by rw[hb];simp
  simp[callFunc,hf,h1,h2]
 obtain⟨E,st⟩:=D4 ha hL (show ps.length+1<=100000 by omega) hsm;let oo:Nat->Value:=λt=>args.getD (t-100000) undef;have hsz:(args++Array.replicate (fn.ntmps-args.size) undef).size=fn.ntmps:=by rw[Array.size_append,Array.size_replicate];omega
 have hund:∀t,args.size<=t->(args++Array.replicate (fn.ntmps-args.size) undef).getD t undef=undef:=by
  intro t ht;rw[Array.getD_eq_getD_getElem?,Array.getElem?_append_right ht];by_cases h:t-args.size<fn.ntmps-args.size;·simp[Array.getElem?_replicate,h]
  ·simp[Array.getElem?_replicate,h]
 have hR:R w E.lab oo fn.ntmps (db k ps lit X) E { tmps:=args++Array.replicate (fn.ntmps-args.size) undef,defers:=[] } w:=by
  refine⟨hn2,hsz,rfl,λt=>?_,st.boxes,st.rows,⟨rfl,⟨rfl,λ_=>Nat.le_refl _⟩,rfl,Nat.le_refl _,λk hk hl=>⟨hl,rfl⟩,λk hk hl=>⟨hl,rfl⟩⟩⟩;have hval:bX oo { tmps:=args++Array.replicate (fn.ntmps-args.size) undef,defers:=[] } t=if t<100000 then args.getD t undef else args.getD (t-100000) undef:=by
   unfold bX;by_cases ht:t<100000
   ·rw[if_pos ht,if_pos ht];by_cases hlt:t<args.size;·simp only[Array.getD_eq_getD_getElem?];rw[Array.getElem?_append_left hlt]
    ·rw[hund t (by omega),Array.getD_eq_getD_getElem?,Array.getElem?_eq_none (by omega)];rfl
   ·rw[if_neg ht,if_neg ht]
  rw[hval];show av (db k ps lit X) E w (dS (oD ps X.2) t) _;unfold dS;split;·rename_i s hs;exact st.slots t s hs
  ·show True;trivial
 have hend:∀U' E' a' w',oE T k ps back rs fn.results.toList U'=some (lit,val X)->R w E.lab oo fn.ntmps U' E' a' w'->a'.defers=[]/\∃v,(results fn a'.tmps).run P w'=.ok v w' /\
   ∃vs Lb Lr,Ending.returned v=Ending.returned v/\rH w ⟨k,ps,back,rs,pre,val⟩ args.toList lit g L (val X) v w' vs Lb Lr:=by
  intro U' E' a' w' hfin h';refine⟨h'.defers, ?_⟩;unfold oE at hfin;split at hfin
  ·rename_i ss cs hss hrf;cases hq:(kz U' (some (k.te,k.t))&&(cF (aq (fb rs ss++l8 U' back ps))&&(aq (cs.drop k.fx.length)).isEmpty));·rw[hq]at hfin;cases hfin
   rw[hq]at hfin;simp only[Bool.and_eq_true,List.isEmpty_iff]at hq;obtain⟨hkept,hnd,hnone⟩:=hq;obtain⟨hz,hfin⟩:=lW (show fc U'.row rs ss _=some (lit,val X)from hfin);obtain⟨p0,p123⟩:=cV (z:=(lit,val X)) hfin;obtain⟨p1,p23⟩:=cV (z:=val X) p123;obtain⟨p2,p3⟩:=cV (z:=(val X).2) p23;have hnd:=fv hnd;rw[eK]at hnd;obtain⟨n1,n2,n3⟩:=List.nodup_append.1 hnd;obtain⟨vs,v1,v2⟩:=lZ hT h' hss;obtain⟨v,r1,r2⟩:=l4 v2;obtain⟨Lr,l1,l2,l3⟩:=ov h' p3 hz v1 n1;simp only[ow]at hrf;split at hrf
   ·rename_i te cs' hbx;cases hte:Nat.beq te k.te;·rw[hte]at hrf;cases hrf
    rw[hte]at hrf;injection hrf with hrf;subst hrf;obtain rfl:=Nat.eq_of_beq_eq_true hte;obtain⟨arr,k1,k2,k3,k4⟩:=h'.boxes 100000 _ _ hbx;have k1:=k1.cells (by simpa using hsm);have hs0:av U' E' w' (U'.slot 100000) (bX oo a' 100000):=h'.slots 100000;simp only[kz]at hkept;split at hkept
    ·rename_i hsl;rw[hsl]at hs0;obtain⟨hp,_⟩:=(show ae U' E' w' (.box 100000 0) _ from hs0);have hu:bX oo a' 100000=v0:=by unfold bX;rw[if_neg (by omega)];exact ip (by rw[hal];rfl)
     rw[hu,hv0]at hp;injection hp with hp;injection hp with hp;injection hp with hp;rw[<-hp]at k1 k2;have e0:arr.toList.take k.fx.length=lit:=sG p0 (k3.take k.fx.length);obtain⟨L1,o1,o2,o3⟩:=eM h' p1 (k3.drop k.fx.length) (by rw[hnone];exact List.nodup_nil);have hL1:L1=[]:=by
      cases L1 with
      |nil=>rfl
      |cons x xs =>obtain⟨q,q1,_⟩:=o3 x List.mem_cons_self;rw[hnone]at q1;cases q1
     subst hL1;obtain⟨Lb,b1,b2,b3⟩:∃Lb,nT w' Lb back ps args.toList.tail (val X).2.1/\Lb.Nodup/\∀q∈Lb,∃r∈aq (l8 U' back ps),cG E'.lab r q:=by rw[hal];exact D5 (vs:=vs0) h' p2 hag.len (λj u hu=>by show args.getD (100000+(1+j)-100000) undef=u;rw[show 100000+(1+j)-100000=j+1 from by omega];exact ip (by rw[hal];simpa using hu)) n2
     have hold:∀q r,cG E'.lab r q->q∈L\/w.heap.size<=q:=by
      intro q r hk;by_cases h1:q∈g::L
      ·rcases List.mem_cons.1 h1 with rfl|h1;·rcases hk with hk|hk<;>rw[k2]at hk<;>cases hk
       ·exact .inl h1
      ·refine .inr (Nat.le_of_not_lt λhlt=>?_);have:=(h'.same.old q hlt (st.out q h1)).1;rcases hk with hk|hk<;>rw[this]at hk<;>cases hk
     refine⟨v,r1,vs,Lb,Lr,rfl,r2,l1,⟨arr,_,k1,k4, ?_,o1⟩,b1,List.nodup_append.2 ⟨l2,b2,λx hx z hz e=>?_⟩,λq hq=>?_,h'.same.os,h'.same.tape,h'.same.output,h'.same.size,λq hq hqL=>(h'.same.old q hq (st.out q hqL)).2⟩;·rw[<-e0];exact(List.take_append_drop _ _).symm
     ·subst e;obtain⟨q,q1,q2⟩:=l3 x hx;obtain⟨q',q1',q2'⟩:=b3 x hz;exact n3 q q1 q' q1' (gn q2 q2')
     ·rcases List.mem_append.1 hq with hq|hq;·obtain⟨r,q1,q2⟩:=l3 q hq;exact hold q r q2
      ·obtain⟨r,q1,q2⟩:=b3 q hq;exact hold q r q2
    ·cases hkept
   ·cases hrf
  ·cases hfin
 refine calls_of_wp hf hb (fa hT (hΓ.at hI λk hk=>st.out k λhl=>hBL k hl hk) hm c pl hc hR hr ?_ (eS.join ?_ _));·intro ch a a' w' hq;obtain⟨_,v,vs,L',Lr,he,_⟩:=hq;cases he
 ·intro e U' E' a' w' hr' h';cases e with
  |nrm =>obtain⟨d1,v,d2,vs,L',Lr,d3,d4⟩:=hend U' E' a' w' hr' h';exact⟨d1,v,d2,v,vs,L',Lr,rfl,d4⟩
  |ret =>obtain⟨d1,v,d2,vs,L',Lr,d3,d4⟩:=hend U' E' a' w' hr' h';exact⟨d1,v,d2,v,vs,L',Lr,rfl,d4⟩
  |exit i=>cases hr'
def jv(e:Nat)(t0:Ty)(ps:List PT)(v0:Value)(X:List t0.den×aj ps):St:=al ((0,.c (.bor v0 e t0 X.1))::(bg ps X.2 1 0).1) [] []
def oG(T:aL)(k:cy)(rv:List ResultVar)(U:St):Option (List Value×k.t.den) :=
 match fV T U rv with
 |some [.c (.box b 0)]=>match U.box b with
  |some (te,cs)=>cond (Nat.beq te k.te&&(aq (cs.drop k.fx.length)).isEmpty) (cU (l7 (cs.take k.fx.length)) (cx U.row k.t (cs.drop k.fx.length))) none
  |none=>none
 |_=>none
def wV(T:aL)(k:cy)(rv:List ResultVar):Ex->St->Option (List Value×k.t.den)
 |.nrm,U=>oG T k rv U
 |.ret,U=>oG T k rv U
 |.exit _,_=>none
theorem D7 [Inv P] {f : Nat} {fn : Func} {c : Code} {te e : Nat} {t0 t : Ty} {ps : List PT} {pre : Option (aj (⟨.sl e t0, false, false⟩ :: ps) → Bool)} {val : aj (⟨.sl e t0, false, false⟩ :: ps) → t.den} {pl : bN} {je : Option aa} (hf : P.funcs[f]? = some fn) (hb : fn.body = some c) (hname : (fn.name == "runtime.NumGoroutine") = false)
  (hm:P.follows .mixedOrders=true) (hT:aG P T) (hΓ:ao P Γ) (hc:dj fn.ntmps c=true) (hn:Nat.ble (ps.length+1) fn.ntmps=true) (hn2:Nat.ble fn.ntmps 100000=true) (hno:bj ps=true)
  (hG:∀v0 X,eB (⟨.sl e t0,false,false⟩::ps) X->a8 pre X=true->∃N,ak Γ T B N c pl (jv e t0 ps v0 X) (ap je (wV T ⟨te,[(e,t0)],t⟩ fn.results.toList))=some ([v0],val X)) (hsm:Nat.blt te bi=true:=by rfl):ia P f ⟨⟨te,[(e,t0)],t⟩,⟨.sl e t0,false,false⟩::ps,pre,val⟩:=by
 intro w args X ha hpre hI;have ha:bY w (λ_=>True) (⟨.sl e t0,false,false⟩::ps) args.toList X []:=ha;have hbd:=ha.bd;match hal:args.toList,ha with
 |[],ha=>exact ha.elim
 |v0::vs0,ha =>
 obtain⟨cs0,L1,L2,hLL,hcv,hrd,ha⟩:=ha;have hcv:cs0=[v0]:=hcv;subst hcv;obtain⟨rfl,hrd⟩:L1=[]/\Rd w (λ_=>True) (.sl e t0) [v0] X.1:=hrd;have hL2:L2=[]:=by simpa using hLL.symm
 subst hL2;obtain⟨N,hr⟩:=hG v0 X hbd hpre;have hn:=Nat.le_of_ble_eq_true hn;have hn2:=Nat.le_of_ble_eq_true hn2;have hl:=ha.len;have hlen:args.size=ps.length+1:=by have e:=congrArg List.length hal;simp at e;omega
 refine .inl ⟨?_, ?_⟩
 ·have h1 : ¬ fn.name = "runtime.NumGoroutine" := by simpa using hname
  have h2:¬ fn.body=none:=by rw[hb];simp
  simp[callFunc,hf,h1,h2]
 obtain⟨f2,v2,a2,b2⟩:=l5 (i:=1) (j:=0) ha List.nodup_nil;let E:aA:=⟨λ_=>.st,v2,λ_=>0⟩;have hrows:(bg ps X.2 1 0).2=[]:=by
  have:∀{ps:List PT}{X:aj ps}{i j:Nat},bj ps=true->(bg ps X i j).2=[]:=by
   intro ps;induction ps with
   |nil=>intro X i j _;rfl
   |cons p ps ih =>intro X i j h;obtain⟨t,agg,io⟩:=p;simp only[bj,List.all_cons,Bool.and_eq_true,Bool.not_eq_true']at h;obtain⟨hio,h⟩:=h;subst hio;exact ih h
  exact this hno
 obtain⟨g3,_⟩:=b2 (jv e t0 ps v0 X) E (λk hk=>by cases hk) (λ_ _=>rfl) (λp hp=>rfl) (λp hp=>by rw[hrows]at hp;cases hp);let oo:Nat->Value:=λt=>undef;have hsz:(args++Array.replicate (fn.ntmps-args.size) undef).size=fn.ntmps:=by rw[Array.size_append,Array.size_replicate];omega
 have hget:∀m v,args.toList[m]? = some v->(args++Array.replicate (fn.ntmps-args.size) undef).getD m undef=v:=λm v h=>by
  have hlt:m<args.size:=by have:=(List.getElem?_eq_some_iff.1 h).1;simpa using this
  rw[Array.getD_eq_getD_getElem?,Array.getElem?_append_left hlt];have:args[m]? = some v:=by simpa using h
  rw[this];rfl
 have hR:R w E.lab oo fn.ntmps (jv e t0 ps v0 X) E { tmps:=args++Array.replicate (fn.ntmps-args.size) undef,defers:=[] } w:=by
  refine⟨hn2,hsz,rfl,λt=>?_,λb te cs hb=>(by cases hb),λr row hr=>(by cases hr),⟨rfl,⟨rfl,λ_=>Nat.le_refl _⟩,rfl,Nat.le_refl _,λk hk hl=>⟨hl,rfl⟩,λk hk hl=>⟨hl,rfl⟩⟩⟩;show av (jv e t0 ps v0 X) E w (dS ((0,.c (.bor v0 e t0 X.1))::(bg ps X.2 1 0).1) t) _;refine sx λp hp ep=>?_;have hv:∀m v,args.toList[m]? = some v->t=m->bX oo { tmps:=args++Array.replicate (fn.ntmps-args.size) undef,defers:=[] } t=v:=λm v h1 h2=>by
   have hlt:m<args.size:=by have:=(List.getElem?_eq_some_iff.1 h1).1;simpa using this
   unfold bX;rw[if_pos (by omega),h2];exact hget m v h1
  rcases List.mem_cons.1 hp with rfl|hp;·rw[hv 0 v0 (by rw[hal];rfl) ep.symm];exact(show ae (jv e t0 ps v0 X) E w (.bor v0 e t0 X.1) v0 from⟨rfl,hrd.mono λ_ _=>rfl⟩)
  ·obtain⟨m,v,q1,q2,q3⟩:=g3 p hp;rw[hv (m+1) v (by rw[hal];simpa using q1) (by omega)];exact q3
 have hend:∀U' E' a' w',oG T ⟨te,[(e,t0)],t⟩ fn.results.toList U'=some ([v0],val X)->R w E.lab oo fn.ntmps U' E' a' w'->a'.defers=[]/\∃v,(results fn a'.tmps).run P w'=.ok v w' /\
   ∃g,Ending.returned v=Ending.returned v/\rJ w ⟨⟨te,[(e,t0)],t⟩,⟨.sl e t0,false,false⟩::ps,pre,val⟩ (v0::vs0) (val X) v w' g:=by
  intro U' E' a' w' hfin h';refine⟨h'.defers, ?_⟩;unfold oG at hfin;split at hfin
  ·rename_i b hss;split at hfin
   ·rename_i te' cs hbx;simp only at hfin;cases hq:(Nat.beq te' te&&(aq (cs.drop ([(e,t0)]:List (Nat×Ty)).length)).isEmpty);·rw[hq]at hfin;cases hfin
    rw[hq]at hfin;simp only[Bool.and_eq_true,List.isEmpty_iff]at hq;obtain⟨hte,hnone⟩:=hq;obtain rfl:=Nat.eq_of_beq_eq_true hte;obtain⟨p0,p1⟩:=cV (z:=([v0],val X)) hfin;obtain⟨vs,v1,v2⟩:=lZ hT h' hss;obtain⟨v,r1,r2⟩:=l4 v2;match vs,v1 with
    |[],v1=>exact v1.elim
    |_::_::_,v1=>exact v1.2.elim
    |[u],v1 =>
    obtain rfl:v=u:=r2;obtain⟨hp,_⟩:=(show ae U' E' w' (.box b 0) v from v1.1);obtain⟨arr,k1,k2,k3,k4⟩:=h'.boxes b _ _ hbx;have k1:=k1.cells (by simpa using hsm);have e0:arr.toList.take ([(e,t0)]:List (Nat×Ty)).length=[v0]:=sG p0 (k3.take _);obtain⟨L1,o1,o2,o3⟩:=eM h' p1 (k3.drop _) (by rw[hnone];exact List.nodup_nil);have hL1:L1=[]:=by
     cases L1 with
     |nil=>rfl
     |cons x xs =>obtain⟨q,q1,_⟩:=o3 x List.mem_cons_self;rw[hnone]at q1;cases q1
    subst hL1;refine⟨v,r1,E'.bb b,rfl,hp,Nat.le_of_not_lt λhlt=>?_,⟨arr,_,k1,k4, ?_,o1⟩,h'.same.os,h'.same.tape,h'.same.output,h'.same.size,λq hq=>(h'.same.old q hq rfl).2⟩;·have:=(h'.same.old _ hlt rfl).1;rw[k2]at this;cases this
    ·show arr.toList=(v0::vs0).take 1++_;rw[show(v0::vs0).take 1=[v0]from rfl,<-e0];exact(List.take_append_drop _ _).symm
   ·cases hfin
  ·cases hfin
 refine calls_of_wp hf hb (fa hT (hΓ.at hI λk hk=>rfl) hm c pl hc hR hr ?_ (eS.join ?_ _));·intro ch a a' w' hq;obtain⟨_,v,g,he,_⟩:=hq;cases he
 ·intro ex U' E' a' w' hr' h';cases ex with
  |nrm =>obtain⟨d1,v,d2,g,d3,d4⟩:=hend U' E' a' w' hr' h';exact⟨d1,v,d2,v,g,rfl,d4⟩
  |ret =>obtain⟨d1,v,d2,g,d3,d4⟩:=hend U' E' a' w' hr' h';exact⟨d1,v,d2,v,g,rfl,d4⟩
  |exit i=>cases hr'
end
abbrev KT(J:Type):Type:=Ex->St->Option J
section
variable {J : Type} {Γ : Gm} {T : aL} {B : Nat → Option aa} {N : Nat} {c a b : Code} {p pa pb : bN} {U : St} {K : KT J}
def wX{x:Operand}{t:Bool}{A A' W:Option J}(hc:c=.cond x a b)(hp:p=.mk none none pa pb)(hx:ev U x=.c (.bool t))
  (h1:ak Γ T B N a pa U K=A) (h2:ak Γ T B N b pb U K=A') (e:cond t A A'=W):ak Γ T B N c p U K=W:=by
 subst hc hp h1 h2;rw[<-e];show(match ev U x with|.c (.bool t)=>cond t (ak Γ T B N a pa U K) (ak Γ T B N b pb U K)|_=>none)=_;rw[hx]
def wY{id:Nat}{lm:aa}{Z W:Option J}(hc:c=.block id a)(hp:p=.mk (some lm) none pa .n)
  (h1:ak Γ T B N a pa U (ap (some lm) (lT id K))=Z) (e:Z=W):ak Γ T B N c p U K=W:=by
 subst hc hp e;exact h1
def wZ{cl:aa}{U':St}{Z W:Option J}(hc:c=.loop a)(hp:p=.mk none (some cl) pa .n)(hs:eR cl U=some U')
  (h1:bm (λU K=>ak Γ T B N a pa U K) cl N U' K=Z) (e:Z=W):ak Γ T B N c p U K=W:=by
 subst hc hp e;show((eR cl U).bind λσ0=>bm (λU K=>ak Γ T B N a pa U K) cl N σ0 K)=_;rw[hs];exact h1
end
abbrev I2(α:Type):Type:=Int->Int->α
abbrev I3(α:Type):Type:=Int->Int->Int->α
abbrev I4(α:Type):Type:=Int->Int->Int->Int->α
abbrev I5(α:Type):Type:=Int->Int->Int->Int->Int->α
abbrev I6(α:Type):Type:=Int->Int->Int->Int->Int->Int->α
def ba:Nat->Code->Nat->Code
 |0,c,_=>c
 |F+1,c,n=>cond (Nat.ble n 1) c (match c with
  |.seq a b=>cond (Nat.beq (n%2) 0) (ba F a (n / 2)) (ba F b (n / 2))
  |.cond _ a b=>cond (Nat.beq (n%2) 0) (ba F a (n / 2)) (ba F b (n / 2))
  |.block _ c=>ba F c (n / 2)
  |.loop c=>ba F c (n / 2)
  |c=>c)
abbrev yi(n:Int):ab:=.int .i64 n
abbrev xi(n:Int):SV:=.c (.int .i64 n)
abbrev xo(n:Nat):SV:=.c (.own n)
abbrev xb(n:Nat):SV:=.c (.box n 0)
abbrev xB(b:Bool):SV:=.c (.bool b)
abbrev tI:Ty:=.int .i64
abbrev LI:Type:=List Int
def bT{α0 α1 β:Type}{f g:α0->α1->β}(h:∀x0 x1,f x0 x1=g x0 x1):f=g:=funext λx0=>funext λx1=>h x0 x1
def cv{α0 α1 α2 β:Type}{f g:α0->α1->α2->β}(h:∀x0 x1 x2,f x0 x1 x2=g x0 x1 x2):f=g:=funext λx0=>funext λx1=>funext λx2=>h x0 x1 x2
def fe{α0 α1 α2 α3 β:Type}{f g:α0->α1->α2->α3->β}(h:∀x0 x1 x2 x3,f x0 x1 x2 x3=g x0 x1 x2 x3):f=g:=funext λx0=>funext λx1=>funext λx2=>funext λx3=>h x0 x1 x2 x3
def fg{α0 α1 α2 α3 α4 β:Type}{f g:α0->α1->α2->α3->α4->β}(h:∀x0 x1 x2 x3 x4,f x0 x1 x2 x3 x4=g x0 x1 x2 x3 x4):f=g:=funext λx0=>funext λx1=>funext λx2=>funext λx3=>funext λx4=>h x0 x1 x2 x3 x4
def iq{α0 α1 α2 α3 α4 α5 β:Type}{f g:α0->α1->α2->α3->α4->α5->β}(h:∀x0 x1 x2 x3 x4 x5,f x0 x1 x2 x3 x4 x5=g x0 x1 x2 x3 x4 x5):f=g:=funext λx0=>funext λx1=>funext λx2=>funext λx3=>funext λx4=>funext λx5=>h x0 x1 x2 x3 x4 x5
def w6{α0 α1 α2 α3 α4 α5 α6 β:Type}{f g:α0->α1->α2->α3->α4->α5->α6->β}(h:∀x0 x1 x2 x3 x4 x5 x6,f x0 x1 x2 x3 x4 x5 x6=g x0 x1 x2 x3 x4 x5 x6):f=g:=funext λx0=>funext λx1=>funext λx2=>funext λx3=>funext λx4=>funext λx5=>funext λx6=>h x0 x1 x2 x3 x4 x5 x6
def w7{α0 α1 α2 α3 α4 α5 α6 α7 β:Type}{f g:α0->α1->α2->α3->α4->α5->α6->α7->β}(h:∀x0 x1 x2 x3 x4 x5 x6 x7,f x0 x1 x2 x3 x4 x5 x6 x7=g x0 x1 x2 x3 x4 x5 x6 x7):f=g:=funext λx0=>funext λx1=>funext λx2=>funext λx3=>funext λx4=>funext λx5=>funext λx6=>funext λx7=>h x0 x1 x2 x3 x4 x5 x6 x7
end Go.Fw
