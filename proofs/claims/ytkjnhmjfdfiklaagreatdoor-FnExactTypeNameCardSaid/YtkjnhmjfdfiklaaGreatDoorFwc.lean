/- The framework: what a symbolic run of the model's code tells, proved sound. Nothing is assumed. -/
import Derived.Test.YtkjnhmjfdfiklaaGreatDoorFwb
set_option linter.defProp false
set_option linter.unusedVariables false
set_option linter.unusedSectionVars false
set_option linter.unusedSimpArgs false
namespace Go.Fw
open Go.RowKit
structure Gm where
 g:Nat->Option aK
 m:Nat->Option ik
 v:Nat->Option kJ
 n:Nat->Option kK
 s:Nat->Option kM
def lF:Op->Option (Operand×Operand×Operand)
 |.pick c x y=>some (c,x,y)
 |_=>none
def qZ:Op->Option (Nat×List Operand)
 |.call { callee:=.value (.func f),args:=args,argTypes:=_ }=>some (f,args.toList)
 |_=>none
def q6(U:St):Op->Option (Nat×List Operand)
 |.call { callee:=.value x,args:=args,argTypes:=_ }=>match ev U x with
  |.c (.fn f [])=>some (f,args.toList)
  |_=>none
 |_=>none
noncomputable def cI{J:Type}(a b:Option J):Option J:=by classical exact if a=b then a else none
@[reducible] noncomputable def bo{J:Type}(a:Option J):Option J:=cI a a
def Dh{J:Type}{a b:Option J}{r:J}(h:cI a b=some r):a=some r/\b=some r:=by
 unfold cI at h;split at h;·rename_i e;exact⟨h,e▸h⟩
 ·cases h
def oM{J:Type}(a:Option J):cI a a=a:=by unfold cI;exact if_pos rfl
noncomputable def yC{J:Type}(step:Nat->Option J):List Nat->Option J
 |[]=>none
 |[i]=>step i
 |i::j::is=>cI (step i) (yC step (j::is))
def Di{J:Type}{step:Nat->Option J}{r:J}:∀{is:List Nat},yC step is=some r->∀i∈is,step i=some r
 |[],h,_,_=>by cases h
 |[i],h,j,hj=>by obtain rfl:=List.mem_singleton.1 hj;exact h
 |i::j::is,h,k,hk=>by
  obtain⟨h1,h2⟩:=Dh h;rcases List.mem_cons.1 hk with rfl|hk;·exact h1
  ·exact Di h2 k hk
def Dj:BinOp->Bool
 |.eql=>true
 |.neq=>true
 |_=>false
def q7(T:bw)(U:St):Op->Bool
 |.binOp op t x y _=>Dj op&&(match T t,ev U x,ev U y with
  |some ti,.c (.sn _ _ _ _),.c .nil=>ti.el.isSome
  |some ti,.c (.own r),.c .nil=>ti.el.isSome&&(match U.row r with
   |some row=>!row.nilE
   |none=>false)
  |_,_,_=>false)
 |_=>false
structure dH where
 d:Nat
 r:Nat
 i:Int
 f:Nat
 el:Option (Nat×Int)
def uc(T:bw)(U:St)(o:Oper):Option dH:=match o.guard,o.op,o.dst with
 |none,.load t x,some d=>match ev U x with
  |.c (.elt r i f)=>match U.row r,T t with
   |some row,some ti=>cond (row.deep&&(ti.el.isSome&&!ti.agg)) (some ⟨d,r,i,f,none⟩) none
   |_,_=>none
  |_=>none
 |_,_,_=>none
inductive Nb where
 |no
 |still (p:dH)
 |sub (p:dH) (f:Nat) (args:List Operand)
 |put (p:dH) (e:Nat) (k:Int) (t:Nat) (x:Operand)
def q8(d:Nat):Option Operand->Bool
 |some (.tmp e)=>Nat.beq e d&&Nat.blt d 100000
 |_=>false
def jB(d:Nat):Option Nat->Bool
 |some e=>!(Nat.beq e d)
 |none=>true
def yD(T:bw)(U:St)(p:dH)(op:Op)(dst:Option Nat):Option dH:=none
def yE(p:dH)(op:Op)(dst:Option Nat):Option (Nat×Int×Nat×Operand):=match op,dst,p.el with
 |.store t (.tmp e') x,none,some (e,k)=>cond (Nat.beq e' e&&(Nat.blt e 100000&&Nat.blt p.d 100000)) (some (e,k,t,x)) none
 |_,_,_=>none
def lG(p:dH)(dst:Option Nat):Bool:=match p.el with
 |some (e,_)=>jB e dst
 |none=>true
def lk(N:Nat)(b:Bool):Bool:=match N with
 |0=>b
 |_+1=>b
def aL(N:Nat)(b:Bool):lk N b=b:=by cases N<;>rfl
def q9(N:Nat):ai->ai
 |.bool b=>.bool (lk N b)
 |c=>c
def ra(N:Nat):SV->SV
 |.c x=>.c (q9 N x)
 |.agg l=>.agg l
 |.tup l=>.tup (l.map λp=>(p.1,p.2.map (q9 N)))
def Dk(N:Nat)(c:ai):q9 N c=c:=by cases c<;>simp[q9,aL]
def Dl(N:Nat)(s:SV):ra N s=s:=by have h:q9 N=id:=funext (Dk N);cases s<;>simp[ra,Dk,h]
def rb(N:Nat)(op:Op)(c:Bool):Bool:=match op with
 |.binOp .quo _ _ _ _=>lk N c
 |.binOp .rem _ _ _ _=>lk N c
 |.binOp .shl _ _ _ _=>lk N c
 |.binOp .shr _ _ _ _=>lk N c
 |.indexAddr _ _ _=>lk N c
 |.index _ _ _=>lk N c
 |.slice _ _ _ _ _=>lk N c
 |_=>c
def rc(N:Nat)(op:Op)(s:SV):SV:=match op with
 |.binOp _ _ _ _ _=>ra N s
 |.lookup _ _ _ _=>ra N s
 |_=>s
def yF(N:Nat)(op:Op)(c:Bool):rb N op c=c:=by unfold rb;split<;>first|rfl|exact aL N c
def yG(N:Nat)(op:Op)(s:SV):rc N op s=s:=by unfold rc;split<;>first|rfl|exact Dl N s
def nr{α:Type}(N:Nat)(p:Option (α->Bool))(X:α):Bool:=match p with
 |none=>true
 |some f=>lk N (f X)
def rj{α:Type}(N:Nat)(p:Option (α->Bool))(X:α):nr N p X=ck p X:=by
 unfold nr ck;split;·rfl
 ·exact aL N _
def rn(N:Nat)(d:Option Nat)(U:St):St:=match d with
 |some d=>U.put d (ra N (U.slot d))
 |none=>U
def yH(N:Nat)(d:Option Nat)(U:St):rn N d U=U:=by
 cases d with
 |none=>rfl
 |some d =>
  unfold rn;simp only[Dl];unfold St.put;congr 1;funext t;unfold ao;cases hb:Nat.beq t d;·rfl
  ·rw[Nat.eq_of_beq_eq_true hb];rfl
def bE.kL{J:Type}(N:Nat):bE->(St->Option J)->Option J
 |.fail,_=>none
 |.ok U,K=>K U
 |.chk c o,K=>cond (lk N c) (o.kL N K) none
 |.br b o1 o2,K=>cond b (o1.kL N K) (o2.kL N K)
 |.call x f,K=>x.bind λb=>(f b).kL N K
def bE.kL_eq{J:Type}(N:Nat)(K:St->Option J):∀o:bE,o.kL N K=o.k K
 |.fail=>rfl
 |.ok U=>rfl
 |.chk c o=>by simp only[bE.kL,bE.k,aL,bE.kL_eq N K o]
 |.br b o1 o2=>by simp only[bE.kL,bE.k,bE.kL_eq N K o1,bE.kL_eq N K o2]
 |.call x f=>by simp only[bE.kL,bE.k];congr 1;funext b;exact bE.kL_eq N K (f b)
section
variable {J : Type}
noncomputable def ud(Γ:Gm)(T:bw)(N:Nat)(o:Oper)(U:St)(K:St->Option J):Option J :=
 match lF o.op with
 |some (c,x,y)=>match ev U c with
  |.c (.bool b)=>cond b (K (fw U o.dst (ev U x))) (K (fw U o.dst (ev U y)))
  |_=>none
 |none=>match q6 U o.op with
  |some (f,args)=>match Γ.g f with
   |some en=>match yb en U (args.map (ev U))with
    |some X=>cond (nr N en.pre X) (match yc en U o.dst (args.map (ev U)) (en.val X)with
     |some U'=>K (rn N o.dst U')
     |none=>none) none
    |none=>none
   |none=>match Γ.m f with
    |some en=>match yj en U (args.map (ev U))with
     |some (qs,X)=>cond (nr N en.pre X) (match tY en U o.dst (args.map (ev U)) qs (en.val X)with
      |some U'=>K (rn N o.dst U')
      |none=>none) none
     |none=>none
    |none=>match Γ.v f with
     |some en=>match yt en U (args.map (ev U))with
      |some (qs,X)=>cond (nr N en.pre X) (match yu en U o.dst (args.map (ev U)) qs (en.val X)with
       |some U'=>K (rn N o.dst U')
       |none=>none) none
      |none=>none
     |none=>match Γ.n f with
      |some en=>match yv en U (args.map (ev U))with
       |some X=>cond (nr N en.pre X) (match yw en U o.dst (args.map (ev U)) (en.val X)with
        |some U'=>K U'
        |none=>none) none
       |none=>none
      |none=>match Γ.s f with
       |some en=>match qY en.ps (args.map (ev U))with
        |some X=>cond (nr N en.pre X) (match yA en U o.dst (en.val X)with
         |some U'=>K U'
         |none=>none) none
        |none=>none
       |none=>none
  |none=>match cw T U o.op with
   |some (c,s)=>cond (q7 T U o.op) (cond (lk N c) (K (fw U o.dst s)) (cI (K (fw U o.dst (.c (.bool true)))) (K (fw U o.dst (.c (.bool false))))))
    (cond (rb N o.op c) (K (fw U o.dst (rc N o.op s))) none)
   |none=>(tH T U o.dst o.op).kL N K
def yI(ops:Array Oper)(j:Nat):Option Nat:=match ops[j]? with
 |some o=>o.dst
 |none=>none
def nu(ops:Array Oper)(o:Oper)(U:St)(F:St->Option J)(K:St->Option J):Option J :=
 match o.guard with
 |none=>F U
 |some (j,want)=>match yI ops j with
  |some t=>match U.slot t with
   |.c (.bool b)=>cond b
    (cond want (F (U.put t (.c (.bool true)))) (K (fw (U.put t (.c (.bool true))) o.dst (.tup []))))
    (cond want (K (fw (U.put t (.c (.bool false))) o.dst (.tup []))) (F (U.put t (.c (.bool false)))))
   |.tup _=>K (fw U o.dst (.tup []))
   |_=>none
  |none=>none
def jC:Op->Bool
 |.move _=>true
 |.assign _=>true
 |.load _ _=>true
 |.indexAddr _ _ _=>true
 |.fieldAddr _ _ _=>true
 |.binOp _ _ _ _ _=>true
 |.unOp _ _ _=>true
 |.index _ _ _=>true
 |.call { callee:=.builtin .len,args:=_,argTypes:=_ }=>true
 |.call { callee:=.builtin .min,args:=_,argTypes:=_ }=>true
 |.call { callee:=.builtin .max,args:=_,argTypes:=_ }=>true
 |.convert _ _ _=>true
 |.extract _ _=>true
 |.nilCheck _=>true
 |_=>false
noncomputable def Dm(Γ:Gm)(N:Nat)(p:dH)(f:Nat)(args:List Operand)(dst:Option Nat)(U:St)(K:St->Option J):Option J:=none
def yJ(T:bw)(p:dH)(k:Int)(t:Nat)(x:Operand)(U:St)(K:St->Option J):Option J:=none
def ue(Γ:Gm)(T:bw)(U:St)(o:Oper)(pin:Option dH):Nb:=match uc T U o with
 |some p=>.still p
 |none=>match pin with
  |none=>.no
  |some p=>match o.guard with
   |some _=>.no
   |none=>match q6 U o.op with
    |some (f,args)=>match Γ.g f with
     |some en=>cond (q8 p.d (ij en.sig.ps args)&&dX en.sig.ps) (.sub p f args) .no
     |none=>.no
    |none=>match yD T U p o.op o.dst with
     |some p'=>.still p'
     |none=>match yE p o.op o.dst with
      |some (e,k,t,x)=>.put p e k t x
      |none=>cond (jC o.op&&(jB p.d o.dst&&lG p o.dst)) (.still p) .no
noncomputable def lH(Γ:Gm)(T:bw)(N:Nat)(ops:Array Oper):List Nat->Option dH->St->(St->Option J)->Option J
 |[],_,U,K=>K U
 |i::d8,pin,U,K=>match ops[i]? with
  |some o=>match ue Γ T U o pin with
   |.no=>nu ops o U (λU=>ud Γ T N o U λU'=>lH Γ T N ops d8 none U' K) λU'=>lH Γ T N ops d8 none U' K
   |.still p=>match cw T U o.op with
    |some (c,s)=>cond (rb N o.op c) (lH Γ T N ops d8 (some p) (fw U o.dst (rc N o.op s)) K) none
    |none=>none
   |.sub p f args=>Dm Γ N p f args o.dst U λU'=>lH Γ T N ops d8 none U' K
   |.put p _ k t x=>yJ T p k t x U λU'=>lH Γ T N ops d8 none U' K
  |none=>none
def Dn(T:bw)(N:Nat)(o:Oper)(U:St)(K:St->Option J):Option J :=
 match cw T U o.op with
 |some (c,s)=>cond (xR o.op s) (cond (rb N o.op c) (K (fw U o.dst (rc N o.op s))) none) none
 |none=>none
def uf(f:Nat->Bool):List Nat->Option Nat
 |[]=>none
 |i::l=>cond (f i) (some i) (uf f l)
def gQ(Γ:Gm)(o:Oper):Bool:=match qZ o.op with
 |some (f,_)=>match Γ.g f with
  |some en=>cj en.sig.ps
  |none=>false
 |none=>match lF o.op with
  |some _=>true
  |none=>match o.op with
   |.slice _ _ _ _ _=>true
   |.build _ _=>true
   |.makeSlice _ _ _=>true
   |.alloc _=>true
   |.box _ _=>true
   |.buildSlice _ _ _=>true
   |_=>jC o.op
def lI(Γ:Gm)(ops:Array Oper)(j:Nat):Bool:=match ops[j]? with
 |some oj=>!(m7 oj.op)&&(List.range ops.size).any λi=>!(Nat.beq i j)&&(match ops[i]? with
  |some oi=>!(gQ Γ oi)&&!(fy ops 4 i j||fy ops 4 j i)
  |none=>false)
 |none=>false
def Do(Γ:Gm)(ops:Array Oper)(listed:Array Bool)(i:Nat):Bool:=match ops[i]? with
 |some o=>jC o.op&&(Region.free .any ops listed i&&!(lI Γ ops i))
 |none=>false
def yK(T:bw)(U:St)(o:Oper)(pin:Option dH):Option dH:=match uc T U o with
 |some p=>some p
 |none=>match pin,o.guard with
  |some p,none=>match yD T U p o.op o.dst with
   |some p'=>some p'
   |none=>cond (jB p.d o.dst&&lG p o.dst) (some p) none
  |_,_=>none
def Dp(o:Oper)(pin:Option dH):Option (dH×Nat×Int×Nat×Operand):=match pin,o.guard with
 |some p,none=>match yE p o.op o.dst with
  |some y=>some (p,y)
  |none=>none
 |_,_=>none
noncomputable def kN(Γ:Gm)(T:bw)(N:Nat)(ops:Array Oper):Nat->Array Bool->Option dH->St->(St->Option J)->Option J
 |0,listed,_,U,K=>cond (Region.ready .any ops listed).isEmpty (K U) none
 |fuel+1,listed,pin,U,K=>match Region.ready .any ops listed with
  |[]=>K U
  |r::rs=>match uf (Do Γ ops listed) (r::rs)with
   |some i=>match ops[i]? with
    |some o=>nu ops o U (λU=>Dn T N o U λU'=>kN Γ T N ops fuel (listed.setIfInBounds i true) (yK T U o pin) U' K) λU'=>kN Γ T N ops fuel (listed.setIfInBounds i true) none U' K
    |none=>none
   |none=>yC (λr=>match ops[r]? with
    |some o=>cond (gQ Γ o||jY ops (lI Γ ops) r) (match Dp o pin with
     |some (p,_,k,t,x)=>cond (jY ops (lI Γ ops) r) (yJ T p k t x U λU'=>kN Γ T N ops fuel (listed.setIfInBounds r true) none U' K) none
     |none=>nu ops o U (λU=>ud Γ T N o U λU'=>kN Γ T N ops fuel (listed.setIfInBounds r true) none U' K) λU'=>kN Γ T N ops fuel (listed.setIfInBounds r true) none U' K) none
    |none=>none) (r::rs)
noncomputable def yL(Γ:Gm)(T:bw)(N:Nat)(ops:Array Oper)(draw:Bool)(U:St)(K:St->Option J):Option J :=
 cond draw (cond (Region.noSelect ops) (kN Γ T N ops ops.size (Array.replicate ops.size false) none U K) none) (lH Γ T N ops (List.range ops.size) none U K)
def nv(n:Nat)(ops:Array Oper):Bool:=ops.toList.all λo=>match o.dst with
 |some d=>Nat.blt d n
 |none=>true
end
structure aw[DC](P:Program)[Inv P](Γ:Gm):Prop where
 g:∀f en,Γ.g f=some en->av P f en/\∀p∈en.sig.rs,p.agg=false->p.t.nc=1
 m:∀f en,Γ.m f=some en->fA P f en/\∀p∈en.rs,p.agg=false->p.t.nc=1
 v:∀f en,Γ.v f=some en->False
 n:∀f en,Γ.n f=some en->False
 s:∀f en,Γ.s f=some en->lE P f en
structure nw[DC](P:Program)(w0:World)(lab0:Nat->aB)(Γ:Gm):Prop where
 g:∀f en,Γ.g f=some en->qQ P w0 lab0 f en/\∀p∈en.sig.rs,p.agg=false->p.t.nc=1
 m:∀f en,Γ.m f=some en->yh P w0 lab0 f en/\∀p∈en.rs,p.agg=false->p.t.nc=1
 v:∀f en,Γ.v f=some en->False
 n:∀f en,Γ.n f=some en->False
 s:∀f en,Γ.s f=some en->yz P w0 lab0 f en
def aw.at[DC]{P:Program}[Inv P]{Γ:Gm}(h:aw P Γ){w0:World}{lab0:Nat->aB}(hI:Inv.I P w0)(hB:∀k,Inv.B P k->lab0 k=.st):nw P w0 lab0 Γ :=
 ⟨λf en hf=>⟨(h.g f en hf).1.at hI hB,(h.g f en hf).2⟩,λf en hf=>⟨(h.m f en hf).1.at hI hB,(h.m f en hf).2⟩,λf en hf=>h.v f en hf,λf en hf=>h.n f en hf,λf en hf=>(h.s f en hf).at hI hB⟩
section
variable {P : Program} {U U' : St} {E E' : aO} {w w' : World} {w0 : World} {lab0 : Nat → aB} {oo : Nat → Value} {n : Nat} {a : Act} {T : bw} {Γ : Gm} {J : Type} {ops : Array Oper} {N : Nat} [DC]
def ip(h:nv n ops=true){i:Nat}{o:Oper}(ho:ops[i]? = some o):∀d,o.dst=some d->d<n:=by
 intro d hd;have hm:o∈ops.toList:=by have:=Array.mem_of_getElem? ho;simpa using this
 have:=List.all_eq_true.1 h o hm;rw[hd]at this;simpa using this
def ug(h:R w0 lab0 oo n U E a w):∀args:List Operand,aj (aM U E w) (args.map (ev U)) (args.map a.eval)
 |[]=>trivial
 |x::l=>⟨bz h x,ug h l⟩
def yM{op:Op}{f:Nat}{args:List Operand}(h:qZ op=some (f,args)):∃arr ts,op=.call { callee:=.value (.func f),args:=arr,argTypes:=ts }/\arr.toList=args:=by
 unfold qZ at h;split at h;·rename_i f' arr ts;injection h with h;injection h with e1 e2;subst e1;exact⟨arr,ts,rfl,e2⟩
 ·cases h
def yN{op:Op}{f:Nat}{args:List Operand}(h:q6 U op=some (f,args)):∃x arr ts,op=.call { callee:=.value x,args:=arr,argTypes:=ts }/\arr.toList=args/\ev U x=.c (.fn f []):=by
 unfold q6 at h;split at h
 ·rename_i x arr ts;split at h;·rename_i f' hf;injection h with h;injection h with e1 e2;subst e1;exact⟨x,arr,ts,rfl,e2,hf⟩
  ·cases h
 ·cases h
def yO(h:R w0 lab0 oo n U E a w){x:Operand}{f:Nat}(hx:ev U x=.c (.fn f [])):a.eval x=.func (.func f) #[] #[]:=by have:=bz h x;rw[hx]at this;exact this.1
def Nc(hT:bg P T)(h:R w0 lab0 oo n U E a w){o:Oper}(hn:q7 T U o.op=true):∃b,(execOp a.eval o).run P w=.ok (.value (.bool b)) w:=by
 obtain⟨dst,op,oty,pos,after,guard⟩:=o;simp only at hn;unfold q7 at hn;split at hn
 ·rename_i op t x y t';simp only[Bool.and_eq_true]at hn;obtain⟨hop,hn⟩:=hn;obtain⟨ti,A,m,c,ht,hel,hx,hy⟩:∃(ti:TI) (A:Option Addr) (m c:Nat),T t=some ti/\ti.el.isSome=true/\a.eval x=.slice A m c/\a.eval y=.slice none 0 0:=by
   split at hn;·rename_i ti _ _ _ _ ht hx hy;have rx:=bz h x;have ry:=bz h y;rw[hx]at rx;rw[hy]at ry;obtain⟨A,m,d,e,_⟩:=rx.c_inv;injection e with e;exact⟨ti,A,m,d,ht,hn,e,ry.c_inv⟩
   ·rename_i ti r ht hx hy;have rx:=bz h x;have ry:=bz h y;rw[hx]at rx;rw[hy]at ry;obtain⟨e,_,A,m,d,e'⟩:=rx.c_inv;exact⟨ti,A,m,d,ht,(by simp only[Bool.and_eq_true]at hn;exact hn.1),e.trans (e▸e'),ry.c_inv⟩
   ·cases hn
  obtain⟨e,he⟩:=Option.isSome_iff_exists.1 hel;have hu:=ju hT ht he;have heq:(Op.equal t (.slice A m c) (.slice none 0 0)).run P w=.ok A.isNone w:=by
   have key:∀d,(Op.equalIn (d+1) t (.slice A m c) (.slice none 0 0)).run P w=.ok A.isNone w:=λd=>by cases A<;>simp[Op.equalIn,run_underlying hu]
   exact key 9999
  have hguard:(eqGuard op t x y (.slice A m c) (.slice none 0 0)).run P w=.ok () w:=tn (λu e=>by cases e) (λe=>by cases e);cases op<;>simp only[Dj]at hop<;>try contradiction
  ·refine⟨A.isNone, ?_⟩;simp only[execOp,hx,hy];rw[Sem.run_bind,Sem.run_bind,hguard];have:binOp .eql t (.slice A m c) (.slice none 0 0)=(do pure (.bool (<-Op.equal t (.slice A m c) (.slice none 0 0))):Sem Value):=rfl;simp[this,heq]
  ·refine⟨!A.isNone, ?_⟩;simp only[execOp,hx,hy];rw[Sem.run_bind,Sem.run_bind,hguard];have:binOp .neq t (.slice A m c) (.slice none 0 0)=(do pure (.bool (!(<-Op.equal t (.slice A m c) (.slice none 0 0)))):Sem Value):=rfl;simp[this,heq]
 ·cases hn
def Dq(hT:bg P T)(hΓ:nw P w0 lab0 Γ)(h:R w0 lab0 oo n U E a w){o:Oper}(hd:∀d,o.dst=some d->d<n){K:St->Option J}{r:J}(hr:ud Γ T N o U K=some r){next:Act->World->Prop}{Q:Exit->Act->World->Prop}
  (hK:∀U' E' v w',K U'=some r->R w0 lab0 oo n U' E' (a.put o.dst v) w'->(gQ Γ o=true->bQ w w')->next (a.put o.dst v) w'):o.wp P a w next Q:=by
 unfold ud at hr;split at hr
 ·rename_i c x y hp;have hop:o.op=.pick c x y:=by
   obtain⟨dst,op,oty,pos,after,guard⟩:=o;simp only at hp ⊢;cases op<;>simp only[lF]at hp<;>try contradiction
   injection hp with hp;injection hp with e1 e2;injection e2 with e2 e3;rw[e1,e2,e3]
  split at hr
  ·rename_i b hb;have hc:=bz h c;rw[hb]at hc;have hc:a.eval c=.bool b:=hc;have hrun:(execOp a.eval o).run P w=.ok (.value (if b then a.eval x else a.eval y)) w:=by simp[execOp,hop,hc,asBool]
   unfold Oper.wp;rw[hrun];cases b;·exact hK _ E _ w hr (h.iput hd (bz h y)) λ_=>bQ.refl w
   ·exact hK _ E _ w hr (h.iput hd (bz h x)) λ_=>bQ.refl w
  ·cases hr
 ·rename_i hnp;split at hr
  ·rename_i f args hcall;split at hr
   ·rename_i en hen;split at hr
    ·rename_i X hX;rw[rj]at hr;cases hpre:ck en.pre X;·rw[hpre]at hr;cases hr
     rw[hpre]at hr;simp only[cond_true,yH]at hr;have hG:en.G X=some (en.val X):=by unfold aK.G;rw[hpre];rfl
     split at hr
     ·rename_i U' hout;obtain⟨hE,hfl⟩:=hΓ.g f en hen;obtain⟨x0,arr,ts,hop,harr,hx0⟩:=yN hcall;have hev:a.eval x0=.func (.func f) #[] #[]:=(yO h hx0);have hs:aj (aM U E w) (args.map (ev U)) (arr.map a.eval).toList:=by rw[Array.toList_map,harr];exact ug h args
      have hq:gQ Γ o=true->cj en.sig.ps=true:=by
       intro hq;unfold gQ at hq;split at hq;·rename_i f' args' hcs;obtain⟨arr',ts',hop',_⟩:=yM hcs;rw[hop]at hop';injection hop' with hop';injection hop' with e1 e2 e3;injection e1 with e1;subst e1;have hx0:SV.c (.fn f' [])=.c (.fn f []):=hx0;injection hx0 with hx0;injection hx0 with hx0;subst hx0;rw[hen]at hq;exact hq
       ·rw[hop]at hq;simp[lF,jC]at hq
      have hrun:(execOp a.eval o).run P w=(callFunc f (arr.map a.eval)).run P w:=by simp[execOp,hop,resolve,hev,Deferred.ofValue,invoke]
      unfold Oper.wp;rw[hrun];rcases M0 hE h hs hX hG hd hfl hout with⟨h1,h2⟩|⟨v,w',h1,v',E',he,h2,h3⟩
      ·rw[h1,Oper.upon_enter];refine h2.mono ?_;rintro e w' ⟨v,E',rfl,h3,h4⟩
       exact hK U' E' v w' hr h3 λhqq=>h4 (hq hqq)
      ·injection he with he;subst he;rw[h1];exact hK U' E' v w' hr h2 λhqq=>h3 (hq hqq)
     ·cases hr
    ·cases hr
   ·rename_i hng;split at hr
    ·rename_i en hen;split at hr
     ·rename_i qs X hX;rw[rj]at hr;cases hpre:ck en.pre X;·rw[hpre]at hr;cases hr
      rw[hpre]at hr;simp only[cond_true,yH]at hr;split at hr
      ·rename_i U' hout;obtain⟨hE,hfl⟩:=hΓ.m f en hen;obtain⟨x0,arr,ts,hop,harr,hx0⟩:=yN hcall;have hev:a.eval x0=.func (.func f) #[] #[]:=(yO h hx0);have hs:aj (aM U E w) (args.map (ev U)) (arr.map a.eval).toList:=by rw[Array.toList_map,harr];exact ug h args
       have hq:gQ Γ o=true->False:=by
        intro hq;unfold gQ at hq;split at hq;·rename_i f' args' hcs;obtain⟨arr',ts',hop',_⟩:=yM hcs;rw[hop]at hop';injection hop' with hop';injection hop' with e1 e2 e3;injection e1 with e1;subst e1;have hx0:SV.c (.fn f' [])=.c (.fn f []):=hx0;injection hx0 with hx0;injection hx0 with hx0;subst hx0;rw[hng]at hq;cases hq
        ·rw[hop]at hq;simp[lF,jC]at hq
       have hrun:(execOp a.eval o).run P w=(callFunc f (arr.map a.eval)).run P w:=by simp[execOp,hop,resolve,hev,Deferred.ofValue,invoke]
       unfold Oper.wp;rw[hrun];rcases M6 hE h hs hX hpre hd hfl hout with⟨h1,h2⟩|⟨v,w',h1,v',E',he,h2⟩
       ·rw[h1,Oper.upon_enter];refine h2.mono ?_;rintro e w' ⟨v,E',rfl,h3⟩
        exact hK U' E' v w' hr h3 λhqq=>(hq hqq).elim
       ·injection he with he;subst he;rw[h1];exact hK U' E' v w' hr h2 λhqq=>(hq hqq).elim
      ·cases hr
     ·cases hr
    ·obtain⟨x0,arr,ts,hop,harr,hx0⟩:=yN hcall;have hev:a.eval x0=.func (.func f) #[] #[]:=(yO h hx0);have hs:aj (aM U E w) (args.map (ev U)) (arr.map a.eval).toList:=by rw[Array.toList_map,harr];exact ug h args
     have hq:gQ Γ o=true->False:=by
      intro hq;unfold gQ at hq;split at hq;·rename_i f' args' hcs;obtain⟨arr',ts',hop',_⟩:=yM hcs;rw[hop]at hop';injection hop' with hop';injection hop' with e1 e2 e3;injection e1 with e1;subst e1;have hx0:SV.c (.fn f' [])=.c (.fn f []):=hx0;injection hx0 with hx0;injection hx0 with hx0;subst hx0;rw[hng]at hq;cases hq
      ·rw[hop]at hq;simp[lF,jC]at hq
     have hrun:(execOp a.eval o).run P w=(callFunc f (arr.map a.eval)).run P w:=by simp[execOp,hop,resolve,hev,Deferred.ofValue,invoke]
     have fin:∀U',K U'=some r->(dm P f (arr.map a.eval) w λe w'=>∃v E',e=.returned v/\R w0 lab0 oo n U' E' (a.put o.dst v) w')->o.wp P a w next Q:=by
      intro U' hr hcalls;unfold Oper.wp;rw[hrun];rcases hcalls with⟨h1,h2⟩|⟨v,w',h1,v',E',he,h2⟩
      ·rw[h1,Oper.upon_enter];refine h2.mono ?_;rintro e w' ⟨v,E',rfl,h3⟩
       exact hK U' E' v w' hr h3 λhqq=>(hq hqq).elim
      ·injection he with he;subst he;rw[h1];exact hK U' E' v w' hr h2 λhqq=>(hq hqq).elim
     split at hr
     ·rename_i en hen;split at hr
      ·rename_i qs X hX;rw[rj]at hr;cases hpre:ck en.pre X;·rw[hpre]at hr;cases hr
       rw[hpre]at hr;simp only[cond_true,yH]at hr;split at hr;·rename_i U' hout;exact(hΓ.v f en hen).elim
       ·cases hr
      ·cases hr
     ·split at hr
      ·rename_i en hen;split at hr
       ·rename_i X hX;rw[rj]at hr;cases hpre:ck en.pre X;·rw[hpre]at hr;cases hr
        rw[hpre]at hr;simp only[cond_true]at hr;split at hr;·rename_i U' hout;exact(hΓ.n f en hen).elim
        ·cases hr
       ·cases hr
      ·split at hr
       ·rename_i en hen;split at hr
        ·rename_i X hX;rw[rj]at hr;cases hpre:ck en.pre X;·rw[hpre]at hr;cases hr
         rw[hpre]at hr;simp only[cond_true]at hr;split at hr;·rename_i U' hout;exact fin U' hr (Na (hΓ.s f en hen) h hs hX hpre hd hout)
         ·cases hr
        ·cases hr
       ·cases hr
  ·rename_i hnc;split at hr
   ·rename_i c s hv;rw[yF,yG,aL]at hr;cases c
    ·cases hne:q7 T U o.op;·rw[hne]at hr;cases hr
     ·rw[hne]at hr;obtain⟨q1,q2⟩:=Dh (show cI _ _=some r from hr);obtain⟨b,h1⟩:=Nc hT h hne;unfold Oper.wp;rw[h1];cases b;·exact hK _ E _ w q2 (h.iput hd rfl) λ_=>bQ.refl w
      ·exact hK _ E _ w q1 (h.iput hd rfl) λ_=>bQ.refl w
    ·have hr:K (fw U o.dst s)=some r:=by cases hne:q7 T U o.op<;>(rw[hne]at hr;exact hr)
     obtain⟨v,h1,h2⟩:=mX hT h hv rfl;unfold Oper.wp;rw[h1];exact hK _ E v w hr (h.iput hd h2) λ_=>bQ.refl w
   ·rename_i hv;rw[bE.kL_eq]at hr;obtain⟨U',h1,h2⟩:=bE.k_run hr;have hnq:gQ Γ o=true->mZ o.op=true:=by intro hq;unfold tH at h1;split at h1;all_goals first | (cases h1;done) | (rename_i he;rw[he];unfold gQ at hq;rw[he]at hq;simp[qZ,lF,jC,mZ]at hq ⊢;done) | (rename_i he _;rw[he];unfold gQ at hq;rw[he]at hq;simp[qZ,lF,jC,mZ]at hq ⊢;done)
    rcases MJ hT h hd h1 with⟨v,w',E',g1,gx,g2⟩|⟨w',E',g1,g2⟩;·unfold Oper.wp;rw[g1];exact hK U' E' v w' h2 g2 λhq=>gx (hnq hq)
    ·have hnm:mZ o.op=false:=by
      cases hm:mZ o.op;·rfl
      ·exfalso;unfold mZ at hm;split at hm;·rename_i he;unfold execOp at g1;rw[he]at g1;simp only at g1;rw[Sem.run_bind]at g1;cases hX:(Instr.makeSlice _ _ _).run P w<;>rw[hX]at g1<;>simp[Result.andThen]at g1
       ·rename_i he;unfold execOp at g1;rw[he]at g1;simp only at g1;rw[Sem.run_bind]at g1;cases hX:(Instr.alloc _ _ _).run P w<;>rw[hX]at g1<;>simp[Result.andThen]at g1
       ·rename_i he;unfold execOp at g1;rw[he]at g1;simp only at g1;rw[Sem.run_bind]at g1;cases hX:(Instr.box _ _).run P w<;>rw[hX]at g1<;>simp[Result.andThen]at g1
       ·rename_i he;unfold execOp at g1;rw[he]at g1;simp only at g1;rw[Sem.run_bind]at g1;cases hX:(Instr.buildSlice _ _ _).run P w<;>rw[hX]at g1<;>simp[Result.andThen]at g1
       ·cases hm
     unfold Oper.wp;rw[g1];exact hK U' E' undef w' h2 g2 λhq=>by rw[hnm]at hnq;exact absurd (hnq hq) (by simp)
def R.seen(h:R w0 lab0 oo n U E a w){t:Nat}(ht:t<n){b:Bool}(hb:U.slot t=.c (.bool b)):R w0 lab0 oo n (U.put t (.c (.bool b))) E a w/\a.tmps[t]? = some (.bool b):=by
 have hs:=h.slots t;rw[hb]at hs;have hbd:=h.bound;have hv:dx oo a t=.bool b:=hs;unfold dx at hv;rw[if_pos (by omega)]at hv;have hlt:t<a.tmps.size:=by rw[h.size];exact ht
 have hget:a.tmps[t]? = some (.bool b):=by rw[Array.getD_eq_getD_getElem?,Array.getElem?_eq_getElem hlt]at hv;rw[Array.getElem?_eq_getElem hlt];exact congrArg some hv
 refine⟨?_,hget⟩;have:=h.put (d:=t) (s:=.c (.bool b)) (v:=.bool b) ht rfl;have e:a.put (some t) (.bool b)=a:=by
  unfold Act.put;have:a.tmps.setIfInBounds t (.bool b)=a.tmps:=by
   apply Array.ext_getElem?;intro i;rw[Array.getElem?_setIfInBounds];by_cases e:t=i;·subst e;rw[if_pos rfl,if_pos hlt,hget]
   ·rw[if_neg e]
  simp only[this]
 rwa [e]at this
def yP(h:R w0 lab0 oo n U E a w)(hops:nv n ops=true){i:Nat}{o:Oper}(ho:ops[i]? = some o){F K:St->Option J}{r:J}(hr:nu ops o U F K=some r){G:Prop}
  (hF:∀U',R w0 lab0 oo n U' E a w->F U'=some r->Region.wanted o (yielded ops a.tmps)=true->G)
  (hK:∀U',R w0 lab0 oo n U' E (a.put o.dst undef) w->K U'=some r->Region.wanted o (yielded ops a.tmps)=false->G):G:=by
 have hd:=ip hops ho;unfold nu at hr;split at hr;·rename_i hg;exact hF U h hr (by simp[Region.wanted,hg])
 ·rename_i j want hg;split at hr
  ·rename_i t ht;have htn:t<n:=by
    unfold yI at ht;split at ht;·rename_i oj hoj;exact ip hops hoj t ht
    ·cases ht
   have hbind:(ops[j]?).bind (·.dst)=some t:=by
    unfold yI at ht;split at ht;·rename_i oj hoj;rw[hoj];exact ht
    ·cases ht
   split at hr
   ·rename_i b hb;obtain⟨h1,h2⟩:=h.seen htn hb;have hy:yielded ops a.tmps j=some b:=by unfold yielded;rw[hbind];simp[h2]
    have hw:Region.wanted o (yielded ops a.tmps)=(b == want):=by unfold Region.wanted;rw[hg];simp only[hy];cases b<;>cases want<;>rfl
    cases b<;>cases want
    ·exact hF _ h1 hr (by rw[hw];rfl)
    ·exact hK _ (h1.iput (s:=.tup []) hd ⟨#[],rfl,trivial⟩) hr (by rw[hw];rfl)
    ·exact hK _ (h1.iput (s:=.tup []) hd ⟨#[],rfl,trivial⟩) hr (by rw[hw];rfl)
    ·exact hF _ h1 hr (by rw[hw];rfl)
   ·rename_i l hb;have hs:=h.slots t;rw[hb]at hs;obtain⟨arr,hv,_⟩:=hs;have hbd:=h.bound;unfold dx at hv;rw[if_pos (by omega)]at hv;have hlt:t<a.tmps.size:=by rw[h.size];exact htn
    have hy:yielded ops a.tmps j=none:=by unfold yielded;rw[hbind];rw[Array.getD_eq_getD_getElem?,Array.getElem?_eq_getElem hlt]at hv;have hv:a.tmps[t]=.tuple arr:=hv;simp[Array.getElem?_eq_getElem hlt,hv]
    exact hK _ (h.iput (s:=.tup []) hd ⟨#[],rfl,trivial⟩) hr (by unfold Region.wanted;rw[hg];simp[hy])
   ·cases hr
  ·cases hr
def Nd(h:R w0 lab0 oo n U E a w)(hops:nv n ops=true){i:Nat}{o:Oper}(ho:ops[i]? = some o){F K:St->Option J}{r:J}(hr:nu ops o U F K=some r){G:Prop}
  (hF:∀U',R w0 lab0 oo n U' E a w->(o.guard=none->U'=U)->F U'=some r->Region.wanted o (yielded ops a.tmps)=true->G)
  (hK:∀U',R w0 lab0 oo n U' E (a.put o.dst undef) w->K U'=some r->Region.wanted o (yielded ops a.tmps)=false->G):G:=by
 cases hg:o.guard with
 |none =>unfold nu at hr;rw[hg]at hr;exact hF U h (λ_=>rfl) hr (by simp[Region.wanted,hg])
 |some q=>exact yP h hops ho hr (λU' h' hF' hw=>hF U' h' (λhn=>by rw[hg]at hn;cases hn) hF' hw) hK
def oN{i:Nat}{o:Oper}(ho:ops[i]? = some o){next:Act->World->Prop}{Q:Exit->Act->World->Prop}(hw:Region.wanted o (yielded ops a.tmps)=true)(h:o.wp P a w next Q):wpOp P ops Q i next a w:=by unfold wpOp;rw[ho];simp only[hw,if_true];exact .inl h
def Dr{i:Nat}{o:Oper}(ho:ops[i]? = some o){next:Act->World->Prop}{Q:Exit->Act->World->Prop}(hw:Region.wanted o (yielded ops a.tmps)=false)(h:next (a.put o.dst undef) w):wpOp P ops Q i next a w:=by unfold wpOp;rw[ho];simp only[hw];exact h
def Nf(a:Act)(p:dH):Prop:=∀e k,p.el=some (e,k)->0<=k/\∃g m c,a.eval (.tmp p.d)=.slice (some ⟨g,0,none⟩) m c/\k<m/\a.eval (.tmp e)=.pointer (some ⟨g,k.toNat,none⟩)
def iq(U:St)(E:aO)(a:Act)(w:World)(pin:Option dH):Prop:=∀p,pin=some p->p.d<100000->(∃row,yf U E w p.r p.i p.f row (a.eval (.tmp p.d)))/\Nf a p
def Ds(hT:bg P T)(h:R w0 lab0 oo n U E a w){o:Oper}{p:dH}(hp:uc T U o=some p)(hd:∀d,o.dst=some d->d<n){c:Bool}{s:SV}(hv:cw T U o.op=some (c,s))(hc:c=true) :
  o.guard=none/\∃v,(execOp a.eval o).run P w=.ok (.value v) w/\aM U E w s v/\iq (fw U o.dst s) E (a.put o.dst v) w (some p):=by
 obtain⟨v,h1,h2⟩:=mX hT h hv hc;have hbd:=h.bound;obtain⟨dst,op,oty,pos,after,guard⟩:=o;unfold uc at hp;simp only at hp hd h1 ⊢;split at hp
 ·rename_i t x d;split at hp
  ·rename_i r i f hx;split at hp
   ·rename_i row ti hrow ht;cases hq:(row.deep&&(ti.el.isSome&&!ti.agg));·rw[hq]at hp;cases hp
    rw[hq]at hp;injection hp with hp;subst hp;simp only[Bool.and_eq_true,Bool.not_eq_true']at hq;refine⟨rfl,v,h1,h2,λp hp hlt=>?_⟩;injection hp with hp;subst hp;have hdn:=hd d rfl;have rx:=bz h x;rw[hx]at rx;obtain⟨row',g,m,c',e1,e2,e3,e4,e5,e6⟩:=rx.c_inv;rw[hrow]at e1;injection e1 with e1;subst e1;refine⟨⟨row,hrow,hq.1,e3,e4,g,m,c',e2, ?_⟩,λe k he=>by cases he⟩;have hev:(a.put (some d) v).eval (.tmp d)=v:=by show(a.tmps.setIfInBounds d v).getD d undef=v;rw[th _ _ _ _ (by rw[h.size];exact hdn),if_pos rfl]
    rw[hev];have hagg:=Ck hT ht w;rw[hq.2.2]at hagg;simp only[execOp,e6]at h1;obtain⟨u,hcl⟩:∃u,w.cell? ⟨g,i.toNat*row.t.nc+f,none⟩=some u:=by
     have hal:lx U (.elt r i f) 1=some (((ee row.t (row.xs.getD i.toNat row.t.dflt) (cond row.deep (some r) none)).drop f).take 1):=by simp only[lx,hrow];rw[show Nat.ble (f+1) row.t.nc=true from Nat.ble_eq_true_of_le (by omega)];rfl
     obtain⟨ad,vs,f',k1,k2,k3,_⟩:=xf h hal rx.c_inv;rw[e6]at k1;injection k1 with k1;injection k1 with k1;exact⟨vs[f'],by rw[k1];exact k3 f' _ (List.getElem?_eq_getElem (by omega))⟩
    simp[Instr.loadAt,Instr.sureAddr,loadVar,hagg,hcl]at h1;rw[hcl,h1]
   ·cases hp
  ·cases hp
 ·cases hp
def Nh(hT:bg P T)(hΓ:nw P w0 lab0 Γ)(h:R w0 lab0 oo n U E a w){o:Oper}(hd:∀d,o.dst=some d->d<n){p:dH}{f:Nat}{args:List Operand}(hcall:q6 U o.op=some (f,args))
  {en:aK} (hen:Γ.g f=some en) (hio:q8 p.d (ij en.sig.ps args)=true) (hone:dX en.sig.ps=true) (hpin:iq U E a w (some p)) {K:St->Option J}{r:J} (hr:Dm Γ N p f args o.dst U K=some r) {next:Act->World->Prop}{Q:Exit->Act->World->Prop}
  (hK:∀U' E' v w',K U'=some r->R w0 lab0 oo n U' E' (a.put o.dst v) w'->next (a.put o.dst v) w'):o.wp P a w next Q:=by
 cases hr
def Dt(hT:bg P T)(h:R w0 lab0 oo n U E a w){o:Oper}{p:dH}{e:Nat}{k:Int}{t:Nat}{x:Operand}(hput:yE p o.op o.dst=some (e,k,t,x))(hpin:iq U E a w (some p)){K:St->Option J}{r:J}(hr:yJ T p k t x U K=some r){next:Act->World->Prop}{Q:Exit->Act->World->Prop}
  (hK:∀U' E' v w',K U'=some r->R w0 lab0 oo n U' E' (a.put o.dst v) w'->next (a.put o.dst v) w'):o.wp P a w next Q:=by
 cases hr
def Du(hT:bg P T)(h:R w0 lab0 oo n U E a w){o:Oper}{p p':dH}(hp:yD T U p o.op o.dst=some p')(hd:∀d,o.dst=some d->d<n)(hpin:iq U E a w (some p)){c:Bool}{s:SV}(hv:cw T U o.op=some (c,s))(hc:c=true) :
  ∃v,(execOp a.eval o).run P w=.ok (.value v) w/\aM U E w s v/\iq (fw U o.dst s) E (a.put o.dst v) w (some p'):=by
 cases hp
def oO(hT:bg P T)(hΓ:nw P w0 lab0 Γ)(hops:nv n ops=true){Q:Exit->Act->World->Prop}{K:St->Option J}{r:J}
  (hK:∀U' E' a' w',K U'=some r->R w0 lab0 oo n U' E' a' w'->Q .normal a' w') :
  ∀(is:List Nat) {pin:Option dH}{U:St}{E:aO}{a:Act}{w:World},R w0 lab0 oo n U E a w->iq U E a w pin->lH Γ T N ops is pin U K=some r->wpOps P ops Q is a w
 |[],pin,U,E,a,w,h,_,hr=>hK U E a w hr h
 |i::d8,pin,U,E,a,w,h,hpin,hr=>by
  have nopin:∀{U:St}{E:aO}{a:Act}{w:World},iq U E a w none:=λp hp=>by cases hp
  rw[wpOps_cons];simp only[lH]at hr;split at hr
  ·rename_i o ho;split at hr;·refine yP h hops ho hr (λU' h' hF hw=>oN ho hw ?_) (λU' h' hr' hw=>Dr ho hw (oO hT hΓ hops hK d8 h' nopin hr'));exact Dq hT hΓ h' (ip hops ho) hF λσ2 E2 v w2 hr2 h2 _=>oO hT hΓ hops hK d8 h2 nopin hr2
   ·rename_i p hm;split at hr
    ·rename_i c s hv;rw[yF,yG]at hr;cases c;·cases hr
     simp only[cond_true]at hr;obtain⟨hg,v,h1,h2,h3⟩:o.guard=none/\∃v,(execOp a.eval o).run P w=.ok (.value v) w/\aM U E w s v/\iq (fw U o.dst s) E (a.put o.dst v) w (some p):=by
      unfold ue at hm;split at hm;·rename_i p' hp';injection hm with hm;subst hm;exact Ds hT h hp' (ip hops ho) hv rfl
      ·split at hm;·cases hm
       ·rename_i p' ;split at hm;·cases hm
        ·rename_i hg;split at hm
         ·split at hm;·rename_i en _;cases hq:(q8 p'.d (ij en.sig.ps _)&&dX en.sig.ps)<;>rw[hq]at hm<;>cases hm
          ·cases hm
         ·split at hm;·rename_i p2 hel;injection hm with hm;subst hm;obtain⟨v,h1,h2,h3⟩:=Du hT h hel (ip hops ho) hpin hv rfl;exact⟨hg,v,h1,h2,h3⟩
          split at hm;·cases hm
          cases hq:(jC o.op&&(jB p'.d o.dst&&lG p' o.dst));·rw[hq]at hm;cases hm
          rw[hq]at hm;injection hm with hm;subst hm;simp only[Bool.and_eq_true]at hq;obtain⟨v,h1,h2⟩:=mX hT h hv rfl;refine⟨hg,v,h1,h2,λp hp hlt=>?_⟩;obtain⟨⟨row,k1,k2,k3,k4,k5⟩,hE⟩:=hpin p hp hlt;injection hp with hp;subst hp;have keep:∀z,jB z o.dst=true->(a.put o.dst v).eval (.tmp z)=a.eval (.tmp z):=by
           intro z hz;cases hdst:o.dst with
           |none=>rfl
           |some e =>
            have he:=ip hops ho e hdst;rw[hdst]at hz;show(a.tmps.setIfInBounds e v).getD z undef=a.tmps.getD z undef;rw[th _ _ _ _ (by rw[h.size];exact he),if_neg];rintro rfl
            simp[jB]at hz
          refine⟨⟨row,⟨?_,k2,k3,k4, ?_⟩⟩,λe k he=>?_⟩;rotate_left 2
          ·obtain⟨q1,g,m,c,q2,q3,q4⟩:=hE e k he;refine⟨q1,g,m,c,by rw[keep _ hq.2.1];exact q2,q3, ?_⟩;rw[keep _ (by have:=hq.2.2;unfold lG at this;rw[he]at this;exact this)];exact q4
          ·cases hdst:o.dst<;>exact k1
          ·rw[keep _ hq.2.1];exact k5
     refine oN ho (by simp[Region.wanted,hg]) ?_;unfold Oper.wp;rw[h1];exact oO hT hΓ hops hK d8 (h.iput (ip hops ho) h2) h3 hr
    ·cases hr
   ·rename_i p f args hm;unfold ue at hm;split at hm;·cases hm
    ·split at hm;·cases hm
     ·rename_i p';split at hm;·cases hm
      ·rename_i hg;split at hm
       ·rename_i f' args' hcall;split at hm
        ·rename_i en hen;cases hq:(q8 p'.d (ij en.sig.ps args')&&dX en.sig.ps);·rw[hq]at hm;cases hm
         rw[hq]at hm;injection hm with e1 e2 e3;subst e1 e2 e3;simp only[Bool.and_eq_true]at hq;refine oN ho (by simp[Region.wanted,hg]) ?_;exact Nh hT hΓ h (ip hops ho) hcall hen hq.1 hq.2 hpin hr λU' E' v w' hr' h'=>oO hT hΓ hops hK d8 h' nopin hr'
        ·cases hm
       ·split at hm;·cases hm
        split at hm;·cases hm
        ·cases hq:(jC o.op&&(jB p'.d o.dst&&lG p' o.dst))<;>rw[hq]at hm<;>cases hm
   ·rename_i p e k t x hm;unfold ue at hm;split at hm;·cases hm
    ·split at hm;·cases hm
     ·rename_i p';split at hm;·cases hm
      ·rename_i hg;split at hm
       ·split at hm;·rename_i en _;cases hq:(q8 p'.d (ij en.sig.ps _)&&dX en.sig.ps)<;>rw[hq]at hm<;>cases hm
        ·cases hm
       ·split at hm;·cases hm
        split at hm;·rename_i e1 k1 t1 x1 hput;injection hm with q1 q2 q3 q4 q5;subst q1 q2 q3 q4 q5;refine oN ho (by simp[Region.wanted,hg]) ?_;exact Dt hT h hput hpin hr λU' E' v w' hr' h'=>oO hT hΓ hops hK d8 h' nopin hr'
        ·cases hq:(jC o.op&&(jB p'.d o.dst&&lG p' o.dst))<;>rw[hq]at hm<;>cases hm
  ·cases hr
def NP(Q:Exit->Act->World->Prop):Prop:=∀c a a' w,Q (.panic c) a w->Q (.panic c) a' w
def yQ{f:Nat->Bool}{i:Nat}:∀{l:List Nat},uf f l=some i->i∈l/\f i=true
 |[],h=>by cases h
 |j::l,h=>by
  simp only[uf]at h;cases hb:f j;·rw[hb]at h;exact⟨List.mem_cons_of_mem _ (yQ h).1,(yQ h).2⟩
  ·rw[hb]at h;injection h with h;subst h;exact⟨List.mem_cons_self,hb⟩
def Dv(hT:bg P T)(h:R w0 lab0 oo n U E a w){o:Oper}{pin:Option dH}(hd:∀d,o.dst=some d->d<n)(hpin:o.guard=none->iq U E a w pin){c:Bool}{s:SV}(hv:cw T U o.op=some (c,s))(hc:c=true)
  {v:Value} (h1:(execOp a.eval o).run P w=.ok (.value v) w):iq (fw U o.dst s) E (a.put o.dst v) w (yK T U o pin):=by
 have nopin:∀{U:St}{E:aO}{a:Act}{w:World},iq U E a w none:=λp hp=>by cases hp
 have same:∀{v'},(execOp a.eval o).run P w=.ok (.value v') w->v'=v:=λ{v'} h2=>by rw[h1]at h2;injection h2 with h2;injection h2 with h2;exact h2.symm
 unfold yK;split;·rename_i p hp;obtain⟨_,v',k1,_,k2⟩:=Ds hT h hp hd hv hc;obtain rfl:=same k1;exact k2
 ·split
  ·rename_i p hg;have hpin:=hpin hg;split;·rename_i p' hp';obtain⟨v',k1,_,k2⟩:=Du hT h hp' hd hpin hv hc;obtain rfl:=same k1;exact k2
   ·cases hq:(jB p.d o.dst&&lG p o.dst);·exact nopin
    ·simp only[Bool.and_eq_true]at hq;intro p' hp' hlt;injection hp' with hp';subst hp';obtain⟨⟨row,k1,k2,k3,k4,k5⟩,hE⟩:=hpin p rfl hlt;have keep:∀z,jB z o.dst=true->(a.put o.dst v).eval (.tmp z)=a.eval (.tmp z):=by
      intro z hz;cases hdst:o.dst with
      |none=>rfl
      |some e =>
       have he:=hd e hdst;rw[hdst]at hz;show(a.tmps.setIfInBounds e v).getD z undef=a.tmps.getD z undef;rw[th _ _ _ _ (by rw[h.size];exact he),if_neg];rintro rfl
       simp[jB]at hz
     refine⟨⟨row,⟨?_,k2,k3,k4, ?_⟩⟩,λe k he=>?_⟩;·cases hdst:o.dst<;>exact k1
     ·rw[keep _ hq.1];exact k5
     ·obtain⟨q1,g,m,c,q2,q3,q4⟩:=hE e k he;refine⟨q1,g,m,c,by rw[keep _ hq.1];exact q2,q3, ?_⟩;rw[keep _ (by have:=hq.2;unfold lG at this;rw[he]at this;exact this)];exact q4
  ·exact nopin
def lJ(hT:bg P T)(hΓ:nw P w0 lab0 Γ)(hops:nv n ops=true)(hsel:Region.noSelect ops=true){Q:Exit->Act->World->Prop}(hQ:NP Q){K:St->Option J}{r:J}
  (hK:∀U' E' a' w',K U'=some r->R w0 lab0 oo n U' E' a' w'->Q .normal a' w') :
  ∀(fuel:Nat) (listed:Array Bool) {pin:Option dH}{U:St}{E:aO}{a:Act}{w:World},jx ops listed->R w0 lab0 oo n U E a w->iq U E a w pin->kN Γ T N ops fuel listed pin U K=some r->gN P ops (lI Γ ops) Q fuel listed a w
 |0,listed,pin,U,E,a,w,hcl,h,hpin,hr=>by
  simp only[kN]at hr;cases hq:(Region.ready .any ops listed).isEmpty;·rw[hq]at hr;cases hr
  ·rw[hq]at hr;exact⟨by simpa using hq,hK U E a w hr h⟩
 |fuel+1,listed,pin,U,E,a,w,hcl,h,hpin,hr=>by
  have nopin:∀{U:St}{E:aO}{a:Act}{w:World},iq U E a w none:=λp hp=>by cases hp
  simp only[kN]at hr;split at hr;·rename_i hre;exact MQ hre (hK U E a w hr h) _
  ·rename_i i0 rs hre;split at hr
   ·rename_i i hi;obtain⟨hmem,hfs⟩:=yQ hi;rw[<-hre]at hmem;split at hr
    ·rename_i o ho;obtain⟨hfree,hH⟩:Region.free .any ops listed i=true/\lI Γ ops i=false:=by unfold Do at hfs;rw[ho]at hfs;simp only[Bool.and_eq_true,Bool.not_eq_true']at hfs;exact⟨hfs.2.1,hfs.2.2⟩
     refine Nd h hops ho hr (λU' h' hsame hF hw=>?_) (λU' h' hr' hw=>?_)
     ·unfold Dn at hF;split at hF
      ·rename_i c s hv;rw[yF,yG]at hF;cases hso:xR o.op s;·rw[hso]at hF;cases hF
       ·rw[hso]at hF;cases c;·cases hF
        ·cases hpo:m7 o.op;·obtain⟨v,h1,h2⟩:=ML hT h' hv rfl hso;exact CN hH ho hpo hsel hcl hfree hmem (λc a' w' hq=>hQ c _ _ _ hq) (.inl ⟨hw,h1⟩) (lJ hT hΓ hops hsel hQ hK fuel _ (hcl.put hmem) (h'.iput (ip hops ho) h2) (Dv hT h' (ip hops ho) (λhg=>by have:=hsame hg;subst this;exact hpin) hv rfl (h1 w (bQ.refl w))) hF)
         ·obtain⟨v,h1,h2⟩:=MM hT h' hv rfl hpo;exact CO ho hsel hfree hmem (λc a' w' hq=>hQ c _ _ _ hq) (.inl ⟨hw,λw' _=>h1 w'⟩) (lJ hT hΓ hops hsel hQ hK fuel _ (hcl.put hmem) (h'.iput (ip hops ho) h2) (Dv hT h' (ip hops ho) (λhg=>by have:=hsame hg;subst this;exact hpin) hv rfl (h1 w)) hF)
      ·cases hF
     ·cases hpo:m7 o.op;·exact CN hH ho hpo hsel hcl hfree hmem (λc a' w' hq=>hQ c _ _ _ hq) (.inr ⟨hw,rfl⟩) (lJ hT hΓ hops hsel hQ hK fuel _ (hcl.put hmem) h' nopin hr')
      ·exact CO ho hsel hfree hmem (λc a' w' hq=>hQ c _ _ _ hq) (.inr ⟨hw,rfl⟩) (lJ hT hΓ hops hsel hQ hK fuel _ (hcl.put hmem) h' nopin hr')
    ·cases hr
   ·refine⟨(λhe=>by rw[hre]at he;cases he),λi hi=>?_⟩;rw[hre]at hi;have hr:=Di hr i hi;split at hr
    ·rename_i o ho;cases hq:(gQ Γ o||jY ops (lI Γ ops) i);·rw[hq]at hr;cases hr
     ·rw[hq]at hr;simp only[cond_true]at hr;have hext:∀{w'},(gQ Γ o=true->bQ w w')->jY ops (lI Γ ops) i=false->bQ w w':=λh1 h2=>h1 (by simpa[h2]using hq);split at hr
      ·rename_i p e k t x hput;cases hlb:jY ops (lI Γ ops) i;·rw[hlb]at hr;cases hr
       rw[hlb]at hr;simp only[cond_true]at hr;unfold Dp at hput;split at hput
       ·rename_i p' hg;split at hput;·rename_i y hy;injection hput with hput;injection hput with q1 q2;subst q1 q2;refine oN ho (by simp[Region.wanted,hg]) ?_;exact Dt hT h hy hpin hr λU' E' v w' hr' h'=>⟨(λhlf=>by cases hlf),lJ hT hΓ hops hsel hQ hK fuel _ (hcl.put (by rw[hre];exact hi)) h' nopin hr'⟩
        ·cases hput
       ·cases hput
      refine yP h hops ho hr (λU' h' hF hw=>oN ho hw ?_) (λU' h' hr' hw=>Dr ho hw ⟨λ_=>bQ.refl w,lJ hT hΓ hops hsel hQ hK fuel _ (hcl.put (by rw[hre];exact hi)) h' nopin hr'⟩);exact Dq hT hΓ h' (ip hops ho) hF λσ2 E2 v w2 hr2 h2 h3=>⟨hext h3,lJ hT hΓ hops hsel hQ hK fuel _ (hcl.put (by rw[hre];exact hi)) h2 nopin hr2⟩
    ·cases hr
def Ni(hT:bg P T)(hΓ:nw P w0 lab0 Γ)(hm:P.follows .mixedOrders=true)(hops:nv n ops=true){Q:Exit->Act->World->Prop}(hQ:NP Q){K:St->Option J}{r:J}{id:Nat}{draw:Bool}
  (hK:∀U' E' a' w',K U'=some r->R w0 lab0 oo n U' E' a' w'->Q .normal a' w') (h:R w0 lab0 oo n U E a w) (hr:yL Γ T N ops draw U K=some r):(Code.region id ops draw).wp P Q a w:=by
 unfold yL at hr;cases draw;·exact wp_region (oO hT hΓ hops hK _ h (λp hp=>by cases hp) hr)
 ·simp only[cond_true]at hr;cases hsel:Region.noSelect ops;·rw[hsel]at hr;cases hr
  ·rw[hsel]at hr;refine wp_region_any hm (CL _ _ _ _ (lJ hT hΓ hops hsel hQ hK _ _ jx.none (h.ext ?_) (λp hp=>by cases hp) hr));exact⟨rfl,⟨rfl,λ_=>Nat.le_succ _⟩,rfl,Nat.le_refl _,λ_ _=>rfl⟩
end
def az{α:Type}:List (Nat×α)->Nat->Option α
 |[],_=>none
 | (k,v)::l,t=>cond (Nat.beq t k) (some v) (az l t)
structure fT where
 bx:Bool
 k:Nat
 i:Nat
structure rp where
 loc:fT
 nm:Nat
 e:Nat
 t:Ty
 deep:Bool
structure ab where
 slots:List Nat
 boxes:List Nat
 nils:List rp
 frz:List (fT×Nat×Ty)
 rows:List (fT×Nat)
def nx(U:St)(l:fT):Option ai :=
 cond l.bx (match U.box l.k with
  |some (_,cs)=>cs[l.i]?
  |none=>none)
 (match U.slot l.k with
  |.c x=>cond (Nat.beq l.i 0) (some x) none
  |.agg cs=>cs[l.i]?
  |.tup _=>none)
def uh(U:St)(l:fT)(c:ai):St :=
 cond l.bx (match U.box l.k with
  |some (te,cs)=>⟨U.slot,ao U.box l.k (some (te,cs.set l.i c)),U.row⟩
  |none=>U)
 (match U.slot l.k with
  |.c _=>U.put l.k (.c c)
  |.agg cs=>U.put l.k (.agg (cs.set l.i c))
  |.tup _=>U)
def yR(U:St)(d:rp):Option St:=match nx U d.loc with
 |some .nil=>match U.row d.nm with
  |none=>some (uh (U.withRow (ao U.row d.nm (some ⟨d.e,d.t,[],d.deep,true⟩))) d.loc (.own d.nm))
  |some _=>none
 |some (.own r)=>match U.row r with
  |some row=>match tG row d.deep with
   |some row'=>some { U with row:=ao U.row r (some row') }
   |none=>some U
  |none=>some U
 |_=>some U
def ui:List rp->St->Option St
 |[],U=>some U
 |d::ds,U=>match yR U d with
  |some U'=>ui ds U'
  |none=>none
def yS(U:St)(d:fT×Nat×Ty):Option St:=match nx U d.1 with
 |some (.own r)=>absorb r none U
 |some .nil=>some (uh U d.1 (.sn d.2.1 d.2.2 [] none))
 |_=>some U
def uj:List (fT×Nat×Ty)->St->Option St
 |[],U=>some U
 |d::ds,U=>match yS U d with
  |some U'=>uj ds U'
  |none=>none
def Dw(U:St):List (fT×Nat)->Option (List (Nat×Nat))
 |[]=>some []
 | (l,q)::ls=>match nx U l,Dw U ls with
  |some (.own r),some m=>some ((r,q)::m)
  |_,_=>none
def iR(m:List (Nat×Nat))(f:Nat->ai)(r:Nat):ai:=match az m r with
 |some q=>f q
 |none=>.undef
def gh(m:List (Nat×Nat))(bs:List Nat):ai->ai
 |.own r=>iR m .own r
 |.part r lo n=>iR m (λq=>.part q lo n) r
 |.elt r i f=>iR m (λq=>.elt q i f) r
 |.sn e t xs (some r)=>iR m (λq=>.sn e t xs (some q)) r
 |.full e t xs (some r)=>iR m (λq=>.full e t xs (some q)) r
 |.selt t x (some r) f=>iR m (λq=>.selt t x (some q) f) r
 |.box b f=>cond (bH b bs) (.box b f) .undef
 |.mp b=>cond (bH b bs) (.mp b) .undef
 |.fn f caps=>cond (caps.all λp=>bH p.1 bs) (.fn f caps) .undef
 |c=>c
def yT(q:Nat):Bool:=Nat.ble 1000000000 q
def ny(q:Nat)(row:ac):ac:=⟨row.e,row.t,row.xs,row.deep,yT q&&row.nilE⟩
def uk(U:St)(f:ai->ai):List Nat->Option (List (Nat×(Nat×List ai)))
 |[]=>some []
 |b::bs=>match U.box b,uk U f bs with
  |some (te,cs),some l=>some ((b,(te,cs.map f))::l)
  |_,_=>none
def oP(U:St):List (Nat×Nat)->Option (List (Nat×ac))
 |[]=>some []
 | (r,q)::m=>match U.row r,oP U m with
  |some row,some l=>some ((q,ny q row)::l)
  |_,_=>none
def gi(sl:List (Nat×SV))(t:Nat):SV:=match az sl t with
 |some s=>s
 |none=>.c .undef
def af(sl:List (Nat×SV))(bx:List (Nat×(Nat×List ai)))(rw:List (Nat×ac)):St:=⟨gi sl,az bx,az rw⟩
def rq(U:St)(f:ai->ai):List Nat->List (Nat×SV)
 |[]=>[]
 |t::ts=>(t,(U.slot t).map f)::rq U f ts
def ir(cl:ab)(U:St):Option St:=match(ui cl.nils U).bind (uj cl.frz)with
 |some σ1=>match Dw σ1 cl.rows with
  |some m=>cond (dU (m.map (·.1))&&dU (m.map (·.2))) (match uk σ1 (gh m cl.boxes) cl.boxes,oP σ1 m with
   |some bx,some rw=>some (af (rq σ1 (gh m cl.boxes) cl.slots) bx rw)
   |_,_=>none) none
  |none=>none
 |none=>none
section
variable {P : Program} {U U' : St} {E E' : aO} {w w' : World} {w0 : World} {lab0 : Nat → aB} {oo : Nat → Value} {n : Nat} {a : Act} [DC]
def R.reslot(h:R w0 lab0 oo n U E a w){t:Nat}{s:SV}(hs:∀v,aM U E w (U.slot t) v->aM U E w s v):R w0 lab0 oo n (U.put t s) E a w:=by
 have m:cE U E w (U.put t s) E w:=cE.same rfl rfl;refine⟨h.bound,h.size,h.defers,λt'=>?_,λb te cs hb=>?_,h.rows,h.same⟩
 ·by_cases e:t'=t;·subst e;show aM _ _ _ (ao U.slot t' s t') _;rw[bc];exact(hs _ (h.slots t')).move m
  ·show aM _ _ _ (ao U.slot t s t') _;rw[bv _ _ e];exact(h.slots t').move m
 ·obtain⟨arr,h1,h2,h3,h4⟩:=h.boxes b te cs hb;exact⟨arr,h1,h2,h3.imp λ_ _ h=>h.move m,h4⟩
def R.rebox(h:R w0 lab0 oo n U E a w){b te:Nat}{cs cs':List ai}(hb:U.box b=some (te,cs))(hl:cs'.length=cs.length)(hs:∀vs,aj (am U E w) cs vs->aj (am U E w) cs' vs) :
  R w0 lab0 oo n ⟨U.slot,ao U.box b (some (te,cs')),U.row⟩ E a w:=by
 have m:cE U E w ⟨U.slot,ao U.box b (some (te,cs')),U.row⟩ E w:=by
  refine⟨λr row h=>⟨row,h,rfl,rfl,Nat.le_refl _⟩,λb' te' cs0 hb'=>?_,λ_ _ _ h1 h2=>⟨h1,h2⟩,λ_ _ _ _ h=>h⟩;by_cases e:b'=b;·subst e;rw[hb]at hb';injection hb' with hb';injection hb' with e1 e2;subst e1 e2;exact⟨te,cs',bc _ _ _,rfl,hl⟩
  ·exact⟨te',cs0,(bv _ _ e).trans hb',rfl,rfl⟩
 refine⟨h.bound,h.size,h.defers,λt'=>(h.slots t').move m,λb' te' cs0 hb'=>?_,h.rows,h.same⟩;by_cases e:b'=b;·subst e;have hb':ao U.box b' (some (te,cs')) b'=some (te',cs0):=hb';rw[bc]at hb';injection hb' with hb';injection hb' with e1 e2;subst e1 e2;obtain⟨arr,h1,h2,h3,h4⟩:=h.boxes b' te cs hb;exact⟨arr,h1,h2,(hs _ h3).imp λ_ _ h=>h.move m,h4⟩
 ·have hb':ao U.box b (some (te,cs')) b'=some (te',cs0):=hb';rw[bv _ _ e]at hb';obtain⟨arr,h1,h2,h3,h4⟩:=h.boxes b' te' cs0 hb';exact⟨arr,h1,h2,h3.imp λ_ _ h=>h.move m,h4⟩
def aj.reset{Q:ai->Value->Prop}{c c':ai}(hs:∀v,Q c v->Q c' v):∀{cs:List ai}{vs:List Value}{i:Nat},cs[i]? = some c->aj Q cs vs->aj Q (cs.set i c') vs
 |[],_,_,h,_=>by simp at h
 |x::cs,[],_,_,h=>h.elim
 |x::cs,v::vs,0,h,h2=>by simp at h;subst h;exact⟨hs _ h2.1,h2.2⟩
 |x::cs,v::vs,i+1,h,h2=>⟨h2.1,aj.reset hs (by simpa using h) h2.2⟩
def R.resetAt(h:R w0 lab0 oo n U E a w){l:fT}{c c':ai}(hc:nx U l=some c)(hs:∀v,am U E w c v->am U E w c' v):R w0 lab0 oo n (uh U l c') E a w:=by
 obtain⟨bx,k,i⟩:=l;unfold nx at hc;unfold uh;cases bx
 ·simp only[cond_false]at hc ⊢;split at hc
  ·rename_i x hx;cases hi:Nat.beq i 0;·rw[hi]at hc;cases hc
   ·rw[hi]at hc;injection hc with hc;subst hc;exact h.reslot λv hv=>by rw[hx]at hv;exact hs v hv
  ·rename_i cs hx;refine h.reslot λv hv=>?_;rw[hx]at hv;obtain⟨arr,e,hv⟩:=hv;exact⟨arr,e,hv.reset hs hc⟩
  ·cases hc
 ·simp only[cond_true]at hc ⊢;split at hc;·rename_i te cs hx;exact h.rebox hx (by simp) λvs hv=>hv.reset hs hc
  ·cases hc
def Nj(h:R w0 lab0 oo n U E a w){d:rp}(hr:yR U d=some U'):∃E',R w0 lab0 oo n U' E' a w:=by
 unfold yR at hr;split at hr
 ·rename_i hc;split at hr
  ·rename_i hfree;injection hr with hr;subst hr;have G:=h.nilRow (r:=d.nm) (e:=d.e) (t:=d.t) (deep:=d.deep) hfree;refine⟨_,R.resetAt (c:=.nil) G ?_ λv hv=>?_⟩;·exact hc
   ·obtain rfl:v=_:=hv;exact⟨(bc _ _ _).symm,by show(ao U.row d.nm _ d.nm).isSome=true;rw[bc];rfl,none,0,0,rfl⟩
  ·cases hr
 ·split at hr
  ·rename_i row hrow;split at hr;·rename_i row' hsh;injection hr with hr;subst hr;exact⟨E,(h.shal hrow hsh).2.2.2⟩
   ·injection hr with hr;subst hr;exact⟨E,h⟩
  ·injection hr with hr;subst hr;exact⟨E,h⟩
 ·injection hr with hr;subst hr;exact⟨E,h⟩
def Dx:∀{ds:List rp}{U U':St}{E:aO},R w0 lab0 oo n U E a w->ui ds U=some U'->∃E',R w0 lab0 oo n U' E' a w
 |[],U,U',E,h,hr=>by injection hr with hr;subst hr;exact⟨E,h⟩
 |d::ds,U,U',E,h,hr=>by
  simp only[ui]at hr;split at hr;·rename_i σ1 h1;obtain⟨E1,g1⟩:=Nj h h1;exact Dx g1 hr
  ·cases hr
def Nk(h:R w0 lab0 oo n U E a w){d:fT×Nat×Ty}(hr:yS U d=some U'):∃E',R w0 lab0 oo n U' E' a w:=by
 unfold yS at hr;split at hr;·rename_i r hc;obtain⟨lab',g,_⟩:=R.absorbs (p:=none) (qs:=[r]) (U':=U') h (by simp[Fw.absorbs,hr]) (λ_ h=>by cases h);exact⟨_,g⟩
 ·rename_i hc;injection hr with hr;subst hr;exact⟨E,h.resetAt hc λv hv=>by obtain rfl:v=_:=hv;exact⟨none,0,0,rfl,rfl,Nat.le_refl _,Nat.zero_le _,.inl rfl⟩⟩
 ·injection hr with hr;subst hr;exact⟨E,h⟩
def Dy:∀{ds:List (fT×Nat×Ty)}{U U':St}{E:aO},R w0 lab0 oo n U E a w->uj ds U=some U'->∃E',R w0 lab0 oo n U' E' a w
 |[],U,U',E,h,hr=>by injection hr with hr;subst hr;exact⟨E,h⟩
 |d::ds,U,U',E,h,hr=>by
  simp only[uj]at hr;split at hr;·rename_i σ1 h1;obtain⟨E1,g1⟩:=Nk h h1;exact Dy g1 hr
  ·cases hr
def oQ(m:List (Nat×Nat)):aB->aB
 |.row r=>match az m r with
  |some q=>.row q
  |none=>.dead
 |.inn r=>match az m r with
  |some q=>.inn q
  |none=>.dead
 |l=>l
def Dz{m:List (Nat×Nat)}{p p':Option Nat}(h:(p=none/\p'=none)\/∃r q,p=some r/\p'=some q/\az m r=some q):oQ m (bD p)=bD p':=by
 rcases h with⟨rfl,rfl⟩|⟨r,q,rfl,rfl,h⟩;·rfl
 ·simp[bD,oQ,h]
def R.ren(h:R w0 lab0 oo n U E a w){m:List (Nat×Nat)}{bs:List Nat}(hslot:∀t,U'.slot t=(U.slot t).map (gh m bs)\/U'.slot t=.c .undef)
  (hbox:∀b te cs,U'.box b=some (te,cs)->∃cs0,U.box b=some (te,cs0)/\cs=cs0.map (gh m bs))
  (hbox':∀b te cs,bH b bs=true->U.box b=some (te,cs)->U'.box b=some (te,cs.map (gh m bs)))
  (hrow:∀q row',U'.row q=some row'->∃r row,az m r=some q/\U.row r=some row/\row'=ny q row)
  (hrow':∀r q row,az m r=some q->U.row r=some row->U'.row q=some (ny q row))
  (inj:∀r r' q,az m r=some q->az m r'=some q->r=r'):∃E',R w0 lab0 oo n U' E' a w:=by
 classical
 let E':aO:=⟨λk=>oQ m (E.lab k),λq=>if hq:∃r,az m r=some q then E.rv hq.choose else undef,E.bb⟩;have hrv:∀r q,az m r=some q->E'.rv q=E.rv r:=by intro r q hq;have hex:∃r,az m r=some q:=⟨r,hq⟩;show(if hq:∃r,az m r=some q then E.rv hq.choose else undef)=_;rw[dif_pos hex,inj _ _ _ hex.choose_spec hq]
 have hlab:∀k,E'.lab k=oQ m (E.lab k):=λk=>rfl;have rd:∀{p p':Option Nat}{t:Ty}{cs:List Value}{x:t.den},((p=none/\p'=none)\/∃r q,p=some r/\p'=some q/\az m r=some q)->Rd w (λk=>E.lab k=bD p) t cs x->Rd w (λk=>E'.lab k=bD p') t cs x:=by intro p p' t cs x hp hr;refine hr.mono λk hk=>?_;rw[hlab,hk];exact Dz hp
 have selt:∀{p p':Option Nat}{t:Ty}{x:t.den}{f:Nat}{v:Value},((p=none/\p'=none)\/∃r q,p=some r/\p'=some q/\az m r=some q)->am U E w (.selt t x p f) v->am U' E' w (.selt t x p' f) v:=by intro p p' t x f v hp hr;obtain⟨ad,cs,h1,h2,h3,h4,h5⟩:=hr;exact⟨ad,cs,h1,h2,by rw[hlab,h3];exact Dz hp,rd hp h4,h5⟩
 have hc:∀c v,am U E w c v->am U' E' w (gh m bs c) v:=by
  intro c v hv;cases c with
  |undef=>trivial
  |int _ _=>exact hv
  |bool _=>exact hv
  |str _=>exact hv
  |err _=>exact hv
  |bor v0 e t xs=>exact⟨hv.1,rd (p:=none) (p':=none) (.inl ⟨rfl,rfl⟩) hv.2⟩
  |nil=>exact hv
  |sn e t xs p =>
   cases p with
   |none=>exact rd (p:=none) (p':=none) (.inl ⟨rfl,rfl⟩) hv
   |some r =>
    simp only[gh,iR];split;·rename_i q hq;exact rd (p:=some r) (p':=some q) (.inr ⟨r,q,rfl,rfl,hq⟩) hv
    ·trivial
  |full e t xs p =>
   cases p with
   |none=>exact⟨rd (p:=none) (p':=none) (.inl ⟨rfl,rfl⟩) hv.1,hv.2⟩
   |some r =>
    simp only[gh,iR];split;·rename_i q hq;exact⟨rd (p:=some r) (p':=some q) (.inr ⟨r,q,rfl,rfl,hq⟩) hv.1,hv.2⟩
    ·trivial
  |own r =>
   simp only[gh,iR];split;·rename_i q hq;obtain⟨rfl,h1,h2⟩:=hv;obtain⟨row,hr⟩:=Option.isSome_iff_exists.1 h1;exact⟨(hrv r q hq).symm,by rw[hrow' r q row hq hr];rfl,h2⟩
   ·trivial
  |part r lo n =>
   simp only[gh,iR];split;·rename_i q hq;obtain⟨row,A,c,h1,h2,h3,h4,h5,h6,h7,h8⟩:=hv;refine⟨ny q row,A,c,hrow' r q row hq h1,h2,h3,h4,h5,h6,h7,λhn=>?_⟩;rw[hrv r q hq];exact h8 hn
   ·trivial
  |box b f =>
   simp only[gh];cases hb:bH b bs;·trivial
   ·obtain⟨rfl,te,cs,h1,h2⟩:=hv;exact⟨rfl,te,_,hbox' b te cs hb h1,by simpa using h2⟩
  |mp b =>
   simp only[gh];cases hb:bH b bs;·trivial
   ·obtain⟨rfl,te,cs,h1⟩:=hv;exact⟨rfl,te,_,hbox' b te cs hb h1⟩
  |mset t xs=>exact hv
  |elt r i f =>
   simp only[gh,iR];split;·rename_i q hq;obtain⟨row,g,n,c,h1,h2,h3,h4,h5,h6⟩:=hv;exact⟨ny q row,g,n,c,hrow' r q row hq h1,by rw[hrv r q hq];exact h2,h3,h4,h5,h6⟩
   ·trivial
  |selt t x p f =>
   cases p with
   |none=>exact selt (p:=none) (p':=none) (.inl ⟨rfl,rfl⟩) hv
   |some r =>
    simp only[gh,iR];split;·rename_i q hq;exact selt (p:=some r) (p':=some q) (.inr ⟨r,q,rfl,rfl,hq⟩) hv
    ·trivial
  |fn f caps =>
   simp only[gh];cases hb:caps.all λp=>bH p.1 bs;·trivial
   ·obtain⟨rfl,hv⟩:=hv;refine⟨rfl,λp hp=>?_⟩;obtain⟨te,cs,h1,h2⟩:=hv p hp;exact⟨te,_,hbox' p.1 te cs (List.all_eq_true.1 hb p hp) h1,by simpa using h2⟩
 refine⟨E',h.bound,h.size,h.defers,λt=>?_,λb te cs hb=>?_,λq row' hq=>?_, ?_⟩
 ·rcases hslot t with e|e;·rw[e];exact(h.slots t).mapl hc
  ·rw[e];show aM U' E' w (.c .undef) (dx oo a t);exact True.intro
 ·obtain⟨cs0,h1,rfl⟩:=hbox b te cs hb;obtain⟨arr,k1,k2,k3,k4⟩:=h.boxes b te cs0 h1;exact⟨arr,k1,by rw[hlab,k2];rfl,k3.mapl hc,k4⟩
 ·obtain⟨r,row,h1,h2,rfl⟩:=hrow q row' hq;obtain⟨css,k1,k2,k3,k4⟩:=h.rows r row h2;rw[hrv r q h1];refine⟨css,k1,λk hk=>by rw[hlab,k2 k hk];simp[oQ,h1], ?_,λh=>k4 (Bool.and_eq_true_iff.1 h).2⟩;show cond row.deep _ _;cases hd:row.deep;·rw[hd]at k3;exact aj.imp (λc y hy=>Rd.mono (λk hk=>(by rw[hlab,hk];rfl)) hy) (show aj (λc y=>Rd w (λk=>E.lab k=.st) row.t c y) css row.xs from k3)
  ·rw[hd]at k3;obtain⟨Ls,j1,j2,j3⟩:=k3;exact⟨Ls,j1,j2,λk hk=>by rw[hlab,j3 k hk];simp[oQ,h1]⟩
 ·refine⟨h.same.os,h.same.tape,h.same.output,h.same.size,λk hk hl=>?_,λk hk hl=>?_⟩;·obtain⟨g1,g2⟩:=h.same.old k hk hl;exact⟨by rw[hlab,g1];rfl,g2⟩
  ·obtain⟨g1,g2⟩:=h.same.gone k hk hl;exact⟨by rw[hlab,g1];rfl,g2⟩
def oR{a b:Nat}:Nat.beq a b=true↔a=b:=⟨Nat.eq_of_beq_eq_true,λe=>by subst e;exact Nat.beq_refl a⟩
def fC{α:Type}:∀{l:List (Nat×α)}{t:Nat}{v:α},az l t=some v->(t,v)∈l
 |[],_,_,h=>by cases h
 | (k,u)::l,t,v,h=>by
  simp only[az]at h;cases hb:Nat.beq t k;·rw[hb]at h;exact List.mem_cons_of_mem _ (fC h)
  ·rw[hb]at h;injection h with h;rw[<-h,oR.1 hb];exact List.mem_cons_self
def DA{f:ai->ai}(t:Nat):∀ts:List Nat,az (rq U f ts) t=some ((U.slot t).map f)\/az (rq U f ts) t=none
 |[]=>.inr rfl
 |t'::ts=>by
  simp only[rq,az];cases hb:Nat.beq t t';·exact DA t ts
  ·rw[oR.1 hb];exact .inl rfl
def yU{f:ai->ai}(b:Nat):∀{bs:List Nat}{l:List (Nat×(Nat×List ai))},uk U f bs=some l ->
  (∀te cs,az l b=some (te,cs)->∃cs0,U.box b=some (te,cs0)/\cs=cs0.map f)/\(∀te cs,bH b bs=true->U.box b=some (te,cs)->az l b=some (te,cs.map f))
 |[],l,h=>by injection h with h;subst h;exact⟨(λte cs h=>by cases h),λte cs h=>by cases h⟩
 |b'::bs,l,h=>by
  simp only[uk]at h;split at h
  ·rename_i te cs l' hb hl;injection h with h;subst h;obtain⟨g1,g2⟩:=yU b hl;simp only[az,bH];cases hq:Nat.beq b b';·exact⟨g1,λte cs hm=>g2 te cs (by simpa using hm)⟩
   ·obtain rfl:=oR.1 hq;refine⟨λte' cs' h'=>?_,λte' cs' _ h'=>?_⟩;·simp only[cond_true,Option.some.injEq,Prod.mk.injEq]at h';obtain⟨rfl,rfl⟩:=h';exact⟨cs,hb,rfl⟩
    ·rw[hb]at h';injection h' with h';injection h' with e1 e2;rw[e1,e2];rfl
  ·cases h
def DB(q:Nat):∀{m:List (Nat×Nat)}{l:List (Nat×ac)},oP U m=some l->∀row',az l q=some row'->∃r row,(r,q)∈m/\U.row r=some row/\row'=ny q row
 |[],l,h,row',h'=>by injection h with h;subst h;cases h'
 | (r,q')::m,l,h,row',h'=>by
  simp only[oP]at h;split at h
  ·rename_i row l' hr hl;injection h with h;subst h;simp only[az]at h';cases hb:Nat.beq q q';·rw[hb]at h';obtain⟨r',row2,k1,k2,k3⟩:=DB q hl row' h';exact⟨r',row2,List.mem_cons_of_mem _ k1,k2,k3⟩
   ·rw[hb]at h';injection h' with h';obtain rfl:=oR.1 hb;exact⟨r,row,List.mem_cons_self,hr,h'.symm⟩
  ·cases h
def DD{r q:Nat}{row:ac}(hrow:U.row r=some row):∀{m:List (Nat×Nat)}{l:List (Nat×ac)},oP U m=some l->(m.map (·.2)).Nodup->(r,q)∈m->az l q=some (ny q row)
 |[],l,h,_,hm=>by cases hm
 | (r',q')::m,l,h,hn,hm=>by
  simp only[oP]at h;split at h
  ·rename_i row' l' hr hl;injection h with h;subst h;simp only[az];simp only[List.map_cons,List.nodup_cons]at hn;rcases List.mem_cons.1 hm with e|hm;·injection e with e1 e2;subst e1 e2;rw[hr]at hrow;injection hrow with hrow;rw[Nat.beq_refl,hrow];rfl
   ·have hne:Nat.beq q q'=false:=by
     cases hb:Nat.beq q q';·rfl
     ·exact absurd (List.mem_map.2 ⟨(r,q),hm,oR.1 hb⟩) hn.1
    rw[hne];exact DD hrow hl hn.2 hm
  ·cases h
def Nl{m:List (Nat×Nat)}(h:(m.map (·.2)).Nodup){r r' q:Nat}(h1:(r,q)∈m)(h2:(r',q)∈m):r=r':=by
 induction m with
 |nil=>cases h1
 |cons p m ih =>
  simp only[List.map_cons,List.nodup_cons]at h;rcases List.mem_cons.1 h1 with e|h1
  ·rcases List.mem_cons.1 h2 with e'|h2;·rw[<-e]at e';injection e' with e' _;exact e'.symm
   ·exact absurd (List.mem_map.2 ⟨_,h2,by rw[<-e]⟩) h.1
  ·rcases List.mem_cons.1 h2 with e'|h2;·exact absurd (List.mem_map.2 ⟨_,h1,by rw[<-e']⟩) h.1
   ·exact ih h.2 h1 h2
def Nm{m:List (Nat×Nat)}{r q:Nat}(h:(r,q)∈m)(hn:(m.map (·.1)).Nodup):az m r=some q:=by
 induction m with
 |nil=>cases h
 |cons p m ih =>
  obtain⟨k,u⟩:=p;simp only[List.map_cons,List.nodup_cons]at hn;simp only[az];rcases List.mem_cons.1 h with e|h;·injection e with e1 e2;subst e1 e2;rw[Nat.beq_refl];rfl
  ·cases hb:Nat.beq r k;·exact ih h hn.2
   ·exact absurd (List.mem_map.2 ⟨_,h,oR.1 hb⟩) hn.1
def yV(h:R w0 lab0 oo n U E a w){cl:ab}(hr:ir cl U=some U'):∃E',R w0 lab0 oo n U' E' a w:=by
 unfold ir at hr;split at hr
 ·rename_i σ1 h1;obtain⟨σ2,h1,h2⟩:=Option.bind_eq_some_iff.1 h1;obtain⟨E2,G2⟩:=Dx h h1;obtain⟨E1,G⟩:=Dy G2 h2;split at hr
  ·rename_i m hm;cases hq:(dU (m.map (·.1))&&dU (m.map (·.2)))
   ·rw[hq]at hr;cases hr
   ·rw[hq]at hr;simp only[Bool.and_eq_true]at hq;simp only[cond_true]at hr;have n1:=jv hq.1;have n2:=jv hq.2;split at hr
    ·rename_i bx rw' hbx hrw;injection hr with hr;subst hr;refine G.ren (m:=m) (bs:=cl.boxes) (λt=>?_) (λb te cs hb=>?_) (λb te cs hm hb=>?_) (λq row' hq=>?_) (λr q row hl hrow=>?_) (λr r' q hl hl'=>?_)
     ·show gi _ t=_\/gi _ t=_;unfold gi;rcases DA (U:=σ1) (f:=gh m cl.boxes) t cl.slots with e|e;·rw[e];exact .inl rfl
      ·rw[e];exact .inr rfl
     ·exact(yU b hbx).1 te cs hb
     ·exact(yU b hbx).2 te cs hm hb
     ·obtain⟨r,row,k1,k2,k3⟩:=DB q hrw row' hq;exact⟨r,row,Nm k1 n1,k2,k3⟩
     ·exact DD hrow hrw n2 (fC hl)
     ·exact Nl n2 (fC hl) (fC hl')
    ·cases hr
  ·cases hr
 ·cases hr
end
inductive Ex where
 |nrm
 |exit (id:Nat)
 |ret
def Nn:Ex->Exit
 |.nrm=>.normal
 |.exit id=>.exit id
 |.ret=>.ret
inductive cP where
 |n
 |mk (join:Option ab) (lp:Option ab) (a b:cP)
def cP.fst:cP->cP
 |.n=>.n
 |.mk _ _ a _=>a
def cP.snd:cP->cP
 |.n=>.n
 |.mk _ _ _ b=>b
def cP.join:cP->Option ab
 |.n=>none
 |.mk j _ _ _=>j
def cP.lp:cP->Option ab
 |.n=>none
 |.mk _ l _ _=>l
def ul:Option ab->St->Option St
 |none,U=>some U
 |some cl,U=>ir cl U
def um(U:St)(l:fT):Bool:=match nx U l with
 |some (.own r)=>match U.row r with
  |some row=>row.nilE||Nat.blt 0 row.xs.length
  |none=>true
 |_=>true
def yW(U:St)(l:fT):St:=match nx U l with
 |some (.own r)=>match U.row r with
  |some row=>⟨U.slot,U.box,ao U.row r (some ⟨row.e,row.t,row.xs,row.deep,true⟩)⟩
  |none=>U
 |_=>U
def No:Option ab->List (fT×Nat)
 |none=>[]
 |some cl=>cl.rows
section
variable {J : Type}
def ru(F:St->Option J):List (fT×Nat)->St->Option J
 |[],U=>F U
 | (l,q)::ls,U=>cond (yT q) (cond (um U l) (ru F ls (yW U l)) none) (ru F ls U)
abbrev ay(j:Option ab)(K:Ex->St->Option J):Ex->St->Option J
 |.nrm,U=>(ul j U).bind (K .nrm)
 |.exit i,U=>K (.exit i) U
 |.ret,U=>K .ret U
abbrev cx(F:St->Option J)(K:Ex->St->Option J):Ex->St->Option J
 |.nrm,U=>F U
 |.exit i,U=>K (.exit i) U
 |.ret,U=>K .ret U
abbrev rz(id:Nat)(K:Ex->St->Option J):Ex->St->Option J
 |.nrm,U=>K .nrm U
 |.exit i,U=>cond (Nat.beq i id) (K .nrm U) (K (.exit i) U)
 |.ret,U=>K .ret U
def ce(f:St->(Ex->St->Option J)->Option J)(cl:ab):Nat->St->(Ex->St->Option J)->Option J
 |0,_,_=>none
 |N+1,U,K=>f U (ay (some cl) (cx (λU''=>ce f cl N U'' K) K))
noncomputable def an(Γ:Gm)(T:bw)(B:Nat->Option ab)(N:Nat):Code->cP->St->(Ex->St->Option J)->Option J
 |.skip,_,U,K=>K .nrm U
 |.label _,_,U,K=>K .nrm U
 |.region _ ops draw,_,U,K=>yL Γ T N ops draw U (K .nrm)
 |.seq a b,pl,U,K=>an Γ T B N a pl.fst U (ay pl.join (cx (λU'=>an Γ T B N b pl.snd U' K) K))
 |.cond c a b,pl,U,K=>match ev U c with
  |.c (.bool t)=>cond t (an Γ T B N a pl.fst U K) (an Γ T B N b pl.snd U K)
  |_=>none
 |.block id c,pl,U,K=>an Γ T B N c pl.fst U (ay pl.join (rz id K))
 |.loop c,pl,U,K=>match pl.lp with
  |some cl=>match pl.join with
   |none=>(ir cl U).bind λσ0=>ce (λU K=>an Γ T B N c pl.fst U K) cl N σ0 K
   |some cl1=>(ir cl1 U).bind λσ0=>an Γ T B N c pl.snd σ0 (ay (some cl) (cx (λU''=>ce (λU K=>an Γ T B N c pl.fst U K) cl N U'' K) K))
  |none=>none
 |.exit id,_,U,K=>(ul (B id) U).bind (K (.exit id))
 |.ret,_,U,K=>ru (λU=>(ul (B 1000000) U).bind (K .ret)) (No (B 1000000)) U
 |_,_,_,_=>none
end
def eW(n:Nat):Code->Bool
 |.region _ ops _=>nv n ops
 |.seq a b=>eW n a&&eW n b
 |.cond _ a b=>eW n a&&eW n b
 |.block _ c=>eW n c
 |.loop c=>eW n c
 |_=>true
section
variable {P : Program} {U U' : St} {E E' : aO} {w w' : World} {w0 : World} {lab0 : Nat → aB} {oo : Nat → Value} {n : Nat} {a : Act} {T : bw} {Γ : Gm} {J : Type} {B : Nat → Option ab} {N : Nat} [DC]
def yX{p:Nat->Prop}(h:∃n,p n):∃n,p n/\∀m,p m->n<=m:=by
 classical
 obtain⟨n,hn⟩:=h;induction n using Nat.strongRecOn with
 |_ n ih =>
  by_cases hex:∃m,m<n/\p m;·obtain⟨m,h1,h2⟩:=hex;exact ih m h1 h2
  ·exact⟨n,hn,λm hm=>Nat.le_of_not_lt λhlt=>hex ⟨m,hlt,hm⟩⟩
noncomputable def jD{p:Nat->Prop}(h:∃n,p n):Nat:=(yX h).choose
def Np{p:Nat->Prop}(h:∃n,p n):p (jD h):=(yX h).choose_spec.1
def Nq{p:Nat->Prop}(h:∃n,p n){m:Nat}(hm:p m):jD h<=m:=(yX h).choose_spec.2 m hm
def yY(h:R w0 lab0 oo n U E a w){cl:Option ab}(hr:ul cl U=some U'):∃E',R w0 lab0 oo n U' E' a w:=by
 cases cl with
 |none =>injection hr with hr;subst hr;exact⟨E,h⟩
 |some cl=>exact yV h hr
def Nr(h:R w0 lab0 oo n U E a w){l:fT}(hc:um U l=true):R w0 lab0 oo n (yW U l) E a w:=by
 have key:∀r row,U.row r=some row->(row.nilE||Nat.blt 0 row.xs.length)=true->R w0 lab0 oo n ⟨U.slot,U.box,ao U.row r (some ⟨row.e,row.t,row.xs,row.deep,true⟩)⟩ E a w:=by
  intro r row hrow' hc;have m:cE U E w ⟨U.slot,U.box,ao U.row r (some ⟨row.e,row.t,row.xs,row.deep,true⟩)⟩ E w:=by
   refine⟨λr' row1 h1=>?_,λb te cs hb=>⟨te,cs,hb,rfl,rfl⟩,λ_ _ _ h1 h2=>⟨h1,h2⟩,λ_ _ _ _ h=>h⟩;by_cases e:r'=r;·subst e;rw[hrow']at h1;injection h1 with h1;subst h1;exact⟨_,bc _ _ _,rfl,rfl,Nat.le_refl _⟩
   ·exact⟨row1,(bv _ _ e).trans h1,rfl,rfl,Nat.le_refl _⟩
  refine⟨h.bound,h.size,h.defers,λt=>(h.slots t).move m,λb te cs hb=>?_,λr' row1 h1=>?_,h.same⟩;·obtain⟨arr,h1,h2,h3,h4⟩:=h.boxes b te cs hb;exact⟨arr,h1,h2,h3.imp λ_ _ h=>h.move m,h4⟩
  ·by_cases e:r'=r
   ·subst e;have h1':ao U.row r' (some ⟨row.e,row.t,row.xs,row.deep,true⟩) r'=some row1:=h1;rw[bc]at h1';injection h1' with h1';subst h1';obtain⟨css,k1,k2,k3,k4⟩:=h.rows r' row hrow';refine⟨css,k1,k2,k3,λ_ hl=>?_⟩;have hl':row.xs.length=0:=hl;cases hn:row.nilE;·rw[hn,hl']at hc;cases hc
    ·exact k4 hn hl'
   ·have h1':ao U.row r (some ⟨row.e,row.t,row.xs,row.deep,true⟩) r'=some row1:=h1;rw[bv _ _ e]at h1';exact h.rows r' row1 h1'
 unfold yW;split
 ·rename_i r hr;split;·rename_i row hrow;refine key r row hrow ?_;unfold um at hc;rw[hr]at hc;simp only[hrow]at hc;exact hc
  ·exact h
 ·exact h
def yZ{F:St->Option J}{r:J}:∀{ls:List (fT×Nat)}{U:St}{E:aO},R w0 lab0 oo n U E a w->ru F ls U=some r->∃U',R w0 lab0 oo n U' E a w/\F U'=some r
 |[],U,E,h,hr=>⟨U,h,hr⟩
 | (l,q)::ls,U,E,h,hr=>by
  simp only[ru]at hr;cases hq:yT q;·rw[hq]at hr;exact yZ h hr
  ·rw[hq]at hr;cases hc:um U l;·rw[hc]at hr;cases hr
   ·rw[hc]at hr;exact yZ (Nr h hc) hr
def NP.then{Q:Exit->Act->World->Prop}(h:NP Q)(next:Act->World->Prop):NP (Exit.then next Q):=λc a a' w hq=>h c a a' w hq
def NP.block{Q:Exit->Act->World->Prop}(h:NP Q)(id:Nat):NP (Exit.inBlock id Q):=λc a a' w hq=>h c a a' w hq
def it(w0:World)(lab0:Nat->aB)(oo:Nat->Value)(n:Nat)(K:Ex->St->Option J)(r:J)(Q:Exit->Act->World->Prop):Prop :=
 ∀e U' E' a' w',K e U'=some r->R w0 lab0 oo n U' E' a' w'->Q (Nn e) a' w'
def it.join{K:Ex->St->Option J}{r:J}{Q:Exit->Act->World->Prop}(h:it w0 lab0 oo n K r Q)(j:Option ab):it w0 lab0 oo n (ay j K) r Q:=by
 intro e U' E' a' w' hr hR;cases e with
 |nrm =>obtain⟨σ2,h1,h2⟩:=Option.bind_eq_some_iff.1 hr;obtain⟨E2,g⟩:=yY hR h1;exact h .nrm σ2 E2 a' w' h2 g
 |exit i=>exact h (.exit i) U' E' a' w' hr hR
 |ret=>exact h .ret U' E' a' w' hr hR
def iS(hT:bg P T)(hΓ:nw P w0 lab0 Γ)(hm:P.follows .mixedOrders=true):∀(c:Code) (pl:cP) {U:St}{E:aO}{a:Act}{w:World}{K:Ex->St->Option J}{r:J}{Q:Exit->Act->World->Prop},
  eW n c=true->R w0 lab0 oo n U E a w->an Γ T B N c pl U K=some r->NP Q->it w0 lab0 oo n K r Q->c.wp P Q a w
 |.skip,pl,U,E,a,w,K,r,Q,_,h,hr,_,hK=>wp_skip (hK .nrm U E a w hr h)
 |.label l,pl,U,E,a,w,K,r,Q,_,h,hr,_,hK=>wp_label (hK .nrm U E a w hr h)
 |.region id ops draw,pl,U,E,a,w,K,r,Q,hc,h,hr,hQ,hK=>Ni hT hΓ hm hc hQ (λU' E' a' w' hr' h'=>hK .nrm U' E' a' w' hr' h') h hr
 |.seq x y,pl,U,E,a,w,K,r,Q,hc,h,hr,hQ,hK=>by
  simp only[eW,Bool.and_eq_true]at hc;refine wp_seq (iS hT hΓ hm x pl.fst hc.1 h hr (hQ.then _) (it.join ?_ _));intro e U' E' a' w' hr' h';cases e with
  |nrm=>exact iS hT hΓ hm y pl.snd hc.2 h' hr' hQ hK
  |exit i=>exact hK (.exit i) U' E' a' w' hr' h'
  |ret=>exact hK .ret U' E' a' w' hr' h'
 |.cond c x y,pl,U,E,a,w,K,r,Q,hc,h,hr,hQ,hK=>by
  simp only[eW,Bool.and_eq_true]at hc;simp only[an]at hr;split at hr
  ·rename_i t ht;have hv:=bz h c;rw[ht]at hv;cases t;·exact wp_cond_false hv (iS hT hΓ hm y pl.snd hc.2 h hr hQ hK)
   ·exact wp_cond_true hv (iS hT hΓ hm x pl.fst hc.1 h hr hQ hK)
  ·cases hr
 |.block id c,pl,U,E,a,w,K,r,Q,hc,h,hr,hQ,hK=>by
  refine wp_block (iS hT hΓ hm c pl.fst hc h hr (hQ.block id) (it.join ?_ _));intro e U' E' a' w' hr' h';cases e with
  |nrm=>exact hK .nrm U' E' a' w' hr' h'
  |exit i =>
   show if i=id then Q .normal a' w' else Q (.exit i) a' w'
   simp only[rz]at hr';cases hb:Nat.beq i id;·rw[hb]at hr';rw[if_neg λe=>by subst e;rw[Nat.beq_refl]at hb;cases hb];exact hK (.exit i) U' E' a' w' hr' h'
   ·rw[hb]at hr';rw[if_pos (Nat.eq_of_beq_eq_true hb)];exact hK .nrm U' E' a' w' hr' h'
  |ret=>exact hK .ret U' E' a' w' hr' h'
 |.loop c,pl,U,E,a,w,K,r,Q,hc,h,hr,hQ,hK=>by
  simp only[an]at hr;split at hr
  ·rename_i cl hcl
   classical
   let F:Nat->St->Option J:=λM U=>ce (λU K=>an Γ T B N c pl.fst U K) cl M U K;let At:Nat->Act->World->Prop:=λM a w=>(∃U E,R w0 lab0 oo n U E a w/\F M U=some r) \/
    (M=N+1/\∃U E,R w0 lab0 oo n U E a w/\an Γ T B N c pl.snd U (ay (some cl) (cx (F N) K))=some r)
   have hstart:∃M,At M a w:=by
    split at hr;·obtain⟨σ0,h1,h2⟩:=Option.bind_eq_some_iff.1 hr;obtain⟨E0,g⟩:=yV h h1;exact⟨N,.inl ⟨σ0,E0,g,h2⟩⟩
    ·obtain⟨σ0,h1,h2⟩:=Option.bind_eq_some_iff.1 hr;obtain⟨E0,g⟩:=yV h h1;exact⟨N+1,.inr ⟨rfl,σ0,E0,g,h2⟩⟩
   refine wp_loop (I:=λa w=>∃M,At M a w) (μ:=λa w=>if hex:∃M,At M a w then jD hex else 0) hstart ?_;intro a w hI;have hμ:(if hex:∃M,At M a w then jD hex else 0)=jD hI:=dif_pos hI;simp only[hμ];have next:∀M U' E' a' w',M<jD hI->F M U'=some r->R w0 lab0 oo n U' E' a' w'->(∃M,At M a' w')/\(if hex:∃M,At M a' w' then jD hex else 0)<jD hI:=by intro M U' E' a' w' hM hr' h';have hA:At M a' w':=.inl ⟨U',E',h',hr'⟩;refine⟨⟨M,hA⟩, ?_⟩;have hμ':(if hex:∃M,At M a' w' then jD hex else 0)=jD (⟨M,hA⟩:∃M,At M a' w'):=dif_pos ⟨M,hA⟩;rw[hμ'];have:=Nq (⟨M,hA⟩:∃M,At M a' w') hA;omega
   rcases Np hI with⟨σ1,E1,g1,hr1⟩|⟨hM,σ1,E1,g1,hr1⟩
   ·generalize hM:jD hI=M at hr1 next
    cases M with
    |zero=>cases hr1
    |succ M =>
     simp only[F,ce]at hr1;refine iS hT hΓ hm c pl.fst hc g1 hr1 (hQ.then _) (it.join ?_ _);intro e U' E' a' w' hr' h';cases e with
     |nrm=>exact next M U' E' a' w' (Nat.lt_succ_self M) hr' h'
     |exit i=>exact hK (.exit i) U' E' a' w' hr' h'
     |ret=>exact hK .ret U' E' a' w' hr' h'
   ·refine iS hT hΓ hm c pl.snd hc g1 hr1 (hQ.then _) (it.join ?_ _);intro e U' E' a' w' hr' h';cases e with
    |nrm=>exact next N U' E' a' w' (by omega) hr' h'
    |exit i=>exact hK (.exit i) U' E' a' w' hr' h'
    |ret=>exact hK .ret U' E' a' w' hr' h'
  ·cases hr
 |.exit id,pl,U,E,a,w,K,r,Q,_,h,hr,_,hK=>by obtain⟨σ2,h1,h2⟩:=Option.bind_eq_some_iff.1 hr;obtain⟨E2,g⟩:=yY h h1;exact wp_exit (hK (.exit id) σ2 E2 a w h2 g)
 |.ret,pl,U,E,a,w,K,r,Q,_,h,hr,_,hK=>by obtain⟨σ1,h,hr⟩:=yZ h hr;obtain⟨σ2,h1,h2⟩:=Option.bind_eq_some_iff.1 hr;obtain⟨E2,g⟩:=yY h h1;exact wp_ret (hK .ret σ2 E2 a w h2 g)
 |.rangeFunc _ _ _ _,_,_,_,_,_,_,_,_,_,_,hr,_,_=>by cases hr
 |.scope _,_,_,_,_,_,_,_,_,_,_,hr,_,_=>by cases hr
 |.goto _,_,_,_,_,_,_,_,_,_,_,hr,_,_=>by cases hr
 |.refuse _,_,_,_,_,_,_,_,_,_,_,hr,_,_=>by cases hr
end
def lK(agg:Bool)(cs:List ai):SV:=match agg,cs with
 |true,cs=>.agg cs
 |false,[c]=>.c c
 |false,_=>.c .undef
def gF:(ps:List PT)->au ps->Nat->List (Nat×SV)×List (Nat×ac)
 |[],_,_=>([],[])
 |⟨t,agg,io⟩::ps,X,i=>match io with
  |false=>((i,lK agg (ee t X.1 none))::(gF ps X.2 (i+1)).1,(gF ps X.2 (i+1)).2)
  |true=>match aJ (100000+i) t X.1 0 with
   | (cs,rows,_)=>((i,lK agg cs)::(100000+i,lK agg cs)::(gF ps X.2 (i+1)).1,rows)
def be(ps:List PT)(X:au ps):St:=af (gF ps X 0).1 [] (gF ps X 0).2
def jZ(T:bw)(U:St):List ResultVar->Option (List SV)
 |[]=>some []
 |.tmp t::rs=>match jZ T U rs with
  |some l=>some (ev U (.tmp t)::l)
  |none=>none
 |.cell x ty::rs=>match ev U (.tmp x),T ty,jZ T U rs with
  |.c c,some i,some l=>match qE U c i.agg i.zero.length with
   |some s=>some (s::l)
   |none=>none
  |_,_,_=>none
def oS(look:Nat->Option ac):(rs:List PT)->List SV->Option (au rs)
 |[],[]=>some ()
 |p::ps,s::ss=>match gP p.agg s with
  |some cs=>ey (dS look p.t cs) (oS look ps ss)
  |none=>none
 |[],_::_=>none
 |_::_,[]=>none
def iT:List PT->List SV->List ai
 |p::ps,s::ss=>(match gP p.agg s with|some cs=>cs|none=>[])++iT ps ss
 |_,_=>[]
def rA(U:St):(ps:List PT)->Nat->Option (dj ps)
 |[],_=>some ()
 |⟨t,agg,false⟩::ps,i=>rA U ps (i+1)
 |⟨t,agg,true⟩::ps,i=>match gP agg (U.slot (100000+i))with
  |some cs=>dS U.row t cs
  |none=>none
def nz(U:St):(ps:List PT)->Nat->List ai
 |[],_=>[]
 |⟨t,agg,false⟩::ps,i=>nz U ps (i+1)
 |⟨t,agg,true⟩::ps,i=>match gP agg (U.slot (100000+i))with
  |some cs=>cs
  |none=>[]
def rB(look:Nat->Option ac):List ai->Bool
 |[.nil]=>true
 |[.own r]=>match look r with
  |some row=>row.nilE||Nat.blt 0 row.xs.length
  |none=>false
 |_=>false
def iU{α:Type}(look:Nat->Option ac):List PT->List SV->Option α->Option α
 |p::ps,s::ss,X=>cond p.io (match gP p.agg s with
  |some cs=>cond (rB look cs) (iU look ps ss X) none
  |none=>none) (iU look ps ss X)
 |[],_,X=>X
 |_::_,[],X=>X
def za(look:Nat->Option ac):List PT->List SV->Prop
 |p::ps,s::ss=>(p.io=true->∀cs,gP p.agg s=some cs->rB look cs=true)/\za look ps ss
 |[],_=>True
 |_::_,[]=>True
def rC{α:Type}{look:Nat->Option ac}{r:α}:∀{rs:List PT}{ss:List SV}{X:Option α},iU look rs ss X=some r->za look rs ss/\X=some r
 |[],_,_,h=>⟨trivial,h⟩
 |_::_,[],_,h=>⟨trivial,h⟩
 |p::ps,s::ss,X,h=>by
  simp only[iU]at h;cases hio:p.io;·rw[hio]at h;obtain⟨h1,h2⟩:=rC (show iU look ps ss X=some r from h);exact⟨⟨(λhq=>by rw[hio]at hq;cases hq),h1⟩,h2⟩
  ·rw[hio]at h;simp only[cond_true]at h;split at h
   ·rename_i cs hcs;cases hq:rB look cs;·rw[hq]at h;cases h
    rw[hq]at h;obtain⟨h1,h2⟩:=rC (show iU look ps ss X=some r from h);exact⟨⟨λ_ cs' hcs'=>by rw[hcs]at hcs';injection hcs' with hcs';subst hcs';exact hq,h1⟩,h2⟩
   ·cases h
def un(T:bw)(sig:aW)(rv:List ResultVar)(U:St):Option (dj sig.ps×au sig.rs) :=
 match jZ T U rv with
 |some ss=>cond (dU (aF (iT sig.rs ss++nz U sig.ps 0))) (iU U.row sig.rs ss (ey (rA U sig.ps 0) (oS U.row sig.rs ss))) none
 |none=>none
def zb(T:bw)(sig:aW)(rv:List ResultVar):Ex->St->Option (dj sig.ps×au sig.rs)
 |.nrm,U=>un T sig rv U
 |.ret,U=>un T sig rv U
 |.exit _,_=>none
section
variable {P : Program} {U U' : St} {E E' : aO} {w w' : World} {w0 : World} {lab0 : Nat → aB} {oo : Nat → Value} {n : Nat} {a : Act} {T : bw} {Γ : Gm} {B : Nat → Option ab} {N : Nat} [DC]
def rD{agg:Bool}{cs:List ai}{us:List Value}{v:Value}(hc:gE agg v us)(h:aj (am U E w) cs us):aM U E w (lK agg cs) v:=by
 cases agg
 ·obtain rfl:us=[v]:=hc;cases cs with
  |nil=>exact True.intro
  |cons c cs=>cases cs with
   |nil=>exact h.1
   |cons _ _=>exact True.intro
 ·obtain⟨arr,rfl,rfl⟩:=hc;exact⟨arr,rfl,h⟩
def rE{α:Type}:∀{l l':List (Nat×α)}{t:Nat},az (l++l') t=match az l t with|some v=>some v|none=>az l' t
 |[],_,_=>rfl
 | (k,v)::l,l',t=>by
  simp only[List.cons_append,az];cases Nat.beq t k;·exact rE
  ·rfl
def zd(d:Nat)(t:Ty):∀(y:t.den) (j:Nat),∀p∈(aJ d t y j).2.1,az (aJ d t y j).2.1 p.1=some p.2:=by
 induction t with
 |int k=>intro y j p hp;simp[aJ]at hp
 |bool=>intro y j p hp;simp[aJ]at hp
 |fnc g=>intro y j p hp;simp[aJ]at hp
 |str=>intro y j p hp;simp[aJ]at hp
 |err=>intro y j p hp;simp[aJ]at hp
 |sl e t _ =>intro y j p hp;simp only[aJ,List.mem_singleton]at hp;subst hp;simp[aJ,az]
 |pair t1 t2 ih1 ih2 =>
  intro y j p hp;simp only[aJ,List.mem_append]at hp ⊢;rw[rE];rcases hp with hp|hp;·rw[ih1 _ _ p hp]
  ·cases hl:az (aJ d t1 y.1 j).2.1 p.1 with
   |none=>exact ih2 _ _ p hp
   |some v =>have h1:=(ig d).2 _ (fC hl);have h2:=(ig d).2 p hp;obtain⟨i1,_,a1,b1⟩:=h1;obtain⟨i2,a2,_,b2⟩:=h2;have:=ni (b1.symm.trans b2);exact absurd (Nat.lt_of_lt_of_le a1 a2) (by rw[this];exact Nat.lt_irrefl _)
def Ns{L:List Nat}:∀{ps:List PT}{vs:List Value}{X:au ps}{i:Nat},ej w L ps vs X->(cj ps=true->L=[])->dX ps=true->L.Nodup ->
  ∃(f:Nat->aB) (rvf:Nat->Value),(∀k∈L,f k≠.st) /\
   ∀(U:St) (E:aO),(∀k,k∈L->E.lab k=f k)->(∀k,k∉L->E.lab k=.st)->E.rv=rvf->(∀r row,az (gF ps X i).2 r=some row->U.row r=some row) ->
    (∀p∈(gF ps X i).1,∃j v,vs[j]? = some v/\(p.1=i+j\/p.1=100000+(i+j))/\aM U E w p.2 v) /\
    (∀r row,az (gF ps X i).2 r=some row->bY w E.lab r row (E.rv r)):=by
 intro ps;have ro:∀{p:PT}{v:Value}{x:p.t.den}{U:St}{E:aO},(∃cs,gE p.agg v cs/\Rd w (λk=>k∉L) p.t cs x)->(∀k,k∉L->E.lab k=.st)->aM U E w (lK p.agg (ee p.t x none)) v:=by
  rintro p v x U E ⟨cs,h1,h2⟩ hl
  exact rD h1 (mP (p:=none) (h2.mono λk hk=>hl k hk))
 have ros:∀{ps:List PT}{vs:List Value}{X:au ps}{i:Nat},cj ps=true->ej w L ps vs X->(gF ps X i).2=[]/\∀(U:St) (E:aO),(∀k,k∉L->E.lab k=.st)->∀p∈(gF ps X i).1,∃j v,vs[j]? = some v/\(p.1=i+j\/p.1=100000+(i+j))/\aM U E w p.2 v:=by
  intro ps;induction ps with
  |nil=>intro vs X i _ _;exact⟨rfl,λU E _ p hp=>by simp[gF]at hp⟩
  |cons p ps ih =>
   intro vs X i hn ha;cases vs with
   |nil=>exact ha.elim
   |cons v vs =>
    obtain⟨t,agg,io⟩:=p;simp only[cj,List.all_cons,Bool.and_eq_true,Bool.not_eq_true']at hn;obtain⟨hio,hn⟩:=hn;subst hio;obtain⟨h1,h2⟩:=ha;obtain⟨g1,g2⟩:=ih (i:=i+1) hn h2;refine⟨g1,λU E hl p hp=>?_⟩;rcases List.mem_cons.1 hp with rfl|hp;·exact⟨0,v,rfl,.inl rfl,ro (p:=⟨t,agg,false⟩) h1 hl⟩
    ·obtain⟨j,v',k1,k2,k3⟩:=g2 U E hl p hp;exact⟨j+1,v',(by simpa using k1),k2.elim (λe=>.inl (by omega)) (λe=>.inr (by omega)),k3⟩
 induction ps with
 |nil =>intro vs X i ha hn ho hL;have hL0:=hn rfl;subst hL0;refine⟨λ_=>.dead,λ_=>undef,(λk hk=>by cases hk),λU E _ _ _ _=>⟨λp hp=>by simp[gF]at hp,λr row hr=>by simp[gF,az]at hr⟩⟩
 |cons p ps ih =>
  intro vs X i ha hn ho hL;cases vs with
  |nil=>exact ha.elim
  |cons v vs =>
   obtain⟨t,agg,io⟩:=p;obtain⟨h1,h2⟩:=ha;cases io
   ·obtain⟨f,rvf,k1,k2⟩:=ih (i:=i+1) h2 (λhq=>hn (by simpa[cj]using hq)) ho hL;refine⟨f,rvf,k1,λU E e1 e2 e3 e4=>?_⟩;obtain⟨g1,g2⟩:=k2 U E e1 e2 e3 e4;refine⟨λp hp=>?_,g2⟩;rcases List.mem_cons.1 hp with rfl|hp;·exact⟨0,v,rfl,.inl rfl,ro (p:=⟨t,agg,false⟩) h1 e2⟩
    ·obtain⟨j,v',k1,k2,k3⟩:=g1 p hp;exact⟨j+1,v',(by simpa using k1),k2.elim (λe=>.inl (by omega)) (λe=>.inr (by omega)),k3⟩
   ·obtain⟨cs,hcv,hown⟩:=h1;have hown:aA w t L cs X.1:=hown;obtain⟨f,rvf,k1,k2⟩:=nj (100000+i) (j:=0) hown hL;obtain⟨r1,r2⟩:=ros (i:=i+1) ho h2;have hrows:(gF (⟨t,agg,true⟩::ps) X i).2=(aJ (100000+i) t X.1 0).2.1:=rfl;refine⟨f,rvf,λk hk=>?_,λU E e1 e2 e3 e4=>?_⟩;·obtain⟨i',_,_,hf⟩:=k1 k hk;rcases hf with hf|hf<;>rw[hf]<;>simp
    ·rw[hrows]at e4;have hmem:∀p∈(aJ (100000+i) t X.1 0).2.1,az (aJ (100000+i) t X.1 0).2.1 p.1=some p.2:=zd _ _ _ _;obtain⟨g1,g2⟩:=k2 U E e1 (λp hp=>by rw[e3]) (λp hp=>e4 _ _ (hmem p hp));refine⟨λp hp=>?_,λr row hr=>?_⟩
     ·rcases List.mem_cons.1 hp with rfl|hp;·exact⟨0,v,rfl,.inl rfl,rD hcv g1⟩
      rcases List.mem_cons.1 hp with rfl|hp;·exact⟨0,v,rfl,.inr rfl,rD hcv g1⟩
      ·obtain⟨j,v',k1,k2,k3⟩:=r2 U E e2 p hp;exact⟨j+1,v',(by simpa using k1),k2.elim (λe=>.inl (by omega)) (λe=>.inr (by omega)),k3⟩
     ·rw[hrows]at hr;exact g2 (r,row) (fC hr)
def ze{sl:List (Nat×SV)}{σ0:St}{v:Value}{t:Nat}(h:∀p∈sl,p.1=t->aM σ0 E w p.2 v):aM σ0 E w (gi sl t) v:=by
 unfold gi;split;·rename_i s hs;exact h _ (fC hs) rfl
 ·exact(show am σ0 E w .undef v from True.intro)
def kO(ts:Array Value):ResultVar->Sem Value
 |.tmp t=>pure (ts.getD t undef)
 |.cell x t=>do loadVar t (<-asAddr (ts.getD x undef))
def Nt(fn:Func)(ts:Array Value):results fn ts=(do let vs <-fn.results.mapM (kO ts);pure (if h:vs.size=1 then vs[0]else .tuple vs)):=by
 unfold results;have:(λx:ResultVar=>match x with
  |.tmp t=>pure (ts.getD t undef)
  |.cell x t=>do loadVar t (<-asAddr (ts.getD x undef)))=kO ts:=by
  funext x;cases x<;>rfl
 rw[<-this];rfl
def rF(hT:bg P T)(h:R w0 lab0 oo n U E a w):∀{rv:List ResultVar}{ss:List SV},jZ T U rv=some ss ->
  ∃vs:List Value,aj (aM U E w) ss vs/\(rv.mapM (kO a.tmps)).run P w=.ok vs w:=by
 intro rv;induction rv with
 |nil =>intro ss hr;injection hr with hr;subst hr;exact⟨[],trivial,by simp⟩
 |cons r rv ih =>
  intro ss hr;cases r with
  |tmp t =>
   simp only[jZ]at hr;split at hr;·rename_i l hl;injection hr with hr;subst hr;obtain⟨vs,h1,h3⟩:=ih hl;refine⟨a.eval (.tmp t)::vs,⟨bz h (.tmp t),h1⟩, ?_⟩;have h0:(kO a.tmps (.tmp t)).run P w=.ok (a.eval (.tmp t)) w:=rfl;rw[List.mapM_cons,Sem.run_bind,h0];show((do let bs <-rv.mapM (kO a.tmps);pure (a.eval (.tmp t)::bs)):Sem (List Value)).run P w=_;rw[Sem.run_bind,h3];rfl
   ·cases hr
  |cell x ty =>
   simp only[jZ]at hr;split at hr
   ·rename_i c i l hc hi hl;split at hr
    ·rename_i s hs;injection hr with hr;subst hr;obtain⟨vs,h1,h3⟩:=ih hl;have hx:=bz h (.tmp x);rw[hc]at hx;obtain⟨v,g1,g2⟩:=xg hT h hi hs hx;have g1:=g1 w (bQ.refl w);have hx2:a.eval (.tmp x)=a.tmps.getD x undef:=rfl;rw[hx2]at g1;refine⟨v::vs,⟨g2,h1⟩, ?_⟩;have h0:(kO a.tmps (.cell x ty)).run P w=.ok v w:=by
      have ha:∃ad,a.tmps.getD x undef=.pointer (some ad):=by
       obtain⟨cs,hl',_⟩:∃cs,lx U c i.zero.length=some cs/\True:=by
        unfold qE at hs;split at hs;·rename_i cs hcs;exact⟨cs,hcs,trivial⟩
        ·cases hs
       obtain⟨ad,vs',f,e,_⟩:=xf h hl' (show am U E w c (a.tmps.getD x undef)from hx);exact⟨_,e⟩
      obtain⟨ad,ha⟩:=ha;show((do loadVar ty (<-asAddr (a.tmps.getD x undef)):Sem Value)).run P w=_;rw[ha]at g1 ⊢;exact g1
     rw[List.mapM_cons,Sem.run_bind,h0];show((do let bs <-rv.mapM (kO a.tmps);pure (v::bs)):Sem (List Value)).run P w=_;rw[Sem.run_bind,h3];rfl
    ·cases hr
   ·cases hr
def rG{fn:Func}{vs:List Value}(h:(fn.results.toList.mapM (kO a.tmps)).run P w=.ok vs w):∃v,(results fn a.tmps).run P w=.ok v w/\m9 vs v:=by
 have h2:(fn.results.mapM (kO a.tmps)).run P w=.ok vs.toArray w:=by rw[show fn.results=fn.results.toList.toArray from by simp,List.mapM_toArray];simp[h]
 rw[Nt,Sem.run_bind,h2];match vs with
 |[]=>exact⟨.tuple #[],by simp,rfl⟩
 |[u]=>exact⟨u,by simp,rfl⟩
 |u::u'::vs=>exact⟨.tuple (u::u'::vs).toArray,by simp,rfl⟩
def Nu(h:R w0 lab0 oo n U E a w){io:Bool}{t:Ty}{cs:List ai}{us:List Value}{y:t.den}(hz:io=true->rB U.row cs=true)(hp:dS U.row t cs=some y)(hc:aj (am U E w) cs us):xU io t us y:=by
 cases t with
 |sl e t =>
  intro hio hl;have hz:=hz hio;rcases xm (show jt U.row e t cs=some y from hp)with⟨rfl,rfl⟩|⟨r,row,rfl,hr,rfl,hd,rfl,rfl⟩;·obtain⟨u,rfl,hu⟩:=cr hc;obtain rfl:u=_:=hu;rfl
  ·obtain⟨u,rfl,hu⟩:=cr hc;obtain⟨rfl,_⟩:=hu;obtain⟨css,_,_,_,h4⟩:=h.rows r row hr;have hl:row.xs.length=0:=hl;simp only[rB,hr,hl]at hz;rw[h4 (by simpa using hz) hl]
 |int k=>trivial
 |bool=>trivial
 |str=>trivial
 |err=>trivial
 |fnc g=>trivial
 |pair a b=>trivial
def uo(h:R w0 lab0 oo n U E a w):∀{rs:List PT}{ss:List SV}{vs:List Value}{Y:au rs},oS U.row rs ss=some Y->za U.row rs ss->aj (aM U E w) ss vs->(aF (iT rs ss)).Nodup ->
  ∃Lr,m8 w rs vs Y Lr/\Lr.Nodup/\∀k∈Lr,∃q∈aF (iT rs ss),dV E.lab q k
 |[],[],[],Y,_,_,_,_=>⟨[],rfl,List.nodup_nil,λk hk=>by cases hk⟩
 |p::ps,s::ss,v::vs,Y,hp,hz,hs,hn=>by
  simp only[oS]at hp;split at hp
  ·rename_i cs hcs;obtain⟨h1,h2⟩:=eA hp;obtain⟨us,k1,k2⟩:=nn hcs hs.1;have hcells:iT (p::ps) (s::ss)=cs++iT ps ss:=by simp[iT,hcs]
   rw[hcells,ib]at hn ⊢;obtain⟨n1,n2,n3⟩:=List.nodup_append.1 hn;obtain⟨L1,o1,o2,o3⟩:=ie h h1 k2 n1;obtain⟨L2,g1,g2,g3⟩:=uo h h2 hz.2 hs.2 n2;refine⟨L1++L2,⟨us,L1,L2,rfl,k1,o1,Nu h (λhio=>hz.1 hio cs hcs) h1 k2,g1⟩,List.nodup_append.2 ⟨o2,g2,λx hx y hy e=>?_⟩,λk hk=>?_⟩;·subst e;obtain⟨q,q1,q2⟩:=o3 x hx;obtain⟨q',q1',q2'⟩:=g3 x hy;exact n3 q q1 q' q1' (kE q2 q2')
   ·rcases List.mem_append.1 hk with hk|hk;·obtain⟨q,q1,q2⟩:=o3 k hk;exact⟨q,List.mem_append_left _ q1,q2⟩
    ·obtain⟨q,q1,q2⟩:=g3 k hk;exact⟨q,List.mem_append_right _ q1,q2⟩
  ·cases hp
 |[],[],_::_,_,_,_,hs,_=>hs.elim
 |[],_::_,_,_,hp,_,_,_=>by cases hp
 |_::_,[],_,_,hp,_,_,_=>by cases hp
 |_::_,_::_,[],_,_,_,hs,_=>hs.elim
def zf(h:R w0 lab0 oo n U E a w):∀{ps:List PT}{i:Nat}{vs:List Value}{y:dj ps},rA U ps i=some y->vs.length=ps.length->(∀j v,vs[j]? = some v->oo (100000+(i+j))=v)->(aF (nz U ps i)).Nodup ->
  ∃L',lB w L' ps vs y/\L'.Nodup/\∀k∈L',∃q∈aF (nz U ps i),dV E.lab q k
 |[],i,vs,y,_,_,_,_=>⟨[],rfl,List.nodup_nil,λk hk=>by cases hk⟩
 |⟨t,agg,false⟩::ps,i,v::vs,y,hr,hl,hv,hn=>by obtain⟨L',g1,g2,g3⟩:=zf h (ps:=ps) (i:=i+1) (vs:=vs) (y:=y) hr (by simpa using hl) (λj v' hj=>by have:=hv (j+1) v' (by simpa using hj);rwa [show i+1+j=i+(j+1)from by omega]) hn;exact⟨L',g1,g2,g3⟩
 |⟨t,agg,true⟩::ps,i,v::vs,y,hr,hl,hv,hn=>by
  simp only[rA]at hr;simp only[nz]at hn ⊢;split at hr
  ·rename_i cs hcs;rw[hcs]at hn;simp only at hn ⊢;have hs:=h.slots (100000+i);have hval:dx oo a (100000+i)=v:=by unfold dx;rw[if_neg (by omega)];exact hv 0 v rfl
   rw[hval]at hs;obtain⟨us,k1,k2⟩:=nn hcs hs;obtain⟨L,o1,o2,o3⟩:=ie h hr k2 hn;exact⟨L,⟨us,k1,o1⟩,o2,o3⟩
  ·cases hr
 |_::_,_,[],_,_,hl,_,_=>by simp at hl
def ej.len{L:List Nat}:∀{ps:List PT}{vs:List Value}{X:au ps},ej w L ps vs X->vs.length=ps.length
 |[],[],_,_=>rfl
 |p::ps,v::vs,X,h=>by simp[ej.len h.2]
 |[],_::_,_,h=>h.elim
 |_::_,[],_,h=>h.elim
def Ty.bd:(t:Ty)->t.den->Prop
 |.sl _ t,xs=>xs.length<=maxLen/\∀x∈xs,t.bd x
 |.pair a b,x=>a.bd x.1/\b.bd x.2
 |.int _,_=>True
 |.bool,_=>True
 |.str,_=>True
 |.err,_=>True
 |.fnc _,_=>True
def DE{α β:Type}{Q:α->β->Prop}{p:β->Prop}(hp:∀a b,Q a b->p b):∀{as:List α}{bs:List β},aj Q as bs->∀b∈bs,p b
 |[],[],_,_,hb=>by cases hb
 |_::_,_::_,h,b,hb=>by
  rcases List.mem_cons.1 hb with rfl|hb;·exact hp _ _ h.1
  ·exact DE hp h.2 b hb
 |[],_::_,h,_,_=>h.elim
 |_::_,[],h,_,_=>h.elim
def Rd.bd{S:Nat->Prop}:∀{t:Ty}{cs:List Value}{x:t.den},Rd w S t cs x->t.bd x
 |.int _,_,_,_=>trivial
 |.bool,_,_,_=>trivial
 |.str,_,_,_=>trivial
 |.err,_,_,_=>trivial
 |.fnc _,_,_,_=>trivial
 |.pair a b,_,_,h=>by obtain⟨c1,c2,_,h1,h2⟩:=h;exact⟨h1.bd,h2.bd⟩
 |.sl e t,_,xs,h=>by
  obtain⟨A,n,c,_,h1,h2,h3,h4⟩:=h;refine⟨by omega,λx hx=>?_⟩;rcases h4 with rfl|⟨ad,css,_,_,h5,_⟩;·rw[List.eq_nil_of_length_eq_zero h1]at hx;cases hx
  ·exact DE (p:=λx=>t.bd x) (λ_ _ hr=>hr.bd) h5 x hx
def aA.bd:∀{t:Ty}{L:List Nat}{cs:List Value}{x:t.den},aA w t L cs x->t.bd x:=λh=>(h.rd (S:=λ_=>True) λ_ _=>trivial).bd
def gR:(ps:List PT)->au ps->Prop
 |[],_=>True
 |p::ps,X=>p.t.bd X.1/\gR ps X.2
def ej.bd{L:List Nat}:∀{ps:List PT}{vs:List Value}{X:au ps},ej w L ps vs X->gR ps X
 |[],[],_,_=>trivial
 |p::ps,v::vs,X,h=>by
  refine⟨?_,h.2.bd⟩;obtain⟨cs,_,h1⟩:=h.1;cases hio:p.io;·rw[hio]at h1;exact Rd.bd h1
  ·rw[hio]at h1;exact aA.bd h1
 |[],_::_,_,h=>h.elim
 |_::_,[],_,h=>h.elim
theorem Nw [Inv P] {f : Nat} {fn : Func} {c : Code} {sig : aW} {pre : Option (au sig.ps → Bool)} {val : au sig.ps → dj sig.ps × au sig.rs} {pl : cP} {je : Option ab} (hf : P.funcs[f]? = some fn) (hb : fn.body = some c) (hname : (fn.name == "runtime.NumGoroutine") = false)
  (hm:P.follows .mixedOrders=true) (hT:bg P T) (hΓ:aw P Γ) (hc:eW fn.ntmps c=true) (hn:Nat.ble sig.ps.length fn.ntmps=true) (hn2:Nat.ble fn.ntmps 100000=true) (hone:dX sig.ps=true)
  (hG:∀X,gR sig.ps X->ck pre X=true->∃N,an Γ T B N c pl (be sig.ps X) (ay je (zb T sig fn.results.toList))=some (val X)):av P f ⟨sig,pre,val⟩:=by
 intro w args L X y Y ha hno hL hlt hg hI hBL;have hg:cond (ck pre X) (some (val X)) none=some (y,Y):=hg;obtain⟨N,hr⟩:∃N,an Γ T B N c pl (be sig.ps X) (ay je (zb T sig fn.results.toList))=some (y,Y):=by
  cases hp:ck pre X;·rw[hp]at hg;cases hg
  ·rw[hp]at hg;rw[<-hg];exact hG X ha.bd hp
 have hn:=Nat.le_of_ble_eq_true hn;have hn2:=Nat.le_of_ble_eq_true hn2;have hlen:args.size=sig.ps.length:=by have:=ej.len ha;simpa using this
 refine .inl ⟨?_, ?_⟩
 ·have h1 : ¬ fn.name = "runtime.NumGoroutine" := by simpa using hname
  have h2:¬ fn.body=none:=by rw[hb];simp
  simp[callFunc,hf,h1,h2]
 obtain⟨f0,rvf,k1,k2⟩:=Ns (i:=0) ha hno hone hL
 classical
 let lab0:Nat->aB:=λk=>if k∈L then f0 k else .st
 let E:aO:=⟨lab0,rvf,λ_=>0⟩;let oo:Nat->Value:=λt=>args.getD (t-100000) undef;have hlab1:∀k,k∈L->E.lab k=f0 k:=λk hk=>if_pos hk;have hlab2:∀k,k∉L->E.lab k=.st:=λk hk=>if_neg hk;obtain⟨g1,g2⟩:=k2 (be sig.ps X) E hlab1 hlab2 rfl (λr row h=>h);have hsz:(args++Array.replicate (fn.ntmps-args.size) undef).size=fn.ntmps:=by rw[Array.size_append,Array.size_replicate];omega
 have hR:R w lab0 oo fn.ntmps (be sig.ps X) E { tmps:=args++Array.replicate (fn.ntmps-args.size) undef,defers:=[] } w:=by
  refine⟨hn2,hsz,rfl,λt=>?_,λb te cs hb=>?_,λr row hr=>g2 r row hr,⟨rfl,⟨rfl,λ_=>Nat.le_refl _⟩,rfl,Nat.le_refl _,λk hk hl=>⟨hl,rfl⟩,λk hk hl=>⟨hl,rfl⟩⟩⟩
  ·show aM _ E w (gi (gF sig.ps X 0).1 t) _;refine ze λp hp e=>?_;obtain⟨j,v,j1,j2,j3⟩:=g1 p hp;have hj:j<args.size:=by have:=(List.getElem?_eq_some_iff.1 j1).1;simpa using this
   have hval:dx oo { tmps:=args++Array.replicate (fn.ntmps-args.size) undef,defers:=[] } t=v:=by
    subst e;unfold dx;rcases j2 with j2|j2
    ·rw[if_pos (by omega),j2];simp only[Nat.zero_add,Array.getD_eq_getD_getElem?];rw[Array.getElem?_append_left hj];have:args[j]? = some v:=by simpa using j1
     rw[this];rfl
    ·rw[if_neg (by omega),j2];show args.getD (100000+(0+j)-100000) undef=v;rw[show 100000+(0+j)-100000=j from by omega,Array.getD_eq_getD_getElem?];have:args[j]? = some v:=by simpa using j1
     rw[this];rfl
   rw[hval];exact j3
  ·cases hb
 have hend:∀U' E' a' w',un T sig fn.results.toList U'=some (y,Y)->R w lab0 oo fn.ntmps U' E' a' w'->a'.defers=[]/\∃v,(results fn a'.tmps).run P w'=.ok v w' /\
   ∃vs L' Lr,Ending.returned v=Ending.returned v/\oB w sig args.toList L y Y v w' vs L' Lr:=by
  intro U' E' a' w' hfin h';refine⟨h'.defers, ?_⟩;unfold un at hfin;split at hfin
  ·rename_i ss hss;cases hq:dU (aF (iT sig.rs ss++nz U' sig.ps 0));·rw[hq]at hfin;cases hfin
   rw[hq]at hfin;obtain⟨hz,hfin⟩:=rC (show iU U'.row sig.rs ss _=some (y,Y)from hfin);obtain⟨p1,p2⟩:=eA (z:=(y,Y)) hfin;have hnd:=jv hq;rw[ib]at hnd;obtain⟨n1,n2,n3⟩:=List.nodup_append.1 hnd;obtain⟨vs,v1,v2⟩:=rF hT h' hss;obtain⟨v,r1,r2⟩:=rG v2;obtain⟨Lr,l1,l2,l3⟩:=uo h' p2 hz v1 n1;obtain⟨L',m1,m2,m3⟩:=zf h' (vs:=args.toList) p1 (ej.len ha) (λj u hu=>by
    show args.getD (100000+(0+j)-100000) undef=u;rw[show 100000+(0+j)-100000=j from by omega,Array.getD_eq_getD_getElem?];have:args[j]? = some u:=by simpa using hu
    rw[this];rfl) n2
   have hold:∀k q,dV E'.lab q k->k∈L\/w.heap.size<=k:=by
    intro k q hk;by_cases h1:k∈L;·exact .inl h1
    ·refine .inr (Nat.le_of_not_lt λhlt=>?_);have:=(h'.same.old k hlt (hlab2 k h1)).1;rcases hk with hk|hk<;>rw[this]at hk<;>cases hk
   refine⟨v,r1,vs,L',Lr,rfl,r2,l1,m1,List.nodup_append.2 ⟨l2,m2,λx hx z hz e=>?_⟩,λk hk=>?_,λk hk=>?_,h'.same.os,h'.same.tape,h'.same.output,h'.same.size,λk hk hkL=>(h'.same.old k hk (hlab2 k hkL)).2⟩;·subst e;obtain⟨q,q1,q2⟩:=l3 x hx;obtain⟨q',q1',q2'⟩:=m3 x hz;exact n3 q q1 q' q1' (kE q2 q2')
   ·obtain⟨q,q1,q2⟩:=l3 k hk;exact hold k q q2
   ·obtain⟨q,q1,q2⟩:=m3 k hk;exact hold k q q2
  ·cases hfin
 refine calls_of_wp hf hb (iS hT (hΓ.at hI λk hk=>hlab2 k λhl=>hBL k hl hk) hm c pl hc hR hr ?_ (it.join ?_ _));·intro ch a a' w' hq;obtain⟨_,v,vs,L',Lr,he,_⟩:=hq;cases he
 ·intro e U' E' a' w' hr' h';cases e with
  |nrm =>obtain⟨d1,v,d2,vs,L',Lr,d3,d4⟩:=hend U' E' a' w' hr' h';exact⟨d1,v,d2,v,vs,L',Lr,rfl,d4⟩
  |ret =>obtain⟨d1,v,d2,vs,L',Lr,d3,d4⟩:=hend U' E' a' w' hr' h';exact⟨d1,v,d2,v,vs,L',Lr,rfl,d4⟩
  |exit i=>cases hr'
end
def b8:(ps:List PT)->au ps->Nat->Nat->List (Nat×SV)×List (Nat×ac)
 |[],_,_,_=>([],[])
 |⟨t,agg,false⟩::ps,X,i,j=>((i,lK agg (ee t X.1 none))::(b8 ps X.2 (i+1) j).1,(b8 ps X.2 (i+1) j).2)
 |⟨t,agg,true⟩::ps,X,i,j=>match aJ 100000 t X.1 j with
  | (cs,rows,j1)=>((i,lK agg cs)::(b8 ps X.2 (i+1) j1).1,rows++(b8 ps X.2 (i+1) j1).2)
def fD:(rf:Rf)->(ps:List PT)->cG rf×au ps->St
 |none,ps,X=>af (b8 ps X.2 0 0).1 [] (b8 ps X.2 0 0).2
 |some p,ps,X=>match aJ 100000 p.2 X.1 0 with
  | (cs,rows,j1)=>af ((0,.c (.box 100000 0))::(100000,.c (.box 100000 0))::(b8 ps X.2 1 j1).1) [(100000,(p.1,cs))] (rows++(b8 ps X.2 1 j1).2)
def uq(U:St):Rf->Option (List ai)
 |none=>some []
 |some p=>match U.box 100000 with
  |some (te,cs)=>cond (Nat.beq te p.1) (some cs) none
  |none=>none
def oT(U:St):Rf->Bool
 |none=>true
 |some _=>match U.slot 100000 with
  |.c (.box 100000 0)=>true
  |_=>false
def ur(T:bw)(rf:Rf)(rs:List PT)(rv:List ResultVar)(U:St):Option (cG rf×au rs) :=
 match jZ T U rv,uq U rf with
 |some ss,some cs=>cond (oT U rf&&dU (aF (iT rs ss++cs))) (iU U.row rs ss (ey (C3 U.row rf cs) (oS U.row rs ss))) none
 |_,_=>none
def DF(T:bw)(rf:Rf)(rs:List PT)(rv:List ResultVar):Ex->St->Option (cG rf×au rs)
 |.nrm,U=>ur T rf rs rv U
 |.ret,U=>ur T rf rs rv U
 |.exit _,_=>none
def lL:Rf->List PT->Nat
 |none,ps=>ps.length
 |some _,ps=>ps.length+1
def zg:(rf:Rf)->cG rf->Prop
 |none,_=>True
 |some p,x=>p.2.bd x
section
variable {P : Program} {U U' : St} {E E' : aO} {w w' : World} {w0 : World} {lab0 : Nat → aB} {oo : Nat → Value} {n : Nat} {a : Act} {T : bw} {Γ : Gm} {B : Nat → Option ab} {N : Nat} [DC]
def dW.len{S:Nat->Prop}:∀{ps:List PT}{vs:List Value}{X:au ps}{L:List Nat},dW w S ps vs X L->vs.length=ps.length
 |[],[],_,_,_=>rfl
 |p::ps,v::vs,X,L,h=>by obtain⟨_,_,_,_,_,_,h⟩:=h;simp[dW.len h]
 |[],_::_,_,_,h=>h.elim
 |_::_,[],_,_,h=>h.elim
def dW.bd{S:Nat->Prop}:∀{ps:List PT}{vs:List Value}{X:au ps}{L:List Nat},dW w S ps vs X L->gR ps X
 |[],[],_,_,_=>trivial
 |p::ps,v::vs,X,L,h=>by
  obtain⟨cs,L1,L2,_,_,h1,h2⟩:=h;refine⟨?_,h2.bd⟩;cases hio:p.io;·rw[hio]at h1;exact Rd.bd h1.2
  ·rw[hio]at h1;exact aA.bd h1
 |[],_::_,_,_,h=>h.elim
 |_::_,[],_,_,h=>h.elim
def zh{ps:List PT}:∀{X:au ps}{i j:Nat},∀p∈(b8 ps X i j).2,∃q,j<=q/\p.1=a7 100000 q:=by
 induction ps with
 |nil=>intro X i j p hp;simp[b8]at hp
 |cons p0 ps ih =>
  intro X i j p hp;obtain⟨t,agg,io⟩:=p0;cases io;·exact ih (X:=X.2) p hp
  ·simp only[b8,List.mem_append]at hp;rcases hp with hp|hp;·obtain⟨q,q1,_,q2⟩:=(ig 100000).2 p hp;exact⟨q,q1,q2⟩
   ·obtain⟨q,q1,q2⟩:=ih (X:=X.2) p hp;exact⟨q,Nat.le_trans (ig 100000).1 q1,q2⟩
def DG{l1 l2:List (Nat×ac)}{j1:Nat}(h1:∀p∈l1,az l1 p.1=some p.2)(h2:∀p∈l2,az l2 p.1=some p.2)(m1:∀p∈l1,∃q,q<j1/\p.1=a7 100000 q)(m2:∀p∈l2,∃q,j1<=q/\p.1=a7 100000 q):∀p∈l1++l2,az (l1++l2) p.1=some p.2:=by
 intro p hp;rw[rE];rcases List.mem_append.1 hp with hp|hp;·rw[h1 p hp]
 ·cases hl:az l1 p.1 with
  |none=>exact h2 p hp
  |some v =>obtain⟨q,q1,q2⟩:=m1 _ (fC hl);obtain⟨q',q3,q4⟩:=m2 p hp;have:=ni (q2.symm.trans q4);omega
def zi{t:Ty}{y:t.den}{j:Nat}:∀p∈(aJ 100000 t y j).2.1,∃q,q<(aJ 100000 t y j).2.2/\p.1=a7 100000 q:=λp hp=>by obtain⟨q,_,q1,q2⟩:=(ig 100000).2 p hp;exact⟨q,q1,q2⟩
def zj{ps:List PT}:∀{X:au ps}{i j:Nat},∀p∈(b8 ps X i j).2,az (b8 ps X i j).2 p.1=some p.2:=by
 induction ps with
 |nil=>intro X i j p hp;simp[b8]at hp
 |cons p0 ps ih =>
  intro X i j;obtain⟨t,agg,io⟩:=p0;cases io;·exact ih (X:=X.2)
  ·exact DG (zd 100000 t X.1 j) (ih (X:=X.2)) zi zh
def rH{S:Nat->Prop}:∀{ps:List PT}{vs:List Value}{X:au ps}{L:List Nat}{i j:Nat},dW w S ps vs X L->L.Nodup ->
  ∃(f:Nat->aB) (rvf:Nat->Value),(∀k∈L,∃q,f k=.row (a7 100000 q)\/f k=.inn (a7 100000 q)) /\
   ∀(U:St) (E:aO),(∀k∈L,E.lab k=f k)->(∀k,S k->E.lab k=.st)->(∀p∈(b8 ps X i j).2,E.rv p.1=rvf p.1)->(∀p∈(b8 ps X i j).2,U.row p.1=some p.2) ->
    (∀p∈(b8 ps X i j).1,∃m v,vs[m]? = some v/\p.1=i+m/\aM U E w p.2 v)/\∀p∈(b8 ps X i j).2,bY w E.lab p.1 p.2 (E.rv p.1):=by
 intro ps;induction ps with
 |nil =>
  intro vs X L i j ha hn;cases vs with
  |cons _ _=>exact ha.elim
  |nil =>obtain rfl:L=[]:=ha;exact⟨λ_=>.st,λ_=>undef,(λk hk=>by cases hk),λU E _ _ _ _=>⟨λp hp=>by simp[b8]at hp,λp hp=>by simp[b8]at hp⟩⟩
 |cons p0 ps ih =>
  intro vs X L i j ha hn;cases vs with
  |nil=>exact ha.elim
  |cons v vs =>
   obtain⟨cs,L1,L2,rfl,hcv,h1,h2⟩:=ha;obtain⟨n1,n2,n3⟩:=List.nodup_append.1 hn;obtain⟨t,agg,io⟩:=p0;cases io
   ·obtain⟨rfl,hrd⟩:=h1;obtain⟨f,rvf,k1,k2⟩:=ih (i:=i+1) (j:=j) h2 n2;refine⟨f,rvf,k1,λU E e1 e2 e3 e4=>?_⟩;obtain⟨g1,g2⟩:=k2 U E e1 e2 e3 e4;refine⟨λp hp=>?_,g2⟩;rcases List.mem_cons.1 hp with rfl|hp;·exact⟨0,v,rfl,rfl,rD hcv (mP (p:=none) (hrd.mono λk hk=>e2 k hk))⟩
    ·obtain⟨m,v',q1,q2,q3⟩:=g1 p hp;exact⟨m+1,v',by simpa using q1,by omega,q3⟩
   ·have hown:aA w t L1 cs X.1:=h1;obtain⟨f1,v1,a1,b1⟩:=nj 100000 (j:=j) hown n1;obtain⟨f2,v2,a2,b2⟩:=ih (i:=i+1) (j:=(aJ 100000 t X.1 j).2.2) h2 n2;have m1:∀p∈(aJ 100000 t X.1 j).2.1,∃q,q<(aJ 100000 t X.1 j).2.2/\p.1=a7 100000 q:=zi;have m2:∀p∈(b8 ps X.2 (i+1) (aJ 100000 t X.1 j).2.2).2,∃q,(aJ 100000 t X.1 j).2.2<=q/\p.1=a7 100000 q:=zh;refine⟨λk=>if k∈L1 then f1 k else f2 k,λq=>if ∃p∈(aJ 100000 t X.1 j).2.1,p.1=q then v1 q else v2 q,λk hk=>?_,λU E e1 e2 e3 e4=>?_⟩
    ·by_cases hk1:k∈L1;·obtain⟨q,_,_,hq⟩:=a1 k hk1;exact⟨q,by simpa[hk1]using hq⟩
     ·obtain⟨q,hq⟩:=a2 k ((List.mem_append.1 hk).resolve_left hk1);exact⟨q,by simpa[hk1]using hq⟩
    ·have hm:(b8 (⟨t,agg,true⟩::ps) X i j)=((i,lK agg (aJ 100000 t X.1 j).1)::(b8 ps X.2 (i+1) (aJ 100000 t X.1 j).2.2).1,(aJ 100000 t X.1 j).2.1++(b8 ps X.2 (i+1) (aJ 100000 t X.1 j).2.2).2):=rfl;rw[hm]at e3 e4 ⊢;obtain⟨g1,g2⟩:=b1 U E (λk hk=>(e1 k (List.mem_append_left _ hk)).trans (if_pos hk)) (λp hp=>(e3 p (List.mem_append_left _ hp)).trans (if_pos ⟨p,hp,rfl⟩)) (λp hp=>e4 p (List.mem_append_left _ hp));obtain⟨g3,g4⟩:=b2 U E (λk hk=>(e1 k (List.mem_append_right _ hk)).trans (if_neg λh'=>n3 k h' k hk rfl)) e2 (λp hp=>(e3 p (List.mem_append_right _ hp)).trans (if_neg λ⟨p',hp',e⟩=>by obtain⟨q,q1,q2⟩:=m1 p' hp';obtain⟨q',q3,q4⟩:=m2 p hp;have:=ni (q2.symm.trans (e.trans q4));omega)) (λp hp=>e4 p (List.mem_append_right _ hp));refine⟨λp hp=>?_,λp hp=>?_⟩
     ·rcases List.mem_cons.1 hp with rfl|hp;·exact⟨0,v,rfl,rfl,rD hcv g1⟩
      ·obtain⟨m,v',q1,q2,q3⟩:=g3 p hp;exact⟨m+1,v',by simpa using q1,by omega,q3⟩
     ·rcases List.mem_append.1 hp with hp|hp;·exact g2 p hp
      ·exact g4 p hp
structure Nx(P:Program)(w:World)(rf:Rf)(ps:List PT)(args:Array Value)(X:cG rf×au ps)(L:List Nat)(E:aO):Prop where
 inl:∀k∈L,E.lab k≠.st
 out:∀k,k∉L->E.lab k=.st
 slots:∀t s,az (match rf,X with|none,X=>(b8 ps X.2 0 0).1|some p,X=>(0,.c (.box 100000 0))::(100000,.c (.box 100000 0))::(b8 ps X.2 1 (aJ 100000 p.2 X.1 0).2.2).1) t=some s ->
  aM (fD rf ps X) E w s (if t<100000 then args.getD t undef else args.getD (t-100000) undef)
 boxes:∀b te cs,(fD rf ps X).box b=some (te,cs)->jW (fD rf ps X) E w b te cs
 rows:∀r row,(fD rf ps X).row r=some row->bY w E.lab r row (E.rv r)
def lM{args:Array Value}{m:Nat}{v:Value}(h:args.toList[m]? = some v):args.getD m undef=v:=by
 rw[Array.getD_eq_getD_getElem?];have:args[m]? = some v:=by simpa using h
 rw[this];rfl
def rI:Rf->Bool
 |none=>true
 |some p=>Nat.blt p.1 cd
def Ny{rf:Rf}{ps:List PT}{args:Array Value}{X:cG rf×au ps}{L:List Nat}(ha:kI w (λk=>k∉L) rf ps args.toList X.1 X.2 L)(hn:L.Nodup)(hlen:lL rf ps<=100000)(hrf:rI rf=true):∃E,Nx P w rf ps args X L E:=by
 classical
 cases rf with
 |none =>
  have ha:dW w (λk=>k∉L) ps args.toList X.2 L:=ha;obtain⟨f,rvf,k1,k2⟩:=rH (i:=0) (j:=0) ha hn;have hl:=ha.len;have hlen:ps.length<=100000:=hlen;let E:aO:=⟨λk=>if k∈L then f k else .st,rvf,λ_=>0⟩;have e1:∀k∈L,E.lab k=f k:=λk hk=>if_pos hk;have e2:∀k,k∉L->E.lab k=.st:=λk hk=>if_neg hk;obtain⟨g1,g2⟩:=k2 (fD none ps X) E e1 e2 (λp hp=>rfl) (λp hp=>zj p hp);refine⟨E,⟨λk hk=>?_,e2,λt s hs=>?_,λb te cs hb=>(by cases hb),λr row hr=>g2 (r,row) (fC hr)⟩⟩;·obtain⟨q,hq⟩:=k1 k hk;rw[e1 k hk];rcases hq with hq|hq<;>rw[hq]<;>simp
  ·obtain⟨m,v,q1,q2,q3⟩:=g1 _ (fC hs);have hm:m<args.toList.length:=(List.getElem?_eq_some_iff.1 q1).1;simp only at q2;rw[if_pos (by omega),show t=m by omega,lM q1];exact q3
 |some p =>
  match hal:args.toList,ha with
  |[],ha=>exact ha.elim
  |v0::vs0,ha =>
  obtain⟨g,L1,L2,rfl,⟨hv0,arr,m1,m2,m3⟩,ha⟩:=ha;obtain⟨ng,hn12⟩:=List.nodup_cons.1 hn;obtain⟨n1,n2,n3⟩:=List.nodup_append.1 hn12;obtain⟨f1,v1,a1,b1⟩:=nj 100000 (j:=0) m3 n1;obtain⟨f2,v2,a2,b2⟩:=rH (i:=1) (j:=(aJ 100000 p.2 X.1 0).2.2) ha n2;have hl:=ha.len;have hlen:ps.length+1<=100000:=hlen;have h1:∀q∈(aJ 100000 p.2 X.1 0).2.1,∃i,i<(aJ 100000 p.2 X.1 0).2.2/\q.1=a7 100000 i:=zi;have h2:∀q∈(b8 ps X.2 1 (aJ 100000 p.2 X.1 0).2.2).2,∃i,(aJ 100000 p.2 X.1 0).2.2<=i/\q.1=a7 100000 i:=zh;let E:aO:=⟨λk=>if k=g then .box 100000 else if k∈L1 then f1 k else if k∈L2 then f2 k else .st,λq=>if ∃p'∈(aJ 100000 p.2 X.1 0).2.1,p'.1=q then v1 q else v2 q,λ_=>g⟩;have lg:E.lab g=.box 100000:=if_pos rfl;have l1:∀k∈L1,E.lab k=f1 k:=λk hk=>(if_neg λ(e:k=g)=>ng (by rw[<-e];exact List.mem_append_left _ hk)).trans (if_pos hk);have l2:∀k∈L2,E.lab k=f2 k:=λk hk=>(if_neg λ(e:k=g)=>ng (by rw[<-e];exact List.mem_append_right _ hk)).trans ((if_neg λh'=>n3 k h' k hk rfl).trans (if_pos hk));have lo:∀k,k∉g::(L1++L2)->E.lab k=.st:=λk hk=>(if_neg λe=>hk (by simp[e])).trans ((if_neg λh'=>hk (by simp[h'])).trans (if_neg λh'=>hk (by simp[h'])));have hall:∀q∈(aJ 100000 p.2 X.1 0).2.1++(b8 ps X.2 1 (aJ 100000 p.2 X.1 0).2.2).2,(fD (some p) ps X).row q.1=some q.2:=DG (zd 100000 p.2 X.1 0) zj h1 h2;obtain⟨g1,g2⟩:=b1 (fD (some p) ps X) E l1 (λq hq=>if_pos ⟨q,hq,rfl⟩) (λq hq=>hall q (List.mem_append_left _ hq));obtain⟨g3,g4⟩:=b2 (fD (some p) ps X) E l2 lo (λq hq=>if_neg λ⟨p',hp',e⟩=>by obtain⟨i,i1,i2⟩:=h1 p' hp';obtain⟨i',i3,i4⟩:=h2 q hq;have:=ni (i2.symm.trans (e.trans i4));omega) (λq hq=>hall q (List.mem_append_right _ hq));have hbox:(fD (some p) ps X).box 100000=some (p.1,(aJ 100000 p.2 X.1 0).1):=rfl;have hcs:0<(aJ 100000 p.2 X.1 0).1.length:=by rw[qU];exact p.2.nc_pos
  have h0:args.getD 0 undef=v0:=lM (by rw[hal];rfl);have hptr:aM (fD (some p) ps X) E w (.c (.box 100000 0)) v0:=⟨hv0,_,_,hbox,hcs⟩;refine⟨E,⟨λk hk=>?_,lo,λt s hs=>?_,λb te cs hb=>?_,λr row hr=>?_⟩⟩
  ·rcases List.mem_cons.1 hk with rfl|hk;·rw[lg];simp
   rcases List.mem_append.1 hk with hk|hk;·obtain⟨q,_,_,hq⟩:=a1 k hk;rw[l1 k hk];rcases hq with hq|hq<;>rw[hq]<;>simp
   ·obtain⟨q,hq⟩:=a2 k hk;rw[l2 k hk];rcases hq with hq|hq<;>rw[hq]<;>simp
  ·rcases List.mem_cons.1 (fC hs)with e|hm;·injection e with e1 e2;subst e1 e2;rw[if_pos (by omega),h0];exact hptr
   rcases List.mem_cons.1 hm with e|hm;·injection e with e1 e2;subst e1 e2;rw[if_neg (by omega),Nat.sub_self,h0];exact hptr
   ·obtain⟨m,v,q1,q2,q3⟩:=g3 _ hm;have hm':m<vs0.length:=(List.getElem?_eq_some_iff.1 q1).1;simp only at q2;rw[if_pos (by omega),show t=m+1 by omega,lM (by rw[hal];simpa using q1)];exact q3
  ·have hb':az [(100000,(p.1,(aJ 100000 p.2 X.1 0).1))] b=some (te,cs):=hb;have:=fC hb';simp only[List.mem_singleton,Prod.mk.injEq]at this;obtain⟨rfl,rfl,rfl⟩:=this;exact⟨arr,.inl ⟨by simpa[rI]using hrf,m1⟩,lg,g1,m2⟩
  ·have hr':az ((aJ 100000 p.2 X.1 0).2.1++(b8 ps X.2 1 (aJ 100000 p.2 X.1 0).2.2).2) r=some row:=hr;rcases List.mem_append.1 (fC hr')with hm|hm;·exact g2 (r,row) hm
   ·exact g4 (r,row) hm
def kI.len{S:Nat->Prop}{rf:Rf}{ps:List PT}{vs:List Value}{x:cG rf}{X:au ps}{L:List Nat}(h:kI w S rf ps vs x X L):vs.length=lL rf ps:=by
 cases rf with
 |none=>exact dW.len h
 |some p =>
  cases vs with
  |nil=>exact h.elim
  |cons v vs =>obtain⟨g,L1,L2,_,_,h⟩:=h;simp[lL,h.len]
def kI.bd{S:Nat->Prop}{rf:Rf}{ps:List PT}{vs:List Value}{x:cG rf}{X:au ps}{L:List Nat}(h:kI w S rf ps vs x X L):zg rf x/\gR ps X:=by
 cases rf with
 |none=>exact⟨trivial,dW.bd h⟩
 |some p =>
  cases vs with
  |nil=>exact h.elim
  |cons v vs =>obtain⟨g,L1,L2,_,⟨_,arr,_,_,h1⟩,h⟩:=h;exact⟨h1.bd,h.bd⟩
theorem Nz [Inv P] {f : Nat} {fn : Func} {c : Code} {rf : Rf} {ps rs : List PT} {pre : Option (cG rf × au ps → Bool)} {val : cG rf × au ps → cG rf × au rs} {pl : cP} {je : Option ab} (hf : P.funcs[f]? = some fn) (hb : fn.body = some c) (hname : (fn.name == "runtime.NumGoroutine") = false)
  (hm:P.follows .mixedOrders=true) (hT:bg P T) (hΓ:aw P Γ) (hc:eW fn.ntmps c=true) (hn:Nat.ble (lL rf ps) fn.ntmps=true) (hn2:Nat.ble fn.ntmps 100000=true)
  (hG:∀X,zg rf X.1->gR ps X.2->ck pre X=true->∃N,an Γ T B N c pl (fD rf ps X) (ay je (DF T rf rs fn.results.toList))=some (val X)) (hsm:rI rf=true:=by rfl):fA P f ⟨rf,ps,rs,pre,val⟩:=by
 intro w args L X ha hL hlt hpre hI hBL;obtain⟨hb1,hb2⟩:=kI.bd ha;obtain⟨N,hr⟩:=hG X hb1 hb2 hpre;have hn:=Nat.le_of_ble_eq_true hn;have hn2:=Nat.le_of_ble_eq_true hn2;have hlen:args.size=lL rf ps:=by have:=kI.len ha;simpa using this
 refine .inl ⟨?_, ?_⟩
 ·have h1 : ¬ fn.name = "runtime.NumGoroutine" := by simpa using hname
  have h2:¬ fn.body=none:=by rw[hb];simp
  simp[callFunc,hf,h1,h2]
 obtain⟨E,st⟩:=Ny (P:=P) ha hL (show lL rf ps<=100000 by omega) hsm;let oo:Nat->Value:=λt=>args.getD (t-100000) undef;have hsz:(args++Array.replicate (fn.ntmps-args.size) undef).size=fn.ntmps:=by rw[Array.size_append,Array.size_replicate];omega
 have hund:∀t,args.size<=t->(args++Array.replicate (fn.ntmps-args.size) undef).getD t undef=undef:=by
  intro t ht;rw[Array.getD_eq_getD_getElem?,Array.getElem?_append_right ht];by_cases h:t-args.size<fn.ntmps-args.size;·simp[Array.getElem?_replicate,h]
  ·simp[Array.getElem?_replicate,h]
 have hR:R w E.lab oo fn.ntmps (fD rf ps X) E { tmps:=args++Array.replicate (fn.ntmps-args.size) undef,defers:=[] } w:=by
  refine⟨hn2,hsz,rfl,λt=>?_,st.boxes,st.rows,⟨rfl,⟨rfl,λ_=>Nat.le_refl _⟩,rfl,Nat.le_refl _,λk hk hl=>⟨hl,rfl⟩,λk hk hl=>⟨hl,rfl⟩⟩⟩;have hval:dx oo { tmps:=args++Array.replicate (fn.ntmps-args.size) undef,defers:=[] } t=if t<100000 then args.getD t undef else args.getD (t-100000) undef:=by
   unfold dx;by_cases ht:t<100000
   ·rw[if_pos ht,if_pos ht];by_cases hlt:t<args.size;·simp only[Array.getD_eq_getD_getElem?];rw[Array.getElem?_append_left hlt]
    ·rw[hund t (by omega),Array.getD_eq_getD_getElem?,Array.getElem?_eq_none (by omega)];rfl
   ·rw[if_neg ht,if_neg ht]
  rw[hval];have key:∀l:List (Nat×SV),(fD rf ps X).slot t=gi l t->(∀s,az l t=some s->aM (fD rf ps X) E w s (if t<100000 then args.getD t undef else args.getD (t-100000) undef))->aM (fD rf ps X) E w ((fD rf ps X).slot t) (if t<100000 then args.getD t undef else args.getD (t-100000) undef):=by
   intro l hl hh;rw[hl];unfold gi;split;·rename_i s hs;exact hh s hs
   ·show True;trivial
  cases rf with
  |none=>exact key _ rfl λs hs=>st.slots t s hs
  |some p=>exact key _ rfl λs hs=>st.slots t s hs
 have hend:∀U' E' a' w',ur T rf rs fn.results.toList U'=some (val X)->R w E.lab oo fn.ntmps U' E' a' w'->a'.defers=[]/\∃v,(results fn a'.tmps).run P w'=.ok v w' /\
   ∃vs Lf Lr,Ending.returned v=Ending.returned v/\tX w ⟨rf,ps,rs,pre,val⟩ args.toList L (val X) v w' vs Lf Lr:=by
  intro U' E' a' w' hfin h';refine⟨h'.defers, ?_⟩;unfold ur at hfin;split at hfin
  ·rename_i ss cs hss hrf;cases hq:(oT U' rf&&dU (aF (iT rs ss++cs)));·rw[hq]at hfin;cases hfin
   rw[hq]at hfin;simp only[Bool.and_eq_true]at hq;obtain⟨hz,hfin⟩:=rC (show iU U'.row rs ss _=some (val X)from hfin);obtain⟨p1,p2⟩:=eA (z:=val X) hfin;have hnd:=jv hq.2;rw[ib]at hnd;obtain⟨n1,n2,n3⟩:=List.nodup_append.1 hnd;obtain⟨vs,v1,v2⟩:=rF hT h' hss;obtain⟨v,r1,r2⟩:=rG v2;obtain⟨Lr,l1,l2,l3⟩:=uo h' p2 hz v1 n1;have hold:∀k q,dV E'.lab q k->k∈L\/w.heap.size<=k:=by
    intro k q hk;by_cases h1:k∈L;·exact .inl h1
    ·refine .inr (Nat.le_of_not_lt λhlt=>?_);have:=(h'.same.old k hlt (st.out k h1)).1;rcases hk with hk|hk<;>rw[this]at hk<;>cases hk
   obtain⟨Lf,m1,m2,m3,m4⟩:∃Lf,C2 w' rf args.toList (val X).1 Lf/\Lf.Nodup/\(∀k∈Lf,∃q∈aF cs,dV E'.lab q k)/\∀g p,rf=some p->args.toList.head? = some (.pointer (some ⟨g,0,none⟩))->E'.lab g=.box 100000:=by
    cases rf with
    |none=>exact⟨[],rfl,List.nodup_nil,(λk hk=>by cases hk),λg p hp=>by cases hp⟩
    |some p =>
     simp only[uq]at hrf;split at hrf
     ·rename_i te cs' hbx;cases hte:Nat.beq te p.1;·rw[hte]at hrf;cases hrf
      rw[hte]at hrf;injection hrf with hrf;subst hrf;obtain rfl:=Nat.eq_of_beq_eq_true hte;obtain⟨arr,k1,k2,k3,k4⟩:=h'.boxes 100000 _ _ hbx;have k1:=k1.cells (by simpa[rI]using hsm);obtain⟨Lf,o1,o2,o3⟩:=ie h' p1 k3 n2;have hs0:aM U' E' w' (U'.slot 100000) (dx oo a' 100000):=h'.slots 100000;have hk:=hq.1;simp only[oT]at hk;split at hk
      ·rename_i hsl;rw[hsl]at hs0;obtain⟨hp,_⟩:=(show am U' E' w' (.box 100000 0) _ from hs0);match hal:args.toList,hlen with
       |[],hlen=>
        have:args.size=0:=by simpa using congrArg List.length hal
        rw[this]at hlen;simp[lL]at hlen
       |u::us,hlen =>
       have hu:dx oo a' 100000=u:=by unfold dx;rw[if_neg (by omega)];exact lM (by rw[hal];rfl)
       rw[hu]at hp;refine⟨Lf,⟨E'.bb 100000,⟨hp,arr,k1,k4,o1⟩,λhm=>?_⟩,o2,o3,λg p' _ hg=>?_⟩;·obtain⟨q,_,hq'⟩:=o3 _ hm;rcases hq' with hq'|hq'<;>rw[k2]at hq'<;>cases hq'
       ·simp only[List.head?_cons,Option.some.injEq]at hg;rw[hp]at hg;injection hg with hg;injection hg with hg;injection hg with hg;rw[<-hg];exact k2
      ·cases hk
     ·cases hrf
   refine⟨v,r1,vs,Lf,Lr,rfl,r2,l1,m1,List.nodup_append.2 ⟨l2,m2,λx hx z hz e=>?_⟩,λk hk=>?_,λg p hp hg hm=>?_,h'.same.os,h'.same.tape,h'.same.output,h'.same.size,λk hk hkL=>(h'.same.old k hk (st.out k hkL)).2⟩;·subst e;obtain⟨q,q1,q2⟩:=l3 x hx;obtain⟨q',q1',q2'⟩:=m3 x hz;exact n3 q q1 q' q1' (kE q2 q2')
   ·rcases List.mem_append.1 hk with hk|hk;·obtain⟨q,q1,q2⟩:=l3 k hk;exact hold k q q2
    ·obtain⟨q,q1,q2⟩:=m3 k hk;exact hold k q q2
   ·have hlg:=m4 g p hp hg;rcases List.mem_append.1 hm with hm|hm;·obtain⟨q,_,hq'⟩:=l3 _ hm;rcases hq' with hq'|hq'<;>rw[hlg]at hq'<;>cases hq'
    ·obtain⟨q,_,hq'⟩:=m3 _ hm;rcases hq' with hq'|hq'<;>rw[hlg]at hq'<;>cases hq'
  ·cases hfin
 refine calls_of_wp hf hb (iS hT (hΓ.at hI λk hk=>st.out k λhl=>hBL k hl hk) hm c pl hc hR hr ?_ (it.join ?_ _));·intro ch a a' w' hq;obtain⟨_,v,vs,L',Lr,he,_⟩:=hq;cases he
 ·intro e U' E' a' w' hr' h';cases e with
  |nrm =>obtain⟨d1,v,d2,vs,L',Lr,d3,d4⟩:=hend U' E' a' w' hr' h';exact⟨d1,v,d2,v,vs,L',Lr,rfl,d4⟩
  |ret =>obtain⟨d1,v,d2,vs,L',Lr,d3,d4⟩:=hend U' E' a' w' hr' h';exact⟨d1,v,d2,v,vs,L',Lr,rfl,d4⟩
  |exit i=>cases hr'
end
def bi:Gm:=⟨λ_=>none,λ_=>none,λ_=>none,λ_=>none,λ_=>none⟩
def aw.nil[DC]{P:Program}[Inv P]:aw P bi:=⟨λf en h=>(by cases h),λf en h=>(by cases h),λf en h=>(by cases h),λf en h=>(by cases h),λf en h=>(by cases h)⟩
def aD(Γ:Gm)(f:Nat)(en:aK):Gm:=⟨λk=>cond (Nat.beq k f) (some en) (Γ.g k),Γ.m,Γ.v,Γ.n,Γ.s⟩
def addM(Γ:Gm)(f:Nat)(en:ik):Gm:=⟨Γ.g,λk=>cond (Nat.beq k f) (some en) (Γ.m k),Γ.v,Γ.n,Γ.s⟩
def addS(Γ:Gm)(f:Nat)(en:kM):Gm:=⟨Γ.g,Γ.m,Γ.v,Γ.n,λk=>cond (Nat.beq k f) (some en) (Γ.s k)⟩
def zk(rs:List PT):Bool:=rs.all λp=>p.agg||Nat.beq p.t.nc 1
def DH{rs:List PT}(hf:zk rs=true):∀p∈rs,p.agg=false->p.t.nc=1:=λp hp ha=>by have:=List.all_eq_true.1 hf p hp;rw[ha]at this;exact Nat.eq_of_beq_eq_true (by simpa using this)
def aw.add[DC]{P:Program}[Inv P]{Γ:Gm}(h:aw P Γ){f:Nat}{en:aK}(he:av P f en)(hf:zk en.sig.rs=true):aw P (aD Γ f en):=by
 refine⟨λk en' hk=>?_,h.m,h.v,h.n,h.s⟩;simp only[aD]at hk;cases hb:Nat.beq k f;·rw[hb]at hk;exact h.g k en' hk
 ·rw[hb]at hk;injection hk with hk;subst hk;obtain rfl:=Nat.eq_of_beq_eq_true hb;exact⟨he,DH hf⟩
def aw.addM[DC]{P:Program}[Inv P]{Γ:Gm}(h:aw P Γ){f:Nat}{en:ik}(he:fA P f en)(hf:zk en.rs=true):aw P (addM Γ f en):=by
 refine⟨h.g,λk en' hk=>?_,h.v,h.n,h.s⟩;simp only[Fw.addM]at hk;cases hb:Nat.beq k f;·rw[hb]at hk;exact h.m k en' hk
 ·rw[hb]at hk;injection hk with hk;subst hk;obtain rfl:=Nat.eq_of_beq_eq_true hb;exact⟨he,DH hf⟩
def aw.addS[DC]{P:Program}[Inv P]{Γ:Gm}(h:aw P Γ){f:Nat}{en:kM}(he:lE P f en):aw P (addS Γ f en):=by
 refine⟨h.g,h.m,h.v,h.n,λk en' hk=>?_⟩;simp only[Fw.addS]at hk;cases hb:Nat.beq k f;·rw[hb]at hk;exact h.s k en' hk
 ·rw[hb]at hk;injection hk with hk;subst hk;obtain rfl:=Nat.eq_of_beq_eq_true hb;exact he
def bn(f:Func):Code:=match f.body with|some c=>c|none=>.skip
def ah(n:Int):Int:=IntKind.i64.wrap n
def w8(n:Int):Int:=IntKind.u8.wrap n
def ax(n:Int)(m:Nat):Bool:=decide (0<=n)&&decide (n<(m:Int))
end Go.Fw
namespace Go.Fw
open Go.RowKit
section
variable {P : Program} {U U' : St} {E E' : aO} {w w' : World} {w0 : World} {lab0 : Nat → aB} {oo : Nat → Value} {n : Nat} {a : Act} {T : bw} {Γ : Gm} {B : Nat → Option ab} {N : Nat} [DC]
end
end Go.Fw
namespace Go.Fw
open Go.RowKit
def oX(ps:List PT)(X:au ps):St:=af (b8 ps X 0 0).1 [] []
def uz(T:bw)(e:Nat)(t:Ty)(rv:List ResultVar)(U:St):Option (List t.den) :=
 match jZ T U rv with
 |some [.c (.own r)]=>match U.row r with
  |some row=>cond (Nat.beq row.e e&&!row.deep) (dQ row.t t row.xs) none
  |none=>none
 |_=>none
def DN(T:bw)(e:Nat)(t:Ty)(rv:List ResultVar):Ex->St->Option (List t.den)
 |.nrm,U=>uz T e t rv U
 |.ret,U=>uz T e t rv U
 |.exit _,_=>none
section
variable {P : Program} {T : bw} {Γ : Gm} {B : Nat → Option ab} [DC]
theorem NF [Inv P] {f : Nat} {fn : Func} {c : Code} {e : Nat} {t : Ty} {ps : List PT} {pre : Option (au ps → Bool)} {val : au ps → List t.den} {pl : cP} {je : Option ab} (hf : P.funcs[f]? = some fn) (hb : fn.body = some c) (hname : (fn.name == "runtime.NumGoroutine") = false)
  (hm:P.follows .mixedOrders=true) (hT:bg P T) (hΓ:aw P Γ) (hc:eW fn.ntmps c=true) (hn:Nat.ble ps.length fn.ntmps=true) (hn2:Nat.ble fn.ntmps 100000=true) (hno:cj ps=true)
  (hG:∀X,gR ps X->ck pre X=true->∃N,an Γ T B N c pl (oX ps X) (ay je (DN T e t fn.results.toList))=some (val X)):lE P f ⟨ps,e,t,pre,val⟩:=by
 intro w args S X ha hpre hI hBS;have ha:dW w S ps args.toList X []:=ha;obtain⟨N,hr⟩:=hG X ha.bd hpre;have hn:=Nat.le_of_ble_eq_true hn;have hn2:=Nat.le_of_ble_eq_true hn2;have hlen:args.size=ps.length:=by have:=ha.len;simpa using this
 refine .inl ⟨?_, ?_⟩
 ·have h1 : ¬ fn.name = "runtime.NumGoroutine" := by simpa using hname
  have h2:¬ fn.body=none:=by rw[hb];simp
  simp[callFunc,hf,h1,h2]
 obtain⟨f2,v2,a2,b2⟩:=rH (i:=0) (j:=0) ha List.nodup_nil
 classical
 let E:aO:=⟨λk=>if S k then .st else .dead,v2,λ_=>0⟩;have hst:∀k,S k->E.lab k=.st:=λk hk=>if_pos hk;have hdd:∀k,¬ S k->E.lab k=.dead:=λk hk=>if_neg hk;have hrows:(b8 ps X 0 0).2=[]:=by
  have:∀{ps:List PT}{X:au ps}{i j:Nat},cj ps=true->(b8 ps X i j).2=[]:=by
   intro ps;induction ps with
   |nil=>intro X i j _;rfl
   |cons p ps ih =>intro X i j h;obtain⟨t,agg,io⟩:=p;simp only[cj,List.all_cons,Bool.and_eq_true,Bool.not_eq_true']at h;obtain⟨hio,h⟩:=h;subst hio;exact ih h
  exact this hno
 obtain⟨g3,_⟩:=b2 (oX ps X) E (λk hk=>by cases hk) hst (λp hp=>rfl) (λp hp=>by rw[hrows]at hp;cases hp);let oo:Nat->Value:=λt=>undef;have hsz:(args++Array.replicate (fn.ntmps-args.size) undef).size=fn.ntmps:=by rw[Array.size_append,Array.size_replicate];omega
 have hR:R w E.lab oo fn.ntmps (oX ps X) E { tmps:=args++Array.replicate (fn.ntmps-args.size) undef,defers:=[] } w:=by
  refine⟨hn2,hsz,rfl,λt=>?_,λb te cs hb=>(by cases hb),λr row hr=>(by cases hr),⟨rfl,⟨rfl,λ_=>Nat.le_refl _⟩,rfl,Nat.le_refl _,λk hk hl=>⟨hl,rfl⟩,λk hk hl=>⟨hl,rfl⟩⟩⟩;show aM (oX ps X) E w (gi (b8 ps X 0 0).1 t) _;refine ze λp hp ep=>?_;obtain⟨m,v,q1,q2,q3⟩:=g3 p hp;have hlt:m<args.size:=by have:=(List.getElem?_eq_some_iff.1 q1).1;simpa using this
  have hv:dx oo { tmps:=args++Array.replicate (fn.ntmps-args.size) undef,defers:=[] } t=v:=by
   unfold dx;rw[if_pos (by omega),show t=m by omega];show(args++Array.replicate (fn.ntmps-args.size) undef).getD m undef=v;rw[Array.getD_eq_getD_getElem?,Array.getElem?_append_left hlt];have:args[m]? = some v:=by simpa using q1
   rw[this];rfl
  rw[hv];exact q3
 have hend:∀U' E' a' w',uz T e t fn.results.toList U'=some (val X)->R w E.lab oo fn.ntmps U' E' a' w'->a'.defers=[]/\∃v,(results fn a'.tmps).run P w'=.ok v w'/\ub w S e t (val X) v w':=by
  intro U' E' a' w' hfin h';refine⟨h'.defers, ?_⟩;unfold uz at hfin;split at hfin
  ·rename_i r hss;split at hfin
   ·rename_i row hrow;cases hq:(Nat.beq row.e e&&!row.deep);·rw[hq]at hfin;cases hfin
    rw[hq]at hfin;simp only[Bool.and_eq_true,Bool.not_eq_true']at hq;obtain⟨hqe,hqd⟩:=hq;obtain⟨e2,t2,xs2,dp2,nl2⟩:=row;obtain rfl:e2=e:=Nat.eq_of_beq_eq_true hqe;obtain rfl:dp2=false:=hqd;obtain⟨htt,hys⟩:=ic (show dQ t2 t xs2=some (val X)from hfin);obtain rfl:t2=t:=htt;have hys:xs2=val X:=hys;obtain⟨vs,v1,v2⟩:=rF hT h' hss;obtain⟨v,r1,r2⟩:=rG v2;match vs,v1 with
    |[],v1=>exact v1.elim
    |_::_::_,v1=>exact v1.2.elim
    |[u],v1 =>
    obtain rfl:v=u:=r2;obtain⟨hv,_,_⟩:=(show am U' E' w' (.own r) v from v1.1);obtain⟨css,k1,k2,k3,_⟩:=h'.rows r _ hrow;rw[<-hv]at k1 k2;have k3:aj (λc y=>Rd w' (λk=>E'.lab k=.st) t2 c y) css xs2:=k3;have fr:∀k,k<w.heap.size->E'.lab k=E.lab k/\w'.heap[k]? = w.heap[k]?:=λk hk=>by
     by_cases hs:S k;·have:=h'.same.old k hk (hst k hs);exact⟨this.1.trans (hst k hs).symm,this.2⟩
     ·have:=h'.same.gone k hk (hdd k hs);exact⟨this.1.trans (hdd k hs).symm,this.2⟩
    refine⟨v,r1,⟨css,by rw[<-hys];exact k1,by
     rw[<-hys];refine k3.imp λc y hy=>hy.mono λk hk=>⟨λhv'=>?_, ?_⟩;·have:=k2 k hv';rw[this]at hk;cases hk
     ·by_cases hlt:k<w.heap.size;·refine .inl (Classical.byContradiction λhs=>?_);have:=(fr k hlt).1;rw[hk,hdd k hs]at this;cases this
      ·exact .inr (Nat.le_of_not_lt hlt)⟩,λk hk=>Nat.le_of_not_lt λhlt=>?_,h'.same.os,h'.same.tape,h'.same.output,h'.same.size,λk hk=>(fr k hk).2⟩
    have h1:=k2 k hk;rw[(fr k hlt).1]at h1;by_cases hs:S k;·rw[hst k hs]at h1;cases h1
    ·rw[hdd k hs]at h1;cases h1
   ·cases hfin
  ·cases hfin
 refine calls_of_wp hf hb (iS hT (hΓ.at hI λk hk=>hst k (hBS k hk)) hm c pl hc hR hr ?_ (it.join ?_ _));·intro ch a a' w' hq;obtain⟨_,v,he,_⟩:=hq;cases he
 ·intro ex U' E' a' w' hr' h';cases ex with
  |nrm =>obtain⟨d1,v,d2,d3⟩:=hend U' E' a' w' hr' h';exact⟨d1,v,d2,v,rfl,d3⟩
  |ret =>obtain⟨d1,v,d2,d3⟩:=hend U' E' a' w' hr' h';exact⟨d1,v,d2,v,rfl,d3⟩
  |exit i=>cases hr'
end
def NG[DC]{P:Program}[Inv P]{Γ:Gm}{T:bw}{B:Nat->Option ab}{f:Nat}{fn:Func}{c:Code}{e:Nat}{t:Ty}{ps:List PT}{pre:Option (au ps->Bool)}{val:au ps->List t.den}{pl:cP}{je:Option ab}
  {W:Nat->au ps->(Ex->St->Option (List t.den))->Option (List t.den)} (hf:P.funcs[f]? = some fn) (hT:bg P T) (hΓ:aw P Γ)
  (ht:∀N X K,an Γ T B N c pl (oX ps X) (ay je K)=W N X K)
  (hb : (fn.body, fn.name == "runtime.NumGoroutine", P.follows .mixedOrders, eW fn.ntmps c && (Nat.ble ps.length fn.ntmps && (Nat.ble fn.ntmps 100000 && cj ps))) = (some c, false, true, true))
  (hG:∀X,gR ps X->ck pre X=true->∃N,W N X (DN T e t fn.results.toList)=some (val X)):lE P f ⟨ps,e,t,pre,val⟩:=by
 have h4:=congrArg (λq=>q.2.2.2) hb;simp only[Bool.and_eq_true]at h4;exact NF hf (congrArg Prod.fst hb) (congrArg (λq=>q.2.1) hb) (congrArg (λq=>q.2.2.1) hb) hT hΓ h4.1 h4.2.1 h4.2.2.1 h4.2.2.2 (λX h1 h2=>by obtain⟨N,h⟩:=hG X h1 h2;exact⟨N,(ht N X _).trans h⟩)
abbrev KT(J:Type):Type:=Ex->St->Option J
section
variable {J : Type} {Γ : Gm} {T : bw} {B : Nat → Option ab} {N : Nat} {c a b : Code} {p pa pb : cP} {U : St} {K : KT J}
def DP{id:Nat}{lm:ab}{Z W:Option J}(hc:c=.block id a)(hp:p=.mk (some lm) none pa .n)
  (h1:an Γ T B N a pa U (ay (some lm) (rz id K))=Z) (e:Z=W):an Γ T B N c p U K=W:=by
 subst hc hp e;exact h1
def DQ{cl:ab}{U':St}{Z W:Option J}(hc:c=.loop a)(hp:p=.mk none (some cl) pa .n)(hs:ir cl U=some U')
  (h1:ce (λU K=>an Γ T B N a pa U K) cl N U' K=Z) (e:Z=W):an Γ T B N c p U K=W:=by
 subst hc hp e;show((ir cl U).bind λσ0=>ce (λU K=>an Γ T B N a pa U K) cl N σ0 K)=_;rw[hs];exact h1
def NI{β:Type}(f:β->Option J){cl1 cl:ab}{U':St}{Z W:Option J}{k k':β}(hc:(c,p,ir cl1 U)=(Code.loop a,cP.mk (some cl1) (some cl) pa pb,some U'))
  (h1:an Γ T B N a pb U' (ay (some cl) (cx (λU''=>ce (λU K=>an Γ T B N a pa U K) cl N U'' K) K))=Z) (h2:k=k') (e:(Z,f k')=(f k,W)):an Γ T B N c p U K=W:=by
 obtain⟨rfl,rfl,hs⟩:c=Code.loop a/\p=cP.mk (some cl1) (some cl) pa pb/\ir cl1 U=some U':=⟨congrArg Prod.fst hc,congrArg (λq=>q.2.1) hc,congrArg (λq=>q.2.2) hc⟩;subst h2;have e1:Z=f k:=congrArg Prod.fst e;have e2:f k=W:=congrArg Prod.snd e;rw[<-e2,<-e1,<-h1];show((ir cl1 U).bind λσ0=>an Γ T B N a pb σ0 (ay (some cl) (cx (λU''=>ce (λU K=>an Γ T B N a pa U K) cl N U'' K) K)))=_;rw[hs];rfl
end
abbrev I2(α:Type):Type:=Int->Int->α
abbrev I3(α:Type):Type:=Int->Int->Int->α
abbrev I4(α:Type):Type:=Int->Int->Int->Int->α
abbrev I5(α:Type):Type:=Int->Int->Int->Int->Int->α
abbrev I6(α:Type):Type:=Int->Int->Int->Int->Int->Int->α
abbrev I7(α:Type):Type:=Int->Int->Int->Int->Int->Int->Int->α
abbrev I8(α:Type):Type:=Int->Int->Int->Int->Int->Int->Int->Int->α
def a8:Nat->Code->Nat->Code
 |0,c,_=>c
 |F+1,c,n=>cond (Nat.ble n 1) c (match c with
  |.seq a b=>cond (Nat.beq (n%2) 0) (a8 F a (n / 2)) (a8 F b (n / 2))
  |.cond _ a b=>cond (Nat.beq (n%2) 0) (a8 F a (n / 2)) (a8 F b (n / 2))
  |.block _ c=>a8 F c (n / 2)
  |.loop c=>a8 F c (n / 2)
  |c=>c)
abbrev yi(n:Int):ai:=.int .i64 n
abbrev xi(n:Int):SV:=.c (.int .i64 n)
abbrev xo(n:Nat):SV:=.c (.own n)
abbrev xb(n:Nat):SV:=.c (.box n 0)
abbrev xB(b:Bool):SV:=.c (.bool b)
abbrev tI:Ty:=.int .i64
abbrev tM(e:Nat):Ty:=.pair tI (.pair tI (.sl e tI))
abbrev LI:Type:=List Int
abbrev LL:Type:=List (List Int)
abbrev MT:Type:=Int×Int×List Int
abbrev LM:Type:=List MT
def cX{α0 α1 β:Type}{f g:α0->α1->β}(h:∀x0 x1,f x0 x1=g x0 x1):f=g:=funext λx0=>funext λx1=>h x0 x1
def bZ{α0 α1 α2 β:Type}{f g:α0->α1->α2->β}(h:∀x0 x1 x2,f x0 x1 x2=g x0 x1 x2):f=g:=funext λx0=>funext λx1=>funext λx2=>h x0 x1 x2
def dn{α0 α1 α2 α3 β:Type}{f g:α0->α1->α2->α3->β}(h:∀x0 x1 x2 x3,f x0 x1 x2 x3=g x0 x1 x2 x3):f=g:=funext λx0=>funext λx1=>funext λx2=>funext λx3=>h x0 x1 x2 x3
def bO{α0 α1 α2 α3 α4 β:Type}{f g:α0->α1->α2->α3->α4->β}(h:∀x0 x1 x2 x3 x4,f x0 x1 x2 x3 x4=g x0 x1 x2 x3 x4):f=g:=funext λx0=>funext λx1=>funext λx2=>funext λx3=>funext λx4=>h x0 x1 x2 x3 x4
def cC{α0 α1 α2 α3 α4 α5 β:Type}{f g:α0->α1->α2->α3->α4->α5->β}(h:∀x0 x1 x2 x3 x4 x5,f x0 x1 x2 x3 x4 x5=g x0 x1 x2 x3 x4 x5):f=g:=funext λx0=>funext λx1=>funext λx2=>funext λx3=>funext λx4=>funext λx5=>h x0 x1 x2 x3 x4 x5
def eC{α0 α1 α2 α3 α4 α5 α6 β:Type}{f g:α0->α1->α2->α3->α4->α5->α6->β}(h:∀x0 x1 x2 x3 x4 x5 x6,f x0 x1 x2 x3 x4 x5 x6=g x0 x1 x2 x3 x4 x5 x6):f=g:=funext λx0=>funext λx1=>funext λx2=>funext λx3=>funext λx4=>funext λx5=>funext λx6=>h x0 x1 x2 x3 x4 x5 x6
def eX{α0 α1 α2 α3 α4 α5 α6 α7 β:Type}{f g:α0->α1->α2->α3->α4->α5->α6->α7->β}(h:∀x0 x1 x2 x3 x4 x5 x6 x7,f x0 x1 x2 x3 x4 x5 x6 x7=g x0 x1 x2 x3 x4 x5 x6 x7):f=g:=funext λx0=>funext λx1=>funext λx2=>funext λx3=>funext λx4=>funext λx5=>funext λx6=>funext λx7=>h x0 x1 x2 x3 x4 x5 x6 x7
def c6{α0 α1 α2 α3 α4 α5 α6 α7 α8 β:Type}{f g:α0->α1->α2->α3->α4->α5->α6->α7->α8->β}(h:∀x0 x1 x2 x3 x4 x5 x6 x7 x8,f x0 x1 x2 x3 x4 x5 x6 x7 x8=g x0 x1 x2 x3 x4 x5 x6 x7 x8):f=g:=funext λx0=>funext λx1=>funext λx2=>funext λx3=>funext λx4=>funext λx5=>funext λx6=>funext λx7=>funext λx8=>h x0 x1 x2 x3 x4 x5 x6 x7 x8
def cJ{α0 α1 α2 α3 α4 α5 α6 α7 α8 α9 β:Type}{f g:α0->α1->α2->α3->α4->α5->α6->α7->α8->α9->β}(h:∀x0 x1 x2 x3 x4 x5 x6 x7 x8 x9,f x0 x1 x2 x3 x4 x5 x6 x7 x8 x9=g x0 x1 x2 x3 x4 x5 x6 x7 x8 x9):f=g:=funext λx0=>funext λx1=>funext λx2=>funext λx3=>funext λx4=>funext λx5=>funext λx6=>funext λx7=>funext λx8=>funext λx9=>h x0 x1 x2 x3 x4 x5 x6 x7 x8 x9
def fE{α0 α1 α2 α3 α4 α5 α6 α7 α8 α9 α10 β:Type}{f g:α0->α1->α2->α3->α4->α5->α6->α7->α8->α9->α10->β}(h:∀x0 x1 x2 x3 x4 x5 x6 x7 x8 x9 x10,f x0 x1 x2 x3 x4 x5 x6 x7 x8 x9 x10=g x0 x1 x2 x3 x4 x5 x6 x7 x8 x9 x10):f=g:=funext λx0=>funext λx1=>funext λx2=>funext λx3=>funext λx4=>funext λx5=>funext λx6=>funext λx7=>funext λx8=>funext λx9=>funext λx10=>h x0 x1 x2 x3 x4 x5 x6 x7 x8 x9 x10
def j0{α0 α1 α2 α3 α4 α5 α6 α7 α8 α9 α10 α11 β:Type}{f g:α0->α1->α2->α3->α4->α5->α6->α7->α8->α9->α10->α11->β}(h:∀x0 x1 x2 x3 x4 x5 x6 x7 x8 x9 x10 x11,f x0 x1 x2 x3 x4 x5 x6 x7 x8 x9 x10 x11=g x0 x1 x2 x3 x4 x5 x6 x7 x8 x9 x10 x11):f=g:=funext λx0=>funext λx1=>funext λx2=>funext λx3=>funext λx4=>funext λx5=>funext λx6=>funext λx7=>funext λx8=>funext λx9=>funext λx10=>funext λx11=>h x0 x1 x2 x3 x4 x5 x6 x7 x8 x9 x10 x11
def lN{α0 α1 α2 α3 α4 α5 α6 α7 α8 α9 α10 α11 α12 β:Type}{f g:α0->α1->α2->α3->α4->α5->α6->α7->α8->α9->α10->α11->α12->β}(h:∀x0 x1 x2 x3 x4 x5 x6 x7 x8 x9 x10 x11 x12,f x0 x1 x2 x3 x4 x5 x6 x7 x8 x9 x10 x11 x12=g x0 x1 x2 x3 x4 x5 x6 x7 x8 x9 x10 x11 x12):f=g:=funext λx0=>funext λx1=>funext λx2=>funext λx3=>funext λx4=>funext λx5=>funext λx6=>funext λx7=>funext λx8=>funext λx9=>funext λx10=>funext λx11=>funext λx12=>h x0 x1 x2 x3 x4 x5 x6 x7 x8 x9 x10 x11 x12
def uA{α0 α1 α2 α3 α4 α5 α6 α7 α8 α9 α10 α11 α12 α13 β:Type}{f g:α0->α1->α2->α3->α4->α5->α6->α7->α8->α9->α10->α11->α12->α13->β}(h:∀x0 x1 x2 x3 x4 x5 x6 x7 x8 x9 x10 x11 x12 x13,f x0 x1 x2 x3 x4 x5 x6 x7 x8 x9 x10 x11 x12 x13=g x0 x1 x2 x3 x4 x5 x6 x7 x8 x9 x10 x11 x12 x13):f=g:=funext λx0=>funext λx1=>funext λx2=>funext λx3=>funext λx4=>funext λx5=>funext λx6=>funext λx7=>funext λx8=>funext λx9=>funext λx10=>funext λx11=>funext λx12=>funext λx13=>h x0 x1 x2 x3 x4 x5 x6 x7 x8 x9 x10 x11 x12 x13
def NK{α0 α1 α2 α3 α4 α5 α6 α7 α8 α9 α10 α11 α12 α13 α14 β:Type}{f g:α0->α1->α2->α3->α4->α5->α6->α7->α8->α9->α10->α11->α12->α13->α14->β}(h:∀x0 x1 x2 x3 x4 x5 x6 x7 x8 x9 x10 x11 x12 x13 x14,f x0 x1 x2 x3 x4 x5 x6 x7 x8 x9 x10 x11 x12 x13 x14=g x0 x1 x2 x3 x4 x5 x6 x7 x8 x9 x10 x11 x12 x13 x14):f=g:=funext λx0=>funext λx1=>funext λx2=>funext λx3=>funext λx4=>funext λx5=>funext λx6=>funext λx7=>funext λx8=>funext λx9=>funext λx10=>funext λx11=>funext λx12=>funext λx13=>funext λx14=>h x0 x1 x2 x3 x4 x5 x6 x7 x8 x9 x10 x11 x12 x13 x14
def DR{α0 α1 α2 α3 α4 α5 α6 α7 α8 α9 α10 α11 α12 α13 α14 α15 β:Type}{f g:α0->α1->α2->α3->α4->α5->α6->α7->α8->α9->α10->α11->α12->α13->α14->α15->β}(h:∀x0 x1 x2 x3 x4 x5 x6 x7 x8 x9 x10 x11 x12 x13 x14 x15,f x0 x1 x2 x3 x4 x5 x6 x7 x8 x9 x10 x11 x12 x13 x14 x15=g x0 x1 x2 x3 x4 x5 x6 x7 x8 x9 x10 x11 x12 x13 x14 x15):f=g:=funext λx0=>funext λx1=>funext λx2=>funext λx3=>funext λx4=>funext λx5=>funext λx6=>funext λx7=>funext λx8=>funext λx9=>funext λx10=>funext λx11=>funext λx12=>funext λx13=>funext λx14=>funext λx15=>h x0 x1 x2 x3 x4 x5 x6 x7 x8 x9 x10 x11 x12 x13 x14 x15
def gG{α:Type}(μ:α->Nat)(pre:α->Bool)(m:Nat)(X:α):Bool:=Nat.blt (μ X) m&&pre X
def fA.rec[DC]{P:Program}[Inv P]{f:Nat}{rf:Rf}{ps rs:List PT}{pre:cG rf×au ps->Bool}{val:cG rf×au ps->cG rf×au rs}(μ:cG rf×au ps->Nat)
  (step:∀m,fA P f ⟨rf,ps,rs,some (gG μ pre m),val⟩->fA P f ⟨rf,ps,rs,some (gG μ pre (m+1)),val⟩):fA P f ⟨rf,ps,rs,some pre,val⟩:=by
 have all:∀m,fA P f ⟨rf,ps,rs,some (gG μ pre m),val⟩:=by
  intro m;induction m with
  |zero =>
   intro w args L X _ _ _ hG _ _;have:gG μ pre 0 X=false:=by simp[gG]
   simp[ck,this]at hG
  |succ m ih=>exact step m ih
 intro w args L X h1 h2 h3 hG hI hB;have hp:pre X=true:=hG;refine dm.mono (all (μ X+1) w args L X h1 h2 h3 (show gG μ pre (μ X+1) X=true by simp[gG,hp]) hI hB) ?_;rintro e w' ⟨v,vs,Lf,Lr,he,A⟩
 exact⟨v,vs,Lf,Lr,he,⟨A.ret,A.res,A.ref,A.nodup,A.fresh,A.notg,A.os,A.tape,A.output,A.size,A.old⟩⟩
end Go.Fw
