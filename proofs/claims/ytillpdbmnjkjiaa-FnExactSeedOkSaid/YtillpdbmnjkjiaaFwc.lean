/- The framework: what a symbolic run of the model's code tells, proved sound. Nothing is assumed. -/
import Derived.Test.YtillpdbmnjkjiaaFwb
set_option linter.defProp false
set_option linter.unusedVariables false
set_option linter.unusedSectionVars false
set_option linter.unusedSimpArgs false
namespace Go.Fw
open Go.RowKit
structure Gm where
 g:Nat->Option aH
 m:Nat->Option fy
 v:Nat->Option fP
 n:Nat->Option fQ
 s:Nat->Option iw
def gr:Op->Option (Operand×Operand×Operand)
 |.pick c x y=>some (c,x,y)
 |_=>none
def kD:Op->Option (Nat×List Operand)
 |.call { callee:=.value (.func f),args:=args,argTypes:=_ }=>some (f,args.toList)
 |_=>none
def kE(U:St):Op->Option (Nat×List Operand)
 |.call { callee:=.value x,args:=args,argTypes:=_ }=>match ev U x with
  |.c (.fn f [])=>some (f,args.toList)
  |_=>none
 |_=>none
noncomputable def gt{J:Type}(a b:Option J):Option J:=by classical exact if a=b then a else none
@[reducible] noncomputable def bo{J:Type}(a:Option J):Option J:=gt a a
def up{J:Type}{a b:Option J}{r:J}(h:gt a b=some r):a=some r/\b=some r:=by
 unfold gt at h;split at h;·rename_i e;exact⟨h,e▸h⟩
 ·cases h
def qp{J:Type}(a:Option J):gt a a=a:=by unfold gt;exact if_pos rfl
noncomputable def qq{J:Type}(step:Nat->Option J):List Nat->Option J
 |[]=>none
 |[i]=>step i
 |i::j::is=>gt (step i) (qq step (j::is))
def uq{J:Type}{step:Nat->Option J}{r:J}:∀{is:List Nat},qq step is=some r->∀i∈is,step i=some r
 |[],h,_,_=>by cases h
 |[i],h,j,hj=>by obtain rfl:=List.mem_singleton.1 hj;exact h
 |i::j::is,h,k,hk=>by
  obtain⟨h1,h2⟩:=up h;rcases List.mem_cons.1 hk with rfl|hk;·exact h1
  ·exact uq h2 k hk
def ur:BinOp->Bool
 |.eql=>true
 |.neq=>true
 |_=>false
def kF(T:aN)(U:St):Op->Bool
 |.binOp op t x y _=>ur op&&(match T t,ev U x,ev U y with
  |some ti,.c (.sn _ _ _ _),.c .nil=>ti.el.isSome
  |some ti,.c (.own r),.c .nil=>ti.el.isSome&&(match U.row r with
   |some row=>!row.nilE
   |none=>false)
  |_,_,_=>false)
 |_=>false
structure b7 where
 d:Nat
 r:Nat
 i:Int
 f:Nat
 el:Option (Nat×Int)
def mN(T:aN)(U:St)(o:Oper):Option b7:=match o.guard,o.op,o.dst with
 |none,.load t x,some d=>match ev U x with
  |.c (.elt r i f)=>match U.row r,T t with
   |some row,some ti=>cond (row.deep&&(ti.el.isSome&&!ti.agg)) (some ⟨d,r,i,f,none⟩) none
   |_,_=>none
  |_=>none
 |_,_,_=>none
inductive AE where
 |no
 |still (p:b7)
 |sub (p:b7) (f:Nat) (args:List Operand)
 |put (p:b7) (e:Nat) (k:Int) (t:Nat) (x:Operand)
def kG(d:Nat):Option Operand->Bool
 |some (.tmp e)=>Nat.beq e d&&Nat.blt d 100000
 |_=>false
def fg(d:Nat):Option Nat->Bool
 |some e=>!(Nat.beq e d)
 |none=>true
def qr(T:aN)(U:St)(p:b7)(op:Op)(dst:Option Nat):Option b7:=none
def qt(p:b7)(op:Op)(dst:Option Nat):Option (Nat×Int×Nat×Operand):=match op,dst,p.el with
 |.store t (.tmp e') x,none,some (e,k)=>cond (Nat.beq e' e&&(Nat.blt e 100000&&Nat.blt p.d 100000)) (some (e,k,t,x)) none
 |_,_,_=>none
def gu(p:b7)(dst:Option Nat):Bool:=match p.el with
 |some (e,_)=>fg e dst
 |none=>true
def lk(N:Nat)(b:Bool):Bool:=match N with
 |0=>b
 |_+1=>b
def aP(N:Nat)(b:Bool):lk N b=b:=by cases N<;>rfl
def kH(N:Nat):ab->ab
 |.bool b=>.bool (lk N b)
 |c=>c
def kI(N:Nat):SV->SV
 |.c x=>.c (kH N x)
 |.agg l=>.agg l
 |.tup l=>.tup (l.map λp=>(p.1,p.2.map (kH N)))
def ut(N:Nat)(c:ab):kH N c=c:=by cases c<;>simp[kH,aP]
def uu(N:Nat)(s:SV):kI N s=s:=by have h:kH N=id:=funext (ut N);cases s<;>simp[kI,ut,h]
def kJ(N:Nat)(op:Op)(c:Bool):Bool:=match op with
 |.binOp .quo _ _ _ _=>lk N c
 |.binOp .rem _ _ _ _=>lk N c
 |.binOp .shl _ _ _ _=>lk N c
 |.binOp .shr _ _ _ _=>lk N c
 |.indexAddr _ _ _=>lk N c
 |.index _ _ _=>lk N c
 |.slice _ _ _ _ _=>lk N c
 |_=>c
def kK(N:Nat)(op:Op)(s:SV):SV:=match op with
 |.binOp _ _ _ _ _=>kI N s
 |.lookup _ _ _ _=>kI N s
 |_=>s
def qu(N:Nat)(op:Op)(c:Bool):kJ N op c=c:=by unfold kJ;split<;>first|rfl|exact aP N c
def qv(N:Nat)(op:Op)(s:SV):kK N op s=s:=by unfold kK;split<;>first|rfl|exact uu N s
def ix{α:Type}(N:Nat)(p:Option (α->Bool))(X:α):Bool:=match p with
 |none=>true
 |some f=>lk N (f X)
def kM{α:Type}(N:Nat)(p:Option (α->Bool))(X:α):ix N p X=bj p X:=by
 unfold ix bj;split;·rfl
 ·exact aP N _
def kN(N:Nat)(d:Option Nat)(U:St):St:=match d with
 |some d=>U.put d (kI N (U.slot d))
 |none=>U
def qw(N:Nat)(d:Option Nat)(U:St):kN N d U=U:=by
 cases d with
 |none=>rfl
 |some d =>
  unfold kN;simp only[uu];unfold St.put;congr 1;funext t;unfold ak;cases hb:Nat.beq t d;·rfl
  ·rw[Nat.eq_of_beq_eq_true hb];rfl
def aW.kL{J:Type}(N:Nat):aW->(St->Option J)->Option J
 |.fail,_=>none
 |.ok U,K=>K U
 |.chk c o,K=>cond (lk N c) (o.kL N K) none
 |.br b o1 o2,K=>cond b (o1.kL N K) (o2.kL N K)
 |.call x f,K=>x.bind λb=>(f b).kL N K
def aW.kL_eq{J:Type}(N:Nat)(K:St->Option J):∀o:aW,o.kL N K=o.k K
 |.fail=>rfl
 |.ok U=>rfl
 |.chk c o=>by simp only[aW.kL,aW.k,aP,aW.kL_eq N K o]
 |.br b o1 o2=>by simp only[aW.kL,aW.k,aW.kL_eq N K o1,aW.kL_eq N K o2]
 |.call x f=>by simp only[aW.kL,aW.k];congr 1;funext b;exact aW.kL_eq N K (f b)
section
variable {J : Type}
noncomputable def mO(Γ:Gm)(T:aN)(N:Nat)(o:Oper)(U:St)(K:St->Option J):Option J :=
 match gr o.op with
 |some (c,x,y)=>match ev U c with
  |.c (.bool b)=>cond b (K (cZ U o.dst (ev U x))) (K (cZ U o.dst (ev U y)))
  |_=>none
 |none=>match kE U o.op with
  |some (f,args)=>match Γ.g f with
   |some en=>match pT en U (args.map (ev U))with
    |some X=>cond (ix N en.pre X) (match pU en U o.dst (args.map (ev U)) (en.val X)with
     |some U'=>K (kN N o.dst U')
     |none=>none) none
    |none=>none
   |none=>match Γ.m f with
    |some en=>match p5 en U (args.map (ev U))with
     |some (qs,X)=>cond (ix N en.pre X) (match mF en U o.dst (args.map (ev U)) qs (en.val X)with
      |some U'=>K (kN N o.dst U')
      |none=>none) none
     |none=>none
    |none=>match Γ.v f with
     |some en=>match qe en U (args.map (ev U))with
      |some (qs,X)=>cond (ix N en.pre X) (match qf en U o.dst (args.map (ev U)) qs (en.val X)with
       |some U'=>K (kN N o.dst U')
       |none=>none) none
      |none=>none
     |none=>match Γ.n f with
      |some en=>match qg en U (args.map (ev U))with
       |some X=>cond (ix N en.pre X) (match qi en U o.dst (args.map (ev U)) (en.val X)with
        |some U'=>K U'
        |none=>none) none
       |none=>none
      |none=>match Γ.s f with
       |some en=>match kC en.ps (args.map (ev U))with
        |some X=>cond (ix N en.pre X) (match qn en U o.dst (en.val X)with
         |some U'=>K U'
         |none=>none) none
        |none=>none
       |none=>none
  |none=>match bv T U o.op with
   |some (c,s)=>cond (kF T U o.op) (cond (lk N c) (K (cZ U o.dst s)) (gt (K (cZ U o.dst (.c (.bool true)))) (K (cZ U o.dst (.c (.bool false))))))
    (cond (kJ N o.op c) (K (cZ U o.dst (kK N o.op s))) none)
   |none=>(mm T U o.dst o.op).kL N K
def qx(ops:Array Oper)(j:Nat):Option Nat:=match ops[j]? with
 |some o=>o.dst
 |none=>none
def iy(ops:Array Oper)(o:Oper)(U:St)(F:St->Option J)(K:St->Option J):Option J :=
 match o.guard with
 |none=>F U
 |some (j,want)=>match qx ops j with
  |some t=>match U.slot t with
   |.c (.bool b)=>cond b
    (cond want (F (U.put t (.c (.bool true)))) (K (cZ (U.put t (.c (.bool true))) o.dst (.tup []))))
    (cond want (K (cZ (U.put t (.c (.bool false))) o.dst (.tup []))) (F (U.put t (.c (.bool false)))))
   |.tup _=>K (cZ U o.dst (.tup []))
   |_=>none
  |none=>none
def fh:Op->Bool
 |.move _=>true
 |.assign _=>true
 |.load _ _=>true
 |.indexAddr _ _ _=>true
 |.fieldAddr _ _ _=>true
 |.binOp _ _ _ _ _=>true
 |.unOp _ _ _=>true
 |.index _ _ _=>true
 |.call { callee:=.builtin .len,args:=_,argTypes:=_ }=>true
 |.call { callee:=.builtin .min,args:=_,argTypes:=_ }=>true
 |.call { callee:=.builtin .max,args:=_,argTypes:=_ }=>true
 |.convert _ _ _=>true
 |.extract _ _=>true
 |.nilCheck _=>true
 |_=>false
noncomputable def uv(Γ:Gm)(N:Nat)(p:b7)(f:Nat)(args:List Operand)(dst:Option Nat)(U:St)(K:St->Option J):Option J:=none
def qy(T:aN)(p:b7)(k:Int)(t:Nat)(x:Operand)(U:St)(K:St->Option J):Option J:=none
def mP(Γ:Gm)(T:aN)(U:St)(o:Oper)(pin:Option b7):AE:=match mN T U o with
 |some p=>.still p
 |none=>match pin with
  |none=>.no
  |some p=>match o.guard with
   |some _=>.no
   |none=>match kE U o.op with
    |some (f,args)=>match Γ.g f with
     |some en=>cond (kG p.d (eo en.sig.ps args)&&cr en.sig.ps) (.sub p f args) .no
     |none=>.no
    |none=>match qr T U p o.op o.dst with
     |some p'=>.still p'
     |none=>match qt p o.op o.dst with
      |some (e,k,t,x)=>.put p e k t x
      |none=>cond (fh o.op&&(fg p.d o.dst&&gu p o.dst)) (.still p) .no
noncomputable def gv(Γ:Gm)(T:aN)(N:Nat)(ops:Array Oper):List Nat->Option b7->St->(St->Option J)->Option J
 |[],_,U,K=>K U
 |i::rest,pin,U,K=>match ops[i]? with
  |some o=>match mP Γ T U o pin with
   |.no=>iy ops o U (λU=>mO Γ T N o U λU'=>gv Γ T N ops rest none U' K) λU'=>gv Γ T N ops rest none U' K
   |.still p=>match bv T U o.op with
    |some (c,s)=>cond (kJ N o.op c) (gv Γ T N ops rest (some p) (cZ U o.dst (kK N o.op s)) K) none
    |none=>none
   |.sub p f args=>uv Γ N p f args o.dst U λU'=>gv Γ T N ops rest none U' K
   |.put p _ k t x=>qy T p k t x U λU'=>gv Γ T N ops rest none U' K
  |none=>none
def uw(T:aN)(N:Nat)(o:Oper)(U:St)(K:St->Option J):Option J :=
 match bv T U o.op with
 |some (c,s)=>cond (pI o.op s) (cond (kJ N o.op c) (K (cZ U o.dst (kK N o.op s))) none) none
 |none=>none
def mQ(f:Nat->Bool):List Nat->Option Nat
 |[]=>none
 |i::l=>cond (f i) (some i) (mQ f l)
def dR(Γ:Gm)(o:Oper):Bool:=match kD o.op with
 |some (f,_)=>match Γ.g f with
  |some en=>bi en.sig.ps
  |none=>false
 |none=>match gr o.op with
  |some _=>true
  |none=>match o.op with
   |.slice _ _ _ _ _=>true
   |.build _ _=>true
   |.makeSlice _ _ _=>true
   |.alloc _=>true
   |.box _ _=>true
   |.buildSlice _ _ _=>true
   |_=>fh o.op
def gw(Γ:Gm)(ops:Array Oper)(j:Nat):Bool:=match ops[j]? with
 |some oj=>!(ik oj.op)&&(List.range ops.size).any λi=>!(Nat.beq i j)&&(match ops[i]? with
  |some oi=>!(dR Γ oi)&&!(dN ops 4 i j||dN ops 4 j i)
  |none=>false)
 |none=>false
def ux(Γ:Gm)(ops:Array Oper)(listed:Array Bool)(i:Nat):Bool:=match ops[i]? with
 |some o=>fh o.op&&(Region.free .any ops listed i&&!(gw Γ ops i))
 |none=>false
def qz(T:aN)(U:St)(o:Oper)(pin:Option b7):Option b7:=match mN T U o with
 |some p=>some p
 |none=>match pin,o.guard with
  |some p,none=>match qr T U p o.op o.dst with
   |some p'=>some p'
   |none=>cond (fg p.d o.dst&&gu p o.dst) (some p) none
  |_,_=>none
def uy(o:Oper)(pin:Option b7):Option (b7×Nat×Int×Nat×Operand):=match pin,o.guard with
 |some p,none=>match qt p o.op o.dst with
  |some y=>some (p,y)
  |none=>none
 |_,_=>none
noncomputable def fR(Γ:Gm)(T:aN)(N:Nat)(ops:Array Oper):Nat->Array Bool->Option b7->St->(St->Option J)->Option J
 |0,listed,_,U,K=>cond (Region.ready .any ops listed).isEmpty (K U) none
 |fuel+1,listed,pin,U,K=>match Region.ready .any ops listed with
  |[]=>K U
  |r::rs=>match mQ (ux Γ ops listed) (r::rs)with
   |some i=>match ops[i]? with
    |some o=>iy ops o U (λU=>uw T N o U λU'=>fR Γ T N ops fuel (listed.setIfInBounds i true) (qz T U o pin) U' K) λU'=>fR Γ T N ops fuel (listed.setIfInBounds i true) none U' K
    |none=>none
   |none=>qq (λr=>match ops[r]? with
    |some o=>cond (dR Γ o||fw ops (gw Γ ops) r) (match uy o pin with
     |some (p,_,k,t,x)=>cond (fw ops (gw Γ ops) r) (qy T p k t x U λU'=>fR Γ T N ops fuel (listed.setIfInBounds r true) none U' K) none
     |none=>iy ops o U (λU=>mO Γ T N o U λU'=>fR Γ T N ops fuel (listed.setIfInBounds r true) none U' K) λU'=>fR Γ T N ops fuel (listed.setIfInBounds r true) none U' K) none
    |none=>none) (r::rs)
noncomputable def qA(Γ:Gm)(T:aN)(N:Nat)(ops:Array Oper)(draw:Bool)(U:St)(K:St->Option J):Option J :=
 cond draw (cond (Region.noSelect ops) (fR Γ T N ops ops.size (Array.replicate ops.size false) none U K) none) (gv Γ T N ops (List.range ops.size) none U K)
def iz(n:Nat)(ops:Array Oper):Bool:=ops.toList.all λo=>match o.dst with
 |some d=>Nat.blt d n
 |none=>true
end
structure an[DC](P:Program)[Inv P](Γ:Gm):Prop where
 g:∀f en,Γ.g f=some en->ao P f en/\∀p∈en.sig.rs,p.agg=false->p.t.nc=1
 m:∀f en,Γ.m f=some en->fc P f en/\∀p∈en.rs,p.agg=false->p.t.nc=1
 v:∀f en,Γ.v f=some en->False
 n:∀f en,Γ.n f=some en->False
 s:∀f en,Γ.s f=some en->False
structure iA[DC](P:Program)(w0:World)(lab0:Nat->au)(Γ:Gm):Prop where
 g:∀f en,Γ.g f=some en->ks P w0 lab0 f en/\∀p∈en.sig.rs,p.agg=false->p.t.nc=1
 m:∀f en,Γ.m f=some en->p4 P w0 lab0 f en/\∀p∈en.rs,p.agg=false->p.t.nc=1
 v:∀f en,Γ.v f=some en->False
 n:∀f en,Γ.n f=some en->False
 s:∀f en,Γ.s f=some en->False
def an.at[DC]{P:Program}[Inv P]{Γ:Gm}(h:an P Γ){w0:World}{lab0:Nat->au}(hI:Inv.I P w0)(hB:∀k,Inv.B P k->lab0 k=.st):iA P w0 lab0 Γ :=
 ⟨λf en hf=>⟨(h.g f en hf).1.at hI hB,(h.g f en hf).2⟩,λf en hf=>⟨(h.m f en hf).1.at hI hB,(h.m f en hf).2⟩,λf en hf=>h.v f en hf,λf en hf=>h.n f en hf,λf en hf=>h.s f en hf⟩
section
variable {P : Program} {U U' : St} {E E' : aD} {w w' : World} {w0 : World} {lab0 : Nat → au} {oo : Nat → Value} {n : Nat} {a : Act} {T : aN} {Γ : Gm} {J : Type} {ops : Array Oper} {N : Nat} [DC]
def ew(h:iz n ops=true){i:Nat}{o:Oper}(ho:ops[i]? = some o):∀d,o.dst=some d->d<n:=by
 intro d hd;have hm:o∈ops.toList:=by have:=Array.mem_of_getElem? ho;simpa using this
 have:=List.all_eq_true.1 h o hm;rw[hd]at this;simpa using this
def mR(h:R w0 lab0 oo n U E a w):∀args:List Operand,ae (aC U E w) (args.map (ev U)) (args.map a.eval)
 |[]=>trivial
 |x::l=>⟨aO h x,mR h l⟩
def qB{op:Op}{f:Nat}{args:List Operand}(h:kD op=some (f,args)):∃arr ts,op=.call { callee:=.value (.func f),args:=arr,argTypes:=ts }/\arr.toList=args:=by
 unfold kD at h;split at h;·rename_i f' arr ts;injection h with h;injection h with e1 e2;subst e1;exact⟨arr,ts,rfl,e2⟩
 ·cases h
def qC{op:Op}{f:Nat}{args:List Operand}(h:kE U op=some (f,args)):∃x arr ts,op=.call { callee:=.value x,args:=arr,argTypes:=ts }/\arr.toList=args/\ev U x=.c (.fn f []):=by
 unfold kE at h;split at h
 ·rename_i x arr ts;split at h;·rename_i f' hf;injection h with h;injection h with e1 e2;subst e1;exact⟨x,arr,ts,rfl,e2,hf⟩
  ·cases h
 ·cases h
def qD(h:R w0 lab0 oo n U E a w){x:Operand}{f:Nat}(hx:ev U x=.c (.fn f [])):a.eval x=.func (.func f) #[] #[]:=by have:=aO h x;rw[hx]at this;exact this.1
def AF(hT:aK P T)(h:R w0 lab0 oo n U E a w){o:Oper}(hn:kF T U o.op=true):∃b,(execOp a.eval o).run P w=.ok (.value (.bool b)) w:=by
 obtain⟨dst,op,oty,pos,after,guard⟩:=o;simp only at hn;unfold kF at hn;split at hn
 ·rename_i op t x y t';simp only[Bool.and_eq_true]at hn;obtain⟨hop,hn⟩:=hn;obtain⟨ti,A,m,c,ht,hel,hx,hy⟩:∃(ti:TI) (A:Option Addr) (m c:Nat),T t=some ti/\ti.el.isSome=true/\a.eval x=.slice A m c/\a.eval y=.slice none 0 0:=by
   split at hn;·rename_i ti _ _ _ _ ht hx hy;have rx:=aO h x;have ry:=aO h y;rw[hx]at rx;rw[hy]at ry;obtain⟨A,m,d,e,_⟩:=rx.c_inv;injection e with e;exact⟨ti,A,m,d,ht,hn,e,ry.c_inv⟩
   ·rename_i ti r ht hx hy;have rx:=aO h x;have ry:=aO h y;rw[hx]at rx;rw[hy]at ry;obtain⟨e,_,A,m,d,e'⟩:=rx.c_inv;exact⟨ti,A,m,d,ht,(by simp only[Bool.and_eq_true]at hn;exact hn.1),e.trans (e▸e'),ry.c_inv⟩
   ·cases hn
  obtain⟨e,he⟩:=Option.isSome_iff_exists.1 hel;have hu:=eX hT ht he;have heq:(Op.equal t (.slice A m c) (.slice none 0 0)).run P w=.ok A.isNone w:=by
   have key:∀d,(Op.equalIn (d+1) t (.slice A m c) (.slice none 0 0)).run P w=.ok A.isNone w:=λd=>by cases A<;>simp[Op.equalIn,run_underlying hu]
   exact key 9999
  have hguard:(eqGuard op t x y (.slice A m c) (.slice none 0 0)).run P w=.ok () w:=l7 (λu e=>by cases e) (λe=>by cases e);cases op<;>simp only[ur]at hop<;>try contradiction
  ·refine⟨A.isNone, ?_⟩;simp only[execOp,hx,hy];rw[Sem.run_bind,Sem.run_bind,hguard];have:binOp .eql t (.slice A m c) (.slice none 0 0)=(do pure (.bool (<-Op.equal t (.slice A m c) (.slice none 0 0))):Sem Value):=rfl;simp[this,heq]
  ·refine⟨!A.isNone, ?_⟩;simp only[execOp,hx,hy];rw[Sem.run_bind,Sem.run_bind,hguard];have:binOp .neq t (.slice A m c) (.slice none 0 0)=(do pure (.bool (!(<-Op.equal t (.slice A m c) (.slice none 0 0)))):Sem Value):=rfl;simp[this,heq]
 ·cases hn
def uz(hT:aK P T)(hΓ:iA P w0 lab0 Γ)(h:R w0 lab0 oo n U E a w){o:Oper}(hd:∀d,o.dst=some d->d<n){K:St->Option J}{r:J}(hr:mO Γ T N o U K=some r){next:Act->World->Prop}{Q:Exit->Act->World->Prop}
  (hK:∀U' E' v w',K U'=some r->R w0 lab0 oo n U' E' (a.put o.dst v) w'->(dR Γ o=true->ba w w')->next (a.put o.dst v) w'):o.wp P a w next Q:=by
 unfold mO at hr;split at hr
 ·rename_i c x y hp;have hop:o.op=.pick c x y:=by
   obtain⟨dst,op,oty,pos,after,guard⟩:=o;simp only at hp ⊢;cases op<;>simp only[gr]at hp<;>try contradiction
   injection hp with hp;injection hp with e1 e2;injection e2 with e2 e3;rw[e1,e2,e3]
  split at hr
  ·rename_i b hb;have hc:=aO h c;rw[hb]at hc;have hc:a.eval c=.bool b:=hc;have hrun:(execOp a.eval o).run P w=.ok (.value (if b then a.eval x else a.eval y)) w:=by simp[execOp,hop,hc,asBool]
   unfold Oper.wp;rw[hrun];cases b;·exact hK _ E _ w hr (h.iput hd (aO h y)) λ_=>ba.refl w
   ·exact hK _ E _ w hr (h.iput hd (aO h x)) λ_=>ba.refl w
  ·cases hr
 ·rename_i hnp;split at hr
  ·rename_i f args hcall;split at hr
   ·rename_i en hen;split at hr
    ·rename_i X hX;rw[kM]at hr;cases hpre:bj en.pre X;·rw[hpre]at hr;cases hr
     rw[hpre]at hr;simp only[cond_true,qw]at hr;have hG:en.G X=some (en.val X):=by unfold aH.G;rw[hpre];rfl
     split at hr
     ·rename_i U' hout;obtain⟨hE,hfl⟩:=hΓ.g f en hen;obtain⟨x0,arr,ts,hop,harr,hx0⟩:=qC hcall;have hev:a.eval x0=.func (.func f) #[] #[]:=(qD h hx0);have hs:ae (aC U E w) (args.map (ev U)) (arr.map a.eval).toList:=by rw[Array.toList_map,harr];exact mR h args
      have hq:dR Γ o=true->bi en.sig.ps=true:=by
       intro hq;unfold dR at hq;split at hq;·rename_i f' args' hcs;obtain⟨arr',ts',hop',_⟩:=qB hcs;rw[hop]at hop';injection hop' with hop';injection hop' with e1 e2 e3;injection e1 with e1;subst e1;have hx0:SV.c (.fn f' [])=.c (.fn f []):=hx0;injection hx0 with hx0;injection hx0 with hx0;subst hx0;rw[hen]at hq;exact hq
       ·rw[hop]at hq;simp[gr,fh]at hq
      have hrun:(execOp a.eval o).run P w=(callFunc f (arr.map a.eval)).run P w:=by simp[execOp,hop,resolve,hev,Deferred.ofValue,invoke]
      unfold Oper.wp;rw[hrun];rcases Aw hE h hs hX hG hd hfl hout with⟨h1,h2⟩|⟨v,w',h1,v',E',he,h2,h3⟩
      ·rw[h1,Oper.upon_enter];refine h2.mono ?_;rintro e w' ⟨v,E',rfl,h3,h4⟩
       exact hK U' E' v w' hr h3 λhqq=>h4 (hq hqq)
      ·injection he with he;subst he;rw[h1];exact hK U' E' v w' hr h2 λhqq=>h3 (hq hqq)
     ·cases hr
    ·cases hr
   ·rename_i hng;split at hr
    ·rename_i en hen;split at hr
     ·rename_i qs X hX;rw[kM]at hr;cases hpre:bj en.pre X;·rw[hpre]at hr;cases hr
      rw[hpre]at hr;simp only[cond_true,qw]at hr;split at hr
      ·rename_i U' hout;obtain⟨hE,hfl⟩:=hΓ.m f en hen;obtain⟨x0,arr,ts,hop,harr,hx0⟩:=qC hcall;have hev:a.eval x0=.func (.func f) #[] #[]:=(qD h hx0);have hs:ae (aC U E w) (args.map (ev U)) (arr.map a.eval).toList:=by rw[Array.toList_map,harr];exact mR h args
       have hq:dR Γ o=true->False:=by
        intro hq;unfold dR at hq;split at hq;·rename_i f' args' hcs;obtain⟨arr',ts',hop',_⟩:=qB hcs;rw[hop]at hop';injection hop' with hop';injection hop' with e1 e2 e3;injection e1 with e1;subst e1;have hx0:SV.c (.fn f' [])=.c (.fn f []):=hx0;injection hx0 with hx0;injection hx0 with hx0;subst hx0;rw[hng]at hq;cases hq
        ·rw[hop]at hq;simp[gr,fh]at hq
       have hrun:(execOp a.eval o).run P w=(callFunc f (arr.map a.eval)).run P w:=by simp[execOp,hop,resolve,hev,Deferred.ofValue,invoke]
       unfold Oper.wp;rw[hrun];rcases AA hE h hs hX hpre hd hfl hout with⟨h1,h2⟩|⟨v,w',h1,v',E',he,h2⟩
       ·rw[h1,Oper.upon_enter];refine h2.mono ?_;rintro e w' ⟨v,E',rfl,h3⟩
        exact hK U' E' v w' hr h3 λhqq=>(hq hqq).elim
       ·injection he with he;subst he;rw[h1];exact hK U' E' v w' hr h2 λhqq=>(hq hqq).elim
      ·cases hr
     ·cases hr
    ·obtain⟨x0,arr,ts,hop,harr,hx0⟩:=qC hcall;have hev:a.eval x0=.func (.func f) #[] #[]:=(qD h hx0);have hs:ae (aC U E w) (args.map (ev U)) (arr.map a.eval).toList:=by rw[Array.toList_map,harr];exact mR h args
     have hq:dR Γ o=true->False:=by
      intro hq;unfold dR at hq;split at hq;·rename_i f' args' hcs;obtain⟨arr',ts',hop',_⟩:=qB hcs;rw[hop]at hop';injection hop' with hop';injection hop' with e1 e2 e3;injection e1 with e1;subst e1;have hx0:SV.c (.fn f' [])=.c (.fn f []):=hx0;injection hx0 with hx0;injection hx0 with hx0;subst hx0;rw[hng]at hq;cases hq
      ·rw[hop]at hq;simp[gr,fh]at hq
     have hrun:(execOp a.eval o).run P w=(callFunc f (arr.map a.eval)).run P w:=by simp[execOp,hop,resolve,hev,Deferred.ofValue,invoke]
     have fin:∀U',K U'=some r->(bQ P f (arr.map a.eval) w λe w'=>∃v E',e=.returned v/\R w0 lab0 oo n U' E' (a.put o.dst v) w')->o.wp P a w next Q:=by
      intro U' hr hcalls;unfold Oper.wp;rw[hrun];rcases hcalls with⟨h1,h2⟩|⟨v,w',h1,v',E',he,h2⟩
      ·rw[h1,Oper.upon_enter];refine h2.mono ?_;rintro e w' ⟨v,E',rfl,h3⟩
       exact hK U' E' v w' hr h3 λhqq=>(hq hqq).elim
      ·injection he with he;subst he;rw[h1];exact hK U' E' v w' hr h2 λhqq=>(hq hqq).elim
     split at hr
     ·rename_i en hen;split at hr
      ·rename_i qs X hX;rw[kM]at hr;cases hpre:bj en.pre X;·rw[hpre]at hr;cases hr
       rw[hpre]at hr;simp only[cond_true,qw]at hr;split at hr;·rename_i U' hout;exact(hΓ.v f en hen).elim
       ·cases hr
      ·cases hr
     ·split at hr
      ·rename_i en hen;split at hr
       ·rename_i X hX;rw[kM]at hr;cases hpre:bj en.pre X;·rw[hpre]at hr;cases hr
        rw[hpre]at hr;simp only[cond_true]at hr;split at hr;·rename_i U' hout;exact(hΓ.n f en hen).elim
        ·cases hr
       ·cases hr
      ·split at hr
       ·rename_i en hen;split at hr
        ·rename_i X hX;rw[kM]at hr;cases hpre:bj en.pre X;·rw[hpre]at hr;cases hr
         rw[hpre]at hr;simp only[cond_true]at hr;split at hr;·rename_i U' hout;exact(hΓ.s f en hen).elim
         ·cases hr
        ·cases hr
       ·cases hr
  ·rename_i hnc;split at hr
   ·rename_i c s hv;rw[qu,qv,aP]at hr;cases c
    ·cases hne:kF T U o.op;·rw[hne]at hr;cases hr
     ·rw[hne]at hr;obtain⟨q1,q2⟩:=up (show gt _ _=some r from hr);obtain⟨b,h1⟩:=AF hT h hne;unfold Oper.wp;rw[h1];cases b;·exact hK _ E _ w q2 (h.iput hd rfl) λ_=>ba.refl w
      ·exact hK _ E _ w q1 (h.iput hd rfl) λ_=>ba.refl w
    ·have hr:K (cZ U o.dst s)=some r:=by cases hne:kF T U o.op<;>(rw[hne]at hr;exact hr)
     obtain⟨v,h1,h2⟩:=ig hT h hv rfl;unfold Oper.wp;rw[h1];exact hK _ E v w hr (h.iput hd h2) λ_=>ba.refl w
   ·rename_i hv;rw[aW.kL_eq]at hr;obtain⟨U',h1,h2⟩:=aW.k_run hr;have hnq:dR Γ o=true->ij o.op=true:=by intro hq;unfold mm at h1;split at h1;all_goals first | (cases h1;done) | (rename_i he;rw[he];unfold dR at hq;rw[he]at hq;simp[kD,gr,fh,ij]at hq ⊢;done) | (rename_i he _;rw[he];unfold dR at hq;rw[he]at hq;simp[kD,gr,fh,ij]at hq ⊢;done)
    rcases Ae hT h hd h1 with⟨v,w',E',g1,gx,g2⟩|⟨w',E',g1,g2⟩;·unfold Oper.wp;rw[g1];exact hK U' E' v w' h2 g2 λhq=>gx (hnq hq)
    ·have hnm:ij o.op=false:=by
      cases hm:ij o.op;·rfl
      ·exfalso;unfold ij at hm;split at hm;·rename_i he;unfold execOp at g1;rw[he]at g1;simp only at g1;rw[Sem.run_bind]at g1;cases hX:(Instr.makeSlice _ _ _).run P w<;>rw[hX]at g1<;>simp[Result.andThen]at g1
       ·rename_i he;unfold execOp at g1;rw[he]at g1;simp only at g1;rw[Sem.run_bind]at g1;cases hX:(Instr.alloc _ _ _).run P w<;>rw[hX]at g1<;>simp[Result.andThen]at g1
       ·rename_i he;unfold execOp at g1;rw[he]at g1;simp only at g1;rw[Sem.run_bind]at g1;cases hX:(Instr.box _ _).run P w<;>rw[hX]at g1<;>simp[Result.andThen]at g1
       ·rename_i he;unfold execOp at g1;rw[he]at g1;simp only at g1;rw[Sem.run_bind]at g1;cases hX:(Instr.buildSlice _ _ _).run P w<;>rw[hX]at g1<;>simp[Result.andThen]at g1
       ·cases hm
     unfold Oper.wp;rw[g1];exact hK U' E' undef w' h2 g2 λhq=>by rw[hnm]at hnq;exact absurd (hnq hq) (by simp)
def R.seen(h:R w0 lab0 oo n U E a w){t:Nat}(ht:t<n){b:Bool}(hb:U.slot t=.c (.bool b)):R w0 lab0 oo n (U.put t (.c (.bool b))) E a w/\a.tmps[t]? = some (.bool b):=by
 have hs:=h.slots t;rw[hb]at hs;have hbd:=h.bound;have hv:bT oo a t=.bool b:=hs;unfold bT at hv;rw[if_pos (by omega)]at hv;have hlt:t<a.tmps.size:=by rw[h.size];exact ht
 have hget:a.tmps[t]? = some (.bool b):=by rw[Array.getD_eq_getD_getElem?,Array.getElem?_eq_getElem hlt]at hv;rw[Array.getElem?_eq_getElem hlt];exact congrArg some hv
 refine⟨?_,hget⟩;have:=h.put (d:=t) (s:=.c (.bool b)) (v:=.bool b) ht rfl;have e:a.put (some t) (.bool b)=a:=by
  unfold Act.put;have:a.tmps.setIfInBounds t (.bool b)=a.tmps:=by
   apply Array.ext_getElem?;intro i;rw[Array.getElem?_setIfInBounds];by_cases e:t=i;·subst e;rw[if_pos rfl,if_pos hlt,hget]
   ·rw[if_neg e]
  simp only[this]
 rwa [e]at this
def qE(h:R w0 lab0 oo n U E a w)(hops:iz n ops=true){i:Nat}{o:Oper}(ho:ops[i]? = some o){F K:St->Option J}{r:J}(hr:iy ops o U F K=some r){G:Prop}
  (hF:∀U',R w0 lab0 oo n U' E a w->F U'=some r->Region.wanted o (yielded ops a.tmps)=true->G)
  (hK:∀U',R w0 lab0 oo n U' E (a.put o.dst undef) w->K U'=some r->Region.wanted o (yielded ops a.tmps)=false->G):G:=by
 have hd:=ew hops ho;unfold iy at hr;split at hr;·rename_i hg;exact hF U h hr (by simp[Region.wanted,hg])
 ·rename_i j want hg;split at hr
  ·rename_i t ht;have htn:t<n:=by
    unfold qx at ht;split at ht;·rename_i oj hoj;exact ew hops hoj t ht
    ·cases ht
   have hbind:(ops[j]?).bind (·.dst)=some t:=by
    unfold qx at ht;split at ht;·rename_i oj hoj;rw[hoj];exact ht
    ·cases ht
   split at hr
   ·rename_i b hb;obtain⟨h1,h2⟩:=h.seen htn hb;have hy:yielded ops a.tmps j=some b:=by unfold yielded;rw[hbind];simp[h2]
    have hw:Region.wanted o (yielded ops a.tmps)=(b == want):=by unfold Region.wanted;rw[hg];simp only[hy];cases b<;>cases want<;>rfl
    cases b<;>cases want
    ·exact hF _ h1 hr (by rw[hw];rfl)
    ·exact hK _ (h1.iput (s:=.tup []) hd ⟨#[],rfl,trivial⟩) hr (by rw[hw];rfl)
    ·exact hK _ (h1.iput (s:=.tup []) hd ⟨#[],rfl,trivial⟩) hr (by rw[hw];rfl)
    ·exact hF _ h1 hr (by rw[hw];rfl)
   ·rename_i l hb;have hs:=h.slots t;rw[hb]at hs;obtain⟨arr,hv,_⟩:=hs;have hbd:=h.bound;unfold bT at hv;rw[if_pos (by omega)]at hv;have hlt:t<a.tmps.size:=by rw[h.size];exact htn
    have hy:yielded ops a.tmps j=none:=by unfold yielded;rw[hbind];rw[Array.getD_eq_getD_getElem?,Array.getElem?_eq_getElem hlt]at hv;have hv:a.tmps[t]=.tuple arr:=hv;simp[Array.getElem?_eq_getElem hlt,hv]
    exact hK _ (h.iput (s:=.tup []) hd ⟨#[],rfl,trivial⟩) hr (by unfold Region.wanted;rw[hg];simp[hy])
   ·cases hr
  ·cases hr
def AG(h:R w0 lab0 oo n U E a w)(hops:iz n ops=true){i:Nat}{o:Oper}(ho:ops[i]? = some o){F K:St->Option J}{r:J}(hr:iy ops o U F K=some r){G:Prop}
  (hF:∀U',R w0 lab0 oo n U' E a w->(o.guard=none->U'=U)->F U'=some r->Region.wanted o (yielded ops a.tmps)=true->G)
  (hK:∀U',R w0 lab0 oo n U' E (a.put o.dst undef) w->K U'=some r->Region.wanted o (yielded ops a.tmps)=false->G):G:=by
 cases hg:o.guard with
 |none =>unfold iy at hr;rw[hg]at hr;exact hF U h (λ_=>rfl) hr (by simp[Region.wanted,hg])
 |some q=>exact qE h hops ho hr (λU' h' hF' hw=>hF U' h' (λhn=>by rw[hg]at hn;cases hn) hF' hw) hK
def jo{i:Nat}{o:Oper}(ho:ops[i]? = some o){next:Act->World->Prop}{Q:Exit->Act->World->Prop}(hw:Region.wanted o (yielded ops a.tmps)=true)(h:o.wp P a w next Q):wpOp P ops Q i next a w:=by unfold wpOp;rw[ho];simp only[hw,if_true];exact .inl h
def uA{i:Nat}{o:Oper}(ho:ops[i]? = some o){next:Act->World->Prop}{Q:Exit->Act->World->Prop}(hw:Region.wanted o (yielded ops a.tmps)=false)(h:next (a.put o.dst undef) w):wpOp P ops Q i next a w:=by unfold wpOp;rw[ho];simp only[hw];exact h
def AH(a:Act)(p:b7):Prop:=∀e k,p.el=some (e,k)->0<=k/\∃g m c,a.eval (.tmp p.d)=.slice (some ⟨g,0,none⟩) m c/\k<m/\a.eval (.tmp e)=.pointer (some ⟨g,k.toNat,none⟩)
def ey(U:St)(E:aD)(a:Act)(w:World)(pin:Option b7):Prop:=∀p,pin=some p->p.d<100000->(∃row,pX U E w p.r p.i p.f row (a.eval (.tmp p.d)))/\AH a p
def uB(hT:aK P T)(h:R w0 lab0 oo n U E a w){o:Oper}{p:b7}(hp:mN T U o=some p)(hd:∀d,o.dst=some d->d<n){c:Bool}{s:SV}(hv:bv T U o.op=some (c,s))(hc:c=true) :
  o.guard=none/\∃v,(execOp a.eval o).run P w=.ok (.value v) w/\aC U E w s v/\ey (cZ U o.dst s) E (a.put o.dst v) w (some p):=by
 obtain⟨v,h1,h2⟩:=ig hT h hv hc;have hbd:=h.bound;obtain⟨dst,op,oty,pos,after,guard⟩:=o;unfold mN at hp;simp only at hp hd h1 ⊢;split at hp
 ·rename_i t x d;split at hp
  ·rename_i r i f hx;split at hp
   ·rename_i row ti hrow ht;cases hq:(row.deep&&(ti.el.isSome&&!ti.agg));·rw[hq]at hp;cases hp
    rw[hq]at hp;injection hp with hp;subst hp;simp only[Bool.and_eq_true,Bool.not_eq_true']at hq;refine⟨rfl,v,h1,h2,λp hp hlt=>?_⟩;injection hp with hp;subst hp;have hdn:=hd d rfl;have rx:=aO h x;rw[hx]at rx;obtain⟨row',g,m,c',e1,e2,e3,e4,e5,e6⟩:=rx.c_inv;rw[hrow]at e1;injection e1 with e1;subst e1;refine⟨⟨row,hrow,hq.1,e3,e4,g,m,c',e2, ?_⟩,λe k he=>by cases he⟩;have hev:(a.put (some d) v).eval (.tmp d)=v:=by show(a.tmps.setIfInBounds d v).getD d undef=v;rw[lX _ _ _ _ (by rw[h.size];exact hdn),if_pos rfl]
    rw[hev];have hagg:=th hT ht w;rw[hq.2.2]at hagg;simp only[execOp,e6]at h1;obtain⟨u,hcl⟩:∃u,w.cell? ⟨g,i.toNat*row.t.nc+f,none⟩=some u:=by
     have hal:gf U (.elt r i f) 1=some (((cA row.t (row.xs.getD i.toNat row.t.dflt) (cond row.deep (some r) none)).drop f).take 1):=by simp only[gf,hrow];rw[show Nat.ble (f+1) row.t.nc=true from Nat.ble_eq_true_of_le (by omega)];rfl
     obtain⟨ad,vs,f',k1,k2,k3,_⟩:=oZ h hal rx.c_inv;rw[e6]at k1;injection k1 with k1;injection k1 with k1;exact⟨vs[f'],by rw[k1];exact k3 f' _ (List.getElem?_eq_getElem (by omega))⟩
    simp[Instr.loadAt,Instr.sureAddr,loadVar,hagg,hcl]at h1;rw[hcl,h1]
   ·cases hp
  ·cases hp
 ·cases hp
def AJ(hT:aK P T)(hΓ:iA P w0 lab0 Γ)(h:R w0 lab0 oo n U E a w){o:Oper}(hd:∀d,o.dst=some d->d<n){p:b7}{f:Nat}{args:List Operand}(hcall:kE U o.op=some (f,args))
  {en:aH} (hen:Γ.g f=some en) (hio:kG p.d (eo en.sig.ps args)=true) (hone:cr en.sig.ps=true) (hpin:ey U E a w (some p)) {K:St->Option J}{r:J} (hr:uv Γ N p f args o.dst U K=some r) {next:Act->World->Prop}{Q:Exit->Act->World->Prop}
  (hK:∀U' E' v w',K U'=some r->R w0 lab0 oo n U' E' (a.put o.dst v) w'->next (a.put o.dst v) w'):o.wp P a w next Q:=by
 cases hr
def uC(hT:aK P T)(h:R w0 lab0 oo n U E a w){o:Oper}{p:b7}{e:Nat}{k:Int}{t:Nat}{x:Operand}(hput:qt p o.op o.dst=some (e,k,t,x))(hpin:ey U E a w (some p)){K:St->Option J}{r:J}(hr:qy T p k t x U K=some r){next:Act->World->Prop}{Q:Exit->Act->World->Prop}
  (hK:∀U' E' v w',K U'=some r->R w0 lab0 oo n U' E' (a.put o.dst v) w'->next (a.put o.dst v) w'):o.wp P a w next Q:=by
 cases hr
def uD(hT:aK P T)(h:R w0 lab0 oo n U E a w){o:Oper}{p p':b7}(hp:qr T U p o.op o.dst=some p')(hd:∀d,o.dst=some d->d<n)(hpin:ey U E a w (some p)){c:Bool}{s:SV}(hv:bv T U o.op=some (c,s))(hc:c=true) :
  ∃v,(execOp a.eval o).run P w=.ok (.value v) w/\aC U E w s v/\ey (cZ U o.dst s) E (a.put o.dst v) w (some p'):=by
 cases hp
def jp(hT:aK P T)(hΓ:iA P w0 lab0 Γ)(hops:iz n ops=true){Q:Exit->Act->World->Prop}{K:St->Option J}{r:J}
  (hK:∀U' E' a' w',K U'=some r->R w0 lab0 oo n U' E' a' w'->Q .normal a' w') :
  ∀(is:List Nat) {pin:Option b7}{U:St}{E:aD}{a:Act}{w:World},R w0 lab0 oo n U E a w->ey U E a w pin->gv Γ T N ops is pin U K=some r->wpOps P ops Q is a w
 |[],pin,U,E,a,w,h,_,hr=>hK U E a w hr h
 |i::rest,pin,U,E,a,w,h,hpin,hr=>by
  have nopin:∀{U:St}{E:aD}{a:Act}{w:World},ey U E a w none:=λp hp=>by cases hp
  rw[wpOps_cons];simp only[gv]at hr;split at hr
  ·rename_i o ho;split at hr;·refine qE h hops ho hr (λU' h' hF hw=>jo ho hw ?_) (λU' h' hr' hw=>uA ho hw (jp hT hΓ hops hK rest h' nopin hr'));exact uz hT hΓ h' (ew hops ho) hF λσ2 E2 v w2 hr2 h2 _=>jp hT hΓ hops hK rest h2 nopin hr2
   ·rename_i p hm;split at hr
    ·rename_i c s hv;rw[qu,qv]at hr;cases c;·cases hr
     simp only[cond_true]at hr;obtain⟨hg,v,h1,h2,h3⟩:o.guard=none/\∃v,(execOp a.eval o).run P w=.ok (.value v) w/\aC U E w s v/\ey (cZ U o.dst s) E (a.put o.dst v) w (some p):=by
      unfold mP at hm;split at hm;·rename_i p' hp';injection hm with hm;subst hm;exact uB hT h hp' (ew hops ho) hv rfl
      ·split at hm;·cases hm
       ·rename_i p' ;split at hm;·cases hm
        ·rename_i hg;split at hm
         ·split at hm;·rename_i en _;cases hq:(kG p'.d (eo en.sig.ps _)&&cr en.sig.ps)<;>rw[hq]at hm<;>cases hm
          ·cases hm
         ·split at hm;·rename_i p2 hel;injection hm with hm;subst hm;obtain⟨v,h1,h2,h3⟩:=uD hT h hel (ew hops ho) hpin hv rfl;exact⟨hg,v,h1,h2,h3⟩
          split at hm;·cases hm
          cases hq:(fh o.op&&(fg p'.d o.dst&&gu p' o.dst));·rw[hq]at hm;cases hm
          rw[hq]at hm;injection hm with hm;subst hm;simp only[Bool.and_eq_true]at hq;obtain⟨v,h1,h2⟩:=ig hT h hv rfl;refine⟨hg,v,h1,h2,λp hp hlt=>?_⟩;obtain⟨⟨row,k1,k2,k3,k4,k5⟩,hE⟩:=hpin p hp hlt;injection hp with hp;subst hp;have keep:∀z,fg z o.dst=true->(a.put o.dst v).eval (.tmp z)=a.eval (.tmp z):=by
           intro z hz;cases hdst:o.dst with
           |none=>rfl
           |some e =>
            have he:=ew hops ho e hdst;rw[hdst]at hz;show(a.tmps.setIfInBounds e v).getD z undef=a.tmps.getD z undef;rw[lX _ _ _ _ (by rw[h.size];exact he),if_neg];rintro rfl
            simp[fg]at hz
          refine⟨⟨row,⟨?_,k2,k3,k4, ?_⟩⟩,λe k he=>?_⟩;rotate_left 2
          ·obtain⟨q1,g,m,c,q2,q3,q4⟩:=hE e k he;refine⟨q1,g,m,c,by rw[keep _ hq.2.1];exact q2,q3, ?_⟩;rw[keep _ (by have:=hq.2.2;unfold gu at this;rw[he]at this;exact this)];exact q4
          ·cases hdst:o.dst<;>exact k1
          ·rw[keep _ hq.2.1];exact k5
     refine jo ho (by simp[Region.wanted,hg]) ?_;unfold Oper.wp;rw[h1];exact jp hT hΓ hops hK rest (h.iput (ew hops ho) h2) h3 hr
    ·cases hr
   ·rename_i p f args hm;unfold mP at hm;split at hm;·cases hm
    ·split at hm;·cases hm
     ·rename_i p';split at hm;·cases hm
      ·rename_i hg;split at hm
       ·rename_i f' args' hcall;split at hm
        ·rename_i en hen;cases hq:(kG p'.d (eo en.sig.ps args')&&cr en.sig.ps);·rw[hq]at hm;cases hm
         rw[hq]at hm;injection hm with e1 e2 e3;subst e1 e2 e3;simp only[Bool.and_eq_true]at hq;refine jo ho (by simp[Region.wanted,hg]) ?_;exact AJ hT hΓ h (ew hops ho) hcall hen hq.1 hq.2 hpin hr λU' E' v w' hr' h'=>jp hT hΓ hops hK rest h' nopin hr'
        ·cases hm
       ·split at hm;·cases hm
        split at hm;·cases hm
        ·cases hq:(fh o.op&&(fg p'.d o.dst&&gu p' o.dst))<;>rw[hq]at hm<;>cases hm
   ·rename_i p e k t x hm;unfold mP at hm;split at hm;·cases hm
    ·split at hm;·cases hm
     ·rename_i p';split at hm;·cases hm
      ·rename_i hg;split at hm
       ·split at hm;·rename_i en _;cases hq:(kG p'.d (eo en.sig.ps _)&&cr en.sig.ps)<;>rw[hq]at hm<;>cases hm
        ·cases hm
       ·split at hm;·cases hm
        split at hm;·rename_i e1 k1 t1 x1 hput;injection hm with q1 q2 q3 q4 q5;subst q1 q2 q3 q4 q5;refine jo ho (by simp[Region.wanted,hg]) ?_;exact uC hT h hput hpin hr λU' E' v w' hr' h'=>jp hT hΓ hops hK rest h' nopin hr'
        ·cases hq:(fh o.op&&(fg p'.d o.dst&&gu p' o.dst))<;>rw[hq]at hm<;>cases hm
  ·cases hr
def NP(Q:Exit->Act->World->Prop):Prop:=∀c a a' w,Q (.panic c) a w->Q (.panic c) a' w
def qF{f:Nat->Bool}{i:Nat}:∀{l:List Nat},mQ f l=some i->i∈l/\f i=true
 |[],h=>by cases h
 |j::l,h=>by
  simp only[mQ]at h;cases hb:f j;·rw[hb]at h;exact⟨List.mem_cons_of_mem _ (qF h).1,(qF h).2⟩
  ·rw[hb]at h;injection h with h;subst h;exact⟨List.mem_cons_self,hb⟩
def uE(hT:aK P T)(h:R w0 lab0 oo n U E a w){o:Oper}{pin:Option b7}(hd:∀d,o.dst=some d->d<n)(hpin:o.guard=none->ey U E a w pin){c:Bool}{s:SV}(hv:bv T U o.op=some (c,s))(hc:c=true)
  {v:Value} (h1:(execOp a.eval o).run P w=.ok (.value v) w):ey (cZ U o.dst s) E (a.put o.dst v) w (qz T U o pin):=by
 have nopin:∀{U:St}{E:aD}{a:Act}{w:World},ey U E a w none:=λp hp=>by cases hp
 have same:∀{v'},(execOp a.eval o).run P w=.ok (.value v') w->v'=v:=λ{v'} h2=>by rw[h1]at h2;injection h2 with h2;injection h2 with h2;exact h2.symm
 unfold qz;split;·rename_i p hp;obtain⟨_,v',k1,_,k2⟩:=uB hT h hp hd hv hc;obtain rfl:=same k1;exact k2
 ·split
  ·rename_i p hg;have hpin:=hpin hg;split;·rename_i p' hp';obtain⟨v',k1,_,k2⟩:=uD hT h hp' hd hpin hv hc;obtain rfl:=same k1;exact k2
   ·cases hq:(fg p.d o.dst&&gu p o.dst);·exact nopin
    ·simp only[Bool.and_eq_true]at hq;intro p' hp' hlt;injection hp' with hp';subst hp';obtain⟨⟨row,k1,k2,k3,k4,k5⟩,hE⟩:=hpin p rfl hlt;have keep:∀z,fg z o.dst=true->(a.put o.dst v).eval (.tmp z)=a.eval (.tmp z):=by
      intro z hz;cases hdst:o.dst with
      |none=>rfl
      |some e =>
       have he:=hd e hdst;rw[hdst]at hz;show(a.tmps.setIfInBounds e v).getD z undef=a.tmps.getD z undef;rw[lX _ _ _ _ (by rw[h.size];exact he),if_neg];rintro rfl
       simp[fg]at hz
     refine⟨⟨row,⟨?_,k2,k3,k4, ?_⟩⟩,λe k he=>?_⟩;·cases hdst:o.dst<;>exact k1
     ·rw[keep _ hq.1];exact k5
     ·obtain⟨q1,g,m,c,q2,q3,q4⟩:=hE e k he;refine⟨q1,g,m,c,by rw[keep _ hq.1];exact q2,q3, ?_⟩;rw[keep _ (by have:=hq.2;unfold gu at this;rw[he]at this;exact this)];exact q4
  ·exact nopin
def gy(hT:aK P T)(hΓ:iA P w0 lab0 Γ)(hops:iz n ops=true)(hsel:Region.noSelect ops=true){Q:Exit->Act->World->Prop}(hQ:NP Q){K:St->Option J}{r:J}
  (hK:∀U' E' a' w',K U'=some r->R w0 lab0 oo n U' E' a' w'->Q .normal a' w') :
  ∀(fuel:Nat) (listed:Array Bool) {pin:Option b7}{U:St}{E:aD}{a:Act}{w:World},eZ ops listed->R w0 lab0 oo n U E a w->ey U E a w pin->fR Γ T N ops fuel listed pin U K=some r->dO P ops (gw Γ ops) Q fuel listed a w
 |0,listed,pin,U,E,a,w,hcl,h,hpin,hr=>by
  simp only[fR]at hr;cases hq:(Region.ready .any ops listed).isEmpty;·rw[hq]at hr;cases hr
  ·rw[hq]at hr;exact⟨by simpa using hq,hK U E a w hr h⟩
 |fuel+1,listed,pin,U,E,a,w,hcl,h,hpin,hr=>by
  have nopin:∀{U:St}{E:aD}{a:Act}{w:World},ey U E a w none:=λp hp=>by cases hp
  simp only[fR]at hr;split at hr;·rename_i hre;exact Al hre (hK U E a w hr h) _
  ·rename_i i0 rs hre;split at hr
   ·rename_i i hi;obtain⟨hmem,hfs⟩:=qF hi;rw[<-hre]at hmem;split at hr
    ·rename_i o ho;obtain⟨hfree,hH⟩:Region.free .any ops listed i=true/\gw Γ ops i=false:=by unfold ux at hfs;rw[ho]at hfs;simp only[Bool.and_eq_true,Bool.not_eq_true']at hfs;exact⟨hfs.2.1,hfs.2.2⟩
     refine AG h hops ho hr (λU' h' hsame hF hw=>?_) (λU' h' hr' hw=>?_)
     ·unfold uw at hF;split at hF
      ·rename_i c s hv;rw[qu,qv]at hF;cases hso:pI o.op s;·rw[hso]at hF;cases hF
       ·rw[hso]at hF;cases c;·cases hF
        ·cases hpo:ik o.op;·obtain⟨v,h1,h2⟩:=Ag hT h' hv rfl hso;exact tQ hH ho hpo hsel hcl hfree hmem (λc a' w' hq=>hQ c _ _ _ hq) (.inl ⟨hw,h1⟩) (gy hT hΓ hops hsel hQ hK fuel _ (hcl.put hmem) (h'.iput (ew hops ho) h2) (uE hT h' (ew hops ho) (λhg=>by have:=hsame hg;subst this;exact hpin) hv rfl (h1 w (ba.refl w))) hF)
         ·obtain⟨v,h1,h2⟩:=Ah hT h' hv rfl hpo;exact tR ho hsel hfree hmem (λc a' w' hq=>hQ c _ _ _ hq) (.inl ⟨hw,λw' _=>h1 w'⟩) (gy hT hΓ hops hsel hQ hK fuel _ (hcl.put hmem) (h'.iput (ew hops ho) h2) (uE hT h' (ew hops ho) (λhg=>by have:=hsame hg;subst this;exact hpin) hv rfl (h1 w)) hF)
      ·cases hF
     ·cases hpo:ik o.op;·exact tQ hH ho hpo hsel hcl hfree hmem (λc a' w' hq=>hQ c _ _ _ hq) (.inr ⟨hw,rfl⟩) (gy hT hΓ hops hsel hQ hK fuel _ (hcl.put hmem) h' nopin hr')
      ·exact tR ho hsel hfree hmem (λc a' w' hq=>hQ c _ _ _ hq) (.inr ⟨hw,rfl⟩) (gy hT hΓ hops hsel hQ hK fuel _ (hcl.put hmem) h' nopin hr')
    ·cases hr
   ·refine⟨(λhe=>by rw[hre]at he;cases he),λi hi=>?_⟩;rw[hre]at hi;have hr:=uq hr i hi;split at hr
    ·rename_i o ho;cases hq:(dR Γ o||fw ops (gw Γ ops) i);·rw[hq]at hr;cases hr
     ·rw[hq]at hr;simp only[cond_true]at hr;have hext:∀{w'},(dR Γ o=true->ba w w')->fw ops (gw Γ ops) i=false->ba w w':=λh1 h2=>h1 (by simpa[h2]using hq);split at hr
      ·rename_i p e k t x hput;cases hlb:fw ops (gw Γ ops) i;·rw[hlb]at hr;cases hr
       rw[hlb]at hr;simp only[cond_true]at hr;unfold uy at hput;split at hput
       ·rename_i p' hg;split at hput;·rename_i y hy;injection hput with hput;injection hput with q1 q2;subst q1 q2;refine jo ho (by simp[Region.wanted,hg]) ?_;exact uC hT h hy hpin hr λU' E' v w' hr' h'=>⟨(λhlf=>by cases hlf),gy hT hΓ hops hsel hQ hK fuel _ (hcl.put (by rw[hre];exact hi)) h' nopin hr'⟩
        ·cases hput
       ·cases hput
      refine qE h hops ho hr (λU' h' hF hw=>jo ho hw ?_) (λU' h' hr' hw=>uA ho hw ⟨λ_=>ba.refl w,gy hT hΓ hops hsel hQ hK fuel _ (hcl.put (by rw[hre];exact hi)) h' nopin hr'⟩);exact uz hT hΓ h' (ew hops ho) hF λσ2 E2 v w2 hr2 h2 h3=>⟨hext h3,gy hT hΓ hops hsel hQ hK fuel _ (hcl.put (by rw[hre];exact hi)) h2 nopin hr2⟩
    ·cases hr
def AK(hT:aK P T)(hΓ:iA P w0 lab0 Γ)(hm:P.follows .mixedOrders=true)(hops:iz n ops=true){Q:Exit->Act->World->Prop}(hQ:NP Q){K:St->Option J}{r:J}{id:Nat}{draw:Bool}
  (hK:∀U' E' a' w',K U'=some r->R w0 lab0 oo n U' E' a' w'->Q .normal a' w') (h:R w0 lab0 oo n U E a w) (hr:qA Γ T N ops draw U K=some r):(Code.region id ops draw).wp P Q a w:=by
 unfold qA at hr;cases draw;·exact wp_region (jp hT hΓ hops hK _ h (λp hp=>by cases hp) hr)
 ·simp only[cond_true]at hr;cases hsel:Region.noSelect ops;·rw[hsel]at hr;cases hr
  ·rw[hsel]at hr;refine wp_region_any hm (tO _ _ _ _ (gy hT hΓ hops hsel hQ hK _ _ eZ.none (h.ext ?_) (λp hp=>by cases hp) hr));exact⟨rfl,⟨rfl,λ_=>Nat.le_succ _⟩,rfl,Nat.le_refl _,λ_ _=>rfl⟩
end
def aw{α:Type}:List (Nat×α)->Nat->Option α
 |[],_=>none
 | (k,v)::l,t=>cond (Nat.beq t k) (some v) (aw l t)
structure dr where
 bx:Bool
 k:Nat
 i:Nat
structure kO where
 loc:dr
 nm:Nat
 e:Nat
 t:Ty
 deep:Bool
structure aa where
 slots:List Nat
 boxes:List Nat
 nils:List kO
 frz:List (dr×Nat×Ty)
 rows:List (dr×Nat)
def iB(U:St)(l:dr):Option ab :=
 cond l.bx (match U.box l.k with
  |some (_,cs)=>cs[l.i]?
  |none=>none)
 (match U.slot l.k with
  |.c x=>cond (Nat.beq l.i 0) (some x) none
  |.agg cs=>cs[l.i]?
  |.tup _=>none)
def mS(U:St)(l:dr)(c:ab):St :=
 cond l.bx (match U.box l.k with
  |some (te,cs)=>⟨U.slot,ak U.box l.k (some (te,cs.set l.i c)),U.row⟩
  |none=>U)
 (match U.slot l.k with
  |.c _=>U.put l.k (.c c)
  |.agg cs=>U.put l.k (.agg (cs.set l.i c))
  |.tup _=>U)
def qG(U:St)(d:kO):Option St:=match iB U d.loc with
 |some .nil=>match U.row d.nm with
  |none=>some (mS (U.withRow (ak U.row d.nm (some ⟨d.e,d.t,[],d.deep,true⟩))) d.loc (.own d.nm))
  |some _=>none
 |some (.own r)=>match U.row r with
  |some row=>match ml row d.deep with
   |some row'=>some { U with row:=ak U.row r (some row') }
   |none=>some U
  |none=>some U
 |_=>some U
def mT:List kO->St->Option St
 |[],U=>some U
 |d::ds,U=>match qG U d with
  |some U'=>mT ds U'
  |none=>none
def qH(U:St)(d:dr×Nat×Ty):Option St:=match iB U d.1 with
 |some (.own r)=>absorb r none U
 |some .nil=>some (mS U d.1 (.sn d.2.1 d.2.2 [] none))
 |_=>some U
def mU:List (dr×Nat×Ty)->St->Option St
 |[],U=>some U
 |d::ds,U=>match qH U d with
  |some U'=>mU ds U'
  |none=>none
def uF(U:St):List (dr×Nat)->Option (List (Nat×Nat))
 |[]=>some []
 | (l,q)::ls=>match iB U l,uF U ls with
  |some (.own r),some m=>some ((r,q)::m)
  |_,_=>none
def eJ(m:List (Nat×Nat))(f:Nat->ab)(r:Nat):ab:=match aw m r with
 |some q=>f q
 |none=>.undef
def dz(m:List (Nat×Nat))(bs:List Nat):ab->ab
 |.own r=>eJ m .own r
 |.part r lo n=>eJ m (λq=>.part q lo n) r
 |.elt r i f=>eJ m (λq=>.elt q i f) r
 |.sn e t xs (some r)=>eJ m (λq=>.sn e t xs (some q)) r
 |.full e t xs (some r)=>eJ m (λq=>.full e t xs (some q)) r
 |.selt t x (some r) f=>eJ m (λq=>.selt t x (some q) f) r
 |.box b f=>cond (aX b bs) (.box b f) .undef
 |.mp b=>cond (aX b bs) (.mp b) .undef
 |.fn f caps=>cond (caps.all λp=>aX p.1 bs) (.fn f caps) .undef
 |c=>c
def qI(q:Nat):Bool:=Nat.ble 1000000000 q
def iC(q:Nat)(row:ac):ac:=⟨row.e,row.t,row.xs,row.deep,qI q&&row.nilE⟩
def mV(U:St)(f:ab->ab):List Nat->Option (List (Nat×(Nat×List ab)))
 |[]=>some []
 |b::bs=>match U.box b,mV U f bs with
  |some (te,cs),some l=>some ((b,(te,cs.map f))::l)
  |_,_=>none
def jq(U:St):List (Nat×Nat)->Option (List (Nat×ac))
 |[]=>some []
 | (r,q)::m=>match U.row r,jq U m with
  |some row,some l=>some ((q,iC q row)::l)
  |_,_=>none
def dA(sl:List (Nat×SV))(t:Nat):SV:=match aw sl t with
 |some s=>s
 |none=>.c .undef
def am(sl:List (Nat×SV))(bx:List (Nat×(Nat×List ab)))(rw:List (Nat×ac)):St:=⟨dA sl,aw bx,aw rw⟩
def kP(U:St)(f:ab->ab):List Nat->List (Nat×SV)
 |[]=>[]
 |t::ts=>(t,(U.slot t).map f)::kP U f ts
def eA(cl:aa)(U:St):Option St:=match(mT cl.nils U).bind (mU cl.frz)with
 |some σ1=>match uF σ1 cl.rows with
  |some m=>cond (ck (m.map (·.1))&&ck (m.map (·.2))) (match mV σ1 (dz m cl.boxes) cl.boxes,jq σ1 m with
   |some bx,some rw=>some (am (kP σ1 (dz m cl.boxes) cl.slots) bx rw)
   |_,_=>none) none
  |none=>none
 |none=>none
section
variable {P : Program} {U U' : St} {E E' : aD} {w w' : World} {w0 : World} {lab0 : Nat → au} {oo : Nat → Value} {n : Nat} {a : Act} [DC]
def R.reslot(h:R w0 lab0 oo n U E a w){t:Nat}{s:SV}(hs:∀v,aC U E w (U.slot t) v->aC U E w s v):R w0 lab0 oo n (U.put t s) E a w:=by
 have m:bD U E w (U.put t s) E w:=bD.same rfl rfl;refine⟨h.bound,h.size,h.defers,λt'=>?_,λb te cs hb=>?_,h.rows,h.same⟩
 ·by_cases e:t'=t;·subst e;show aC _ _ _ (ak U.slot t' s t') _;rw[aJ];exact(hs _ (h.slots t')).move m
  ·show aC _ _ _ (ak U.slot t s t') _;rw[aM _ _ e];exact(h.slots t').move m
 ·obtain⟨arr,h1,h2,h3,h4⟩:=h.boxes b te cs hb;exact⟨arr,h1,h2,h3.imp λ_ _ h=>h.move m,h4⟩
def R.rebox(h:R w0 lab0 oo n U E a w){b te:Nat}{cs cs':List ab}(hb:U.box b=some (te,cs))(hl:cs'.length=cs.length)(hs:∀vs,ae (af U E w) cs vs->ae (af U E w) cs' vs) :
  R w0 lab0 oo n ⟨U.slot,ak U.box b (some (te,cs')),U.row⟩ E a w:=by
 have m:bD U E w ⟨U.slot,ak U.box b (some (te,cs')),U.row⟩ E w:=by
  refine⟨λr row h=>⟨row,h,rfl,rfl,Nat.le_refl _⟩,λb' te' cs0 hb'=>?_,λ_ _ _ h1 h2=>⟨h1,h2⟩,λ_ _ _ _ h=>h⟩;by_cases e:b'=b;·subst e;rw[hb]at hb';injection hb' with hb';injection hb' with e1 e2;subst e1 e2;exact⟨te,cs',aJ _ _ _,rfl,hl⟩
  ·exact⟨te',cs0,(aM _ _ e).trans hb',rfl,rfl⟩
 refine⟨h.bound,h.size,h.defers,λt'=>(h.slots t').move m,λb' te' cs0 hb'=>?_,h.rows,h.same⟩;by_cases e:b'=b;·subst e;have hb':ak U.box b' (some (te,cs')) b'=some (te',cs0):=hb';rw[aJ]at hb';injection hb' with hb';injection hb' with e1 e2;subst e1 e2;obtain⟨arr,h1,h2,h3,h4⟩:=h.boxes b' te cs hb;exact⟨arr,h1,h2,(hs _ h3).imp λ_ _ h=>h.move m,h4⟩
 ·have hb':ak U.box b (some (te,cs')) b'=some (te',cs0):=hb';rw[aM _ _ e]at hb';obtain⟨arr,h1,h2,h3,h4⟩:=h.boxes b' te' cs0 hb';exact⟨arr,h1,h2,h3.imp λ_ _ h=>h.move m,h4⟩
def ae.reset{Q:ab->Value->Prop}{c c':ab}(hs:∀v,Q c v->Q c' v):∀{cs:List ab}{vs:List Value}{i:Nat},cs[i]? = some c->ae Q cs vs->ae Q (cs.set i c') vs
 |[],_,_,h,_=>by simp at h
 |x::cs,[],_,_,h=>h.elim
 |x::cs,v::vs,0,h,h2=>by simp at h;subst h;exact⟨hs _ h2.1,h2.2⟩
 |x::cs,v::vs,i+1,h,h2=>⟨h2.1,ae.reset hs (by simpa using h) h2.2⟩
def R.resetAt(h:R w0 lab0 oo n U E a w){l:dr}{c c':ab}(hc:iB U l=some c)(hs:∀v,af U E w c v->af U E w c' v):R w0 lab0 oo n (mS U l c') E a w:=by
 obtain⟨bx,k,i⟩:=l;unfold iB at hc;unfold mS;cases bx
 ·simp only[cond_false]at hc ⊢;split at hc
  ·rename_i x hx;cases hi:Nat.beq i 0;·rw[hi]at hc;cases hc
   ·rw[hi]at hc;injection hc with hc;subst hc;exact h.reslot λv hv=>by rw[hx]at hv;exact hs v hv
  ·rename_i cs hx;refine h.reslot λv hv=>?_;rw[hx]at hv;obtain⟨arr,e,hv⟩:=hv;exact⟨arr,e,hv.reset hs hc⟩
  ·cases hc
 ·simp only[cond_true]at hc ⊢;split at hc;·rename_i te cs hx;exact h.rebox hx (by simp) λvs hv=>hv.reset hs hc
  ·cases hc
def AL(h:R w0 lab0 oo n U E a w){d:kO}(hr:qG U d=some U'):∃E',R w0 lab0 oo n U' E' a w:=by
 unfold qG at hr;split at hr
 ·rename_i hc;split at hr
  ·rename_i hfree;injection hr with hr;subst hr;have G:=h.nilRow (r:=d.nm) (e:=d.e) (t:=d.t) (deep:=d.deep) hfree;refine⟨_,R.resetAt (c:=.nil) G ?_ λv hv=>?_⟩;·exact hc
   ·obtain rfl:v=_:=hv;exact⟨(aJ _ _ _).symm,by show(ak U.row d.nm _ d.nm).isSome=true;rw[aJ];rfl,none,0,0,rfl⟩
  ·cases hr
 ·split at hr
  ·rename_i row hrow;split at hr;·rename_i row' hsh;injection hr with hr;subst hr;exact⟨E,(h.shal hrow hsh).2.2.2⟩
   ·injection hr with hr;subst hr;exact⟨E,h⟩
  ·injection hr with hr;subst hr;exact⟨E,h⟩
 ·injection hr with hr;subst hr;exact⟨E,h⟩
def uG:∀{ds:List kO}{U U':St}{E:aD},R w0 lab0 oo n U E a w->mT ds U=some U'->∃E',R w0 lab0 oo n U' E' a w
 |[],U,U',E,h,hr=>by injection hr with hr;subst hr;exact⟨E,h⟩
 |d::ds,U,U',E,h,hr=>by
  simp only[mT]at hr;split at hr;·rename_i σ1 h1;obtain⟨E1,g1⟩:=AL h h1;exact uG g1 hr
  ·cases hr
def AM(h:R w0 lab0 oo n U E a w){d:dr×Nat×Ty}(hr:qH U d=some U'):∃E',R w0 lab0 oo n U' E' a w:=by
 unfold qH at hr;split at hr;·rename_i r hc;obtain⟨lab',g,_⟩:=R.absorbs (p:=none) (qs:=[r]) (U':=U') h (by simp[Fw.absorbs,hr]) (λ_ h=>by cases h);exact⟨_,g⟩
 ·rename_i hc;injection hr with hr;subst hr;exact⟨E,h.resetAt hc λv hv=>by obtain rfl:v=_:=hv;exact⟨none,0,0,rfl,rfl,Nat.le_refl _,Nat.zero_le _,.inl rfl⟩⟩
 ·injection hr with hr;subst hr;exact⟨E,h⟩
def uH:∀{ds:List (dr×Nat×Ty)}{U U':St}{E:aD},R w0 lab0 oo n U E a w->mU ds U=some U'->∃E',R w0 lab0 oo n U' E' a w
 |[],U,U',E,h,hr=>by injection hr with hr;subst hr;exact⟨E,h⟩
 |d::ds,U,U',E,h,hr=>by
  simp only[mU]at hr;split at hr;·rename_i σ1 h1;obtain⟨E1,g1⟩:=AM h h1;exact uH g1 hr
  ·cases hr
def jr(m:List (Nat×Nat)):au->au
 |.row r=>match aw m r with
  |some q=>.row q
  |none=>.dead
 |.inn r=>match aw m r with
  |some q=>.inn q
  |none=>.dead
 |l=>l
def uI{m:List (Nat×Nat)}{p p':Option Nat}(h:(p=none/\p'=none)\/∃r q,p=some r/\p'=some q/\aw m r=some q):jr m (aV p)=aV p':=by
 rcases h with⟨rfl,rfl⟩|⟨r,q,rfl,rfl,h⟩;·rfl
 ·simp[aV,jr,h]
def R.ren(h:R w0 lab0 oo n U E a w){m:List (Nat×Nat)}{bs:List Nat}(hslot:∀t,U'.slot t=(U.slot t).map (dz m bs)\/U'.slot t=.c .undef)
  (hbox:∀b te cs,U'.box b=some (te,cs)->∃cs0,U.box b=some (te,cs0)/\cs=cs0.map (dz m bs))
  (hbox':∀b te cs,aX b bs=true->U.box b=some (te,cs)->U'.box b=some (te,cs.map (dz m bs)))
  (hrow:∀q row',U'.row q=some row'->∃r row,aw m r=some q/\U.row r=some row/\row'=iC q row)
  (hrow':∀r q row,aw m r=some q->U.row r=some row->U'.row q=some (iC q row))
  (inj:∀r r' q,aw m r=some q->aw m r'=some q->r=r'):∃E',R w0 lab0 oo n U' E' a w:=by
 classical
 let E':aD:=⟨λk=>jr m (E.lab k),λq=>if hq:∃r,aw m r=some q then E.rv hq.choose else undef,E.bb⟩;have hrv:∀r q,aw m r=some q->E'.rv q=E.rv r:=by intro r q hq;have hex:∃r,aw m r=some q:=⟨r,hq⟩;show(if hq:∃r,aw m r=some q then E.rv hq.choose else undef)=_;rw[dif_pos hex,inj _ _ _ hex.choose_spec hq]
 have hlab:∀k,E'.lab k=jr m (E.lab k):=λk=>rfl;have rd:∀{p p':Option Nat}{t:Ty}{cs:List Value}{x:t.den},((p=none/\p'=none)\/∃r q,p=some r/\p'=some q/\aw m r=some q)->Rd w (λk=>E.lab k=aV p) t cs x->Rd w (λk=>E'.lab k=aV p') t cs x:=by intro p p' t cs x hp hr;refine hr.mono λk hk=>?_;rw[hlab,hk];exact uI hp
 have selt:∀{p p':Option Nat}{t:Ty}{x:t.den}{f:Nat}{v:Value},((p=none/\p'=none)\/∃r q,p=some r/\p'=some q/\aw m r=some q)->af U E w (.selt t x p f) v->af U' E' w (.selt t x p' f) v:=by intro p p' t x f v hp hr;obtain⟨ad,cs,h1,h2,h3,h4,h5⟩:=hr;exact⟨ad,cs,h1,h2,by rw[hlab,h3];exact uI hp,rd hp h4,h5⟩
 have hc:∀c v,af U E w c v->af U' E' w (dz m bs c) v:=by
  intro c v hv;cases c with
  |undef=>trivial
  |int _ _=>exact hv
  |bool _=>exact hv
  |str _=>exact hv
  |err _=>exact hv
  |bor v0 e t xs=>exact⟨hv.1,rd (p:=none) (p':=none) (.inl ⟨rfl,rfl⟩) hv.2⟩
  |nil=>exact hv
  |sn e t xs p =>
   cases p with
   |none=>exact rd (p:=none) (p':=none) (.inl ⟨rfl,rfl⟩) hv
   |some r =>
    simp only[dz,eJ];split;·rename_i q hq;exact rd (p:=some r) (p':=some q) (.inr ⟨r,q,rfl,rfl,hq⟩) hv
    ·trivial
  |full e t xs p =>
   cases p with
   |none=>exact⟨rd (p:=none) (p':=none) (.inl ⟨rfl,rfl⟩) hv.1,hv.2⟩
   |some r =>
    simp only[dz,eJ];split;·rename_i q hq;exact⟨rd (p:=some r) (p':=some q) (.inr ⟨r,q,rfl,rfl,hq⟩) hv.1,hv.2⟩
    ·trivial
  |own r =>
   simp only[dz,eJ];split;·rename_i q hq;obtain⟨rfl,h1,h2⟩:=hv;obtain⟨row,hr⟩:=Option.isSome_iff_exists.1 h1;exact⟨(hrv r q hq).symm,by rw[hrow' r q row hq hr];rfl,h2⟩
   ·trivial
  |part r lo n =>
   simp only[dz,eJ];split;·rename_i q hq;obtain⟨row,A,c,h1,h2,h3,h4,h5,h6,h7,h8⟩:=hv;refine⟨iC q row,A,c,hrow' r q row hq h1,h2,h3,h4,h5,h6,h7,λhn=>?_⟩;rw[hrv r q hq];exact h8 hn
   ·trivial
  |box b f =>
   simp only[dz];cases hb:aX b bs;·trivial
   ·obtain⟨rfl,te,cs,h1,h2⟩:=hv;exact⟨rfl,te,_,hbox' b te cs hb h1,by simpa using h2⟩
  |mp b =>
   simp only[dz];cases hb:aX b bs;·trivial
   ·obtain⟨rfl,te,cs,h1⟩:=hv;exact⟨rfl,te,_,hbox' b te cs hb h1⟩
  |mset t xs=>exact hv
  |elt r i f =>
   simp only[dz,eJ];split;·rename_i q hq;obtain⟨row,g,n,c,h1,h2,h3,h4,h5,h6⟩:=hv;exact⟨iC q row,g,n,c,hrow' r q row hq h1,by rw[hrv r q hq];exact h2,h3,h4,h5,h6⟩
   ·trivial
  |selt t x p f =>
   cases p with
   |none=>exact selt (p:=none) (p':=none) (.inl ⟨rfl,rfl⟩) hv
   |some r =>
    simp only[dz,eJ];split;·rename_i q hq;exact selt (p:=some r) (p':=some q) (.inr ⟨r,q,rfl,rfl,hq⟩) hv
    ·trivial
  |fn f caps =>
   simp only[dz];cases hb:caps.all λp=>aX p.1 bs;·trivial
   ·obtain⟨rfl,hv⟩:=hv;refine⟨rfl,λp hp=>?_⟩;obtain⟨te,cs,h1,h2⟩:=hv p hp;exact⟨te,_,hbox' p.1 te cs (List.all_eq_true.1 hb p hp) h1,by simpa using h2⟩
 refine⟨E',h.bound,h.size,h.defers,λt=>?_,λb te cs hb=>?_,λq row' hq=>?_, ?_⟩
 ·rcases hslot t with e|e;·rw[e];exact(h.slots t).mapl hc
  ·rw[e];show aC U' E' w (.c .undef) (bT oo a t);exact True.intro
 ·obtain⟨cs0,h1,rfl⟩:=hbox b te cs hb;obtain⟨arr,k1,k2,k3,k4⟩:=h.boxes b te cs0 h1;exact⟨arr,k1,by rw[hlab,k2];rfl,k3.mapl hc,k4⟩
 ·obtain⟨r,row,h1,h2,rfl⟩:=hrow q row' hq;obtain⟨css,k1,k2,k3,k4⟩:=h.rows r row h2;rw[hrv r q h1];refine⟨css,k1,λk hk=>by rw[hlab,k2 k hk];simp[jr,h1], ?_,λh=>k4 (Bool.and_eq_true_iff.1 h).2⟩;show cond row.deep _ _;cases hd:row.deep;·rw[hd]at k3;exact ae.imp (λc y hy=>Rd.mono (λk hk=>(by rw[hlab,hk];rfl)) hy) (show ae (λc y=>Rd w (λk=>E.lab k=.st) row.t c y) css row.xs from k3)
  ·rw[hd]at k3;obtain⟨Ls,j1,j2,j3⟩:=k3;exact⟨Ls,j1,j2,λk hk=>by rw[hlab,j3 k hk];simp[jr,h1]⟩
 ·refine⟨h.same.os,h.same.tape,h.same.output,h.same.size,λk hk hl=>?_,λk hk hl=>?_⟩;·obtain⟨g1,g2⟩:=h.same.old k hk hl;exact⟨by rw[hlab,g1];rfl,g2⟩
  ·obtain⟨g1,g2⟩:=h.same.gone k hk hl;exact⟨by rw[hlab,g1];rfl,g2⟩
def jt{a b:Nat}:Nat.beq a b=true↔a=b:=⟨Nat.eq_of_beq_eq_true,λe=>by subst e;exact Nat.beq_refl a⟩
def c8{α:Type}:∀{l:List (Nat×α)}{t:Nat}{v:α},aw l t=some v->(t,v)∈l
 |[],_,_,h=>by cases h
 | (k,u)::l,t,v,h=>by
  simp only[aw]at h;cases hb:Nat.beq t k;·rw[hb]at h;exact List.mem_cons_of_mem _ (c8 h)
  ·rw[hb]at h;injection h with h;rw[<-h,jt.1 hb];exact List.mem_cons_self
def uJ{f:ab->ab}(t:Nat):∀ts:List Nat,aw (kP U f ts) t=some ((U.slot t).map f)\/aw (kP U f ts) t=none
 |[]=>.inr rfl
 |t'::ts=>by
  simp only[kP,aw];cases hb:Nat.beq t t';·exact uJ t ts
  ·rw[jt.1 hb];exact .inl rfl
def qJ{f:ab->ab}(b:Nat):∀{bs:List Nat}{l:List (Nat×(Nat×List ab))},mV U f bs=some l ->
  (∀te cs,aw l b=some (te,cs)->∃cs0,U.box b=some (te,cs0)/\cs=cs0.map f)/\(∀te cs,aX b bs=true->U.box b=some (te,cs)->aw l b=some (te,cs.map f))
 |[],l,h=>by injection h with h;subst h;exact⟨(λte cs h=>by cases h),λte cs h=>by cases h⟩
 |b'::bs,l,h=>by
  simp only[mV]at h;split at h
  ·rename_i te cs l' hb hl;injection h with h;subst h;obtain⟨g1,g2⟩:=qJ b hl;simp only[aw,aX];cases hq:Nat.beq b b';·exact⟨g1,λte cs hm=>g2 te cs (by simpa using hm)⟩
   ·obtain rfl:=jt.1 hq;refine⟨λte' cs' h'=>?_,λte' cs' _ h'=>?_⟩;·simp only[cond_true,Option.some.injEq,Prod.mk.injEq]at h';obtain⟨rfl,rfl⟩:=h';exact⟨cs,hb,rfl⟩
    ·rw[hb]at h';injection h' with h';injection h' with e1 e2;rw[e1,e2];rfl
  ·cases h
def uK(q:Nat):∀{m:List (Nat×Nat)}{l:List (Nat×ac)},jq U m=some l->∀row',aw l q=some row'->∃r row,(r,q)∈m/\U.row r=some row/\row'=iC q row
 |[],l,h,row',h'=>by injection h with h;subst h;cases h'
 | (r,q')::m,l,h,row',h'=>by
  simp only[jq]at h;split at h
  ·rename_i row l' hr hl;injection h with h;subst h;simp only[aw]at h';cases hb:Nat.beq q q';·rw[hb]at h';obtain⟨r',row2,k1,k2,k3⟩:=uK q hl row' h';exact⟨r',row2,List.mem_cons_of_mem _ k1,k2,k3⟩
   ·rw[hb]at h';injection h' with h';obtain rfl:=jt.1 hb;exact⟨r,row,List.mem_cons_self,hr,h'.symm⟩
  ·cases h
def uL{r q:Nat}{row:ac}(hrow:U.row r=some row):∀{m:List (Nat×Nat)}{l:List (Nat×ac)},jq U m=some l->(m.map (·.2)).Nodup->(r,q)∈m->aw l q=some (iC q row)
 |[],l,h,_,hm=>by cases hm
 | (r',q')::m,l,h,hn,hm=>by
  simp only[jq]at h;split at h
  ·rename_i row' l' hr hl;injection h with h;subst h;simp only[aw];simp only[List.map_cons,List.nodup_cons]at hn;rcases List.mem_cons.1 hm with e|hm;·injection e with e1 e2;subst e1 e2;rw[hr]at hrow;injection hrow with hrow;rw[Nat.beq_refl,hrow];rfl
   ·have hne:Nat.beq q q'=false:=by
     cases hb:Nat.beq q q';·rfl
     ·exact absurd (List.mem_map.2 ⟨(r,q),hm,jt.1 hb⟩) hn.1
    rw[hne];exact uL hrow hl hn.2 hm
  ·cases h
def AN{m:List (Nat×Nat)}(h:(m.map (·.2)).Nodup){r r' q:Nat}(h1:(r,q)∈m)(h2:(r',q)∈m):r=r':=by
 induction m with
 |nil=>cases h1
 |cons p m ih =>
  simp only[List.map_cons,List.nodup_cons]at h;rcases List.mem_cons.1 h1 with e|h1
  ·rcases List.mem_cons.1 h2 with e'|h2;·rw[<-e]at e';injection e' with e' _;exact e'.symm
   ·exact absurd (List.mem_map.2 ⟨_,h2,by rw[<-e]⟩) h.1
  ·rcases List.mem_cons.1 h2 with e'|h2;·exact absurd (List.mem_map.2 ⟨_,h1,by rw[<-e']⟩) h.1
   ·exact ih h.2 h1 h2
def AO{m:List (Nat×Nat)}{r q:Nat}(h:(r,q)∈m)(hn:(m.map (·.1)).Nodup):aw m r=some q:=by
 induction m with
 |nil=>cases h
 |cons p m ih =>
  obtain⟨k,u⟩:=p;simp only[List.map_cons,List.nodup_cons]at hn;simp only[aw];rcases List.mem_cons.1 h with e|h;·injection e with e1 e2;subst e1 e2;rw[Nat.beq_refl];rfl
  ·cases hb:Nat.beq r k;·exact ih h hn.2
   ·exact absurd (List.mem_map.2 ⟨_,h,jt.1 hb⟩) hn.1
def qL(h:R w0 lab0 oo n U E a w){cl:aa}(hr:eA cl U=some U'):∃E',R w0 lab0 oo n U' E' a w:=by
 unfold eA at hr;split at hr
 ·rename_i σ1 h1;obtain⟨σ2,h1,h2⟩:=Option.bind_eq_some_iff.1 h1;obtain⟨E2,G2⟩:=uG h h1;obtain⟨E1,G⟩:=uH G2 h2;split at hr
  ·rename_i m hm;cases hq:(ck (m.map (·.1))&&ck (m.map (·.2)))
   ·rw[hq]at hr;cases hr
   ·rw[hq]at hr;simp only[Bool.and_eq_true]at hq;simp only[cond_true]at hr;have n1:=eY hq.1;have n2:=eY hq.2;split at hr
    ·rename_i bx rw' hbx hrw;injection hr with hr;subst hr;refine G.ren (m:=m) (bs:=cl.boxes) (λt=>?_) (λb te cs hb=>?_) (λb te cs hm hb=>?_) (λq row' hq=>?_) (λr q row hl hrow=>?_) (λr r' q hl hl'=>?_)
     ·show dA _ t=_\/dA _ t=_;unfold dA;rcases uJ (U:=σ1) (f:=dz m cl.boxes) t cl.slots with e|e;·rw[e];exact .inl rfl
      ·rw[e];exact .inr rfl
     ·exact(qJ b hbx).1 te cs hb
     ·exact(qJ b hbx).2 te cs hm hb
     ·obtain⟨r,row,k1,k2,k3⟩:=uK q hrw row' hq;exact⟨r,row,AO k1 n1,k2,k3⟩
     ·exact uL hrow hrw n2 (c8 hl)
     ·exact AN n2 (c8 hl) (c8 hl')
    ·cases hr
  ·cases hr
 ·cases hr
end
inductive Ex where
 |nrm
 |exit (id:Nat)
 |ret
def AP:Ex->Exit
 |.nrm=>.normal
 |.exit id=>.exit id
 |.ret=>.ret
inductive bH where
 |n
 |mk (join:Option aa) (lp:Option aa) (a b:bH)
def bH.fst:bH->bH
 |.n=>.n
 |.mk _ _ a _=>a
def bH.snd:bH->bH
 |.n=>.n
 |.mk _ _ _ b=>b
def bH.join:bH->Option aa
 |.n=>none
 |.mk j _ _ _=>j
def bH.lp:bH->Option aa
 |.n=>none
 |.mk _ l _ _=>l
def mW:Option aa->St->Option St
 |none,U=>some U
 |some cl,U=>eA cl U
def mX(U:St)(l:dr):Bool:=match iB U l with
 |some (.own r)=>match U.row r with
  |some row=>row.nilE||Nat.blt 0 row.xs.length
  |none=>true
 |_=>true
def qM(U:St)(l:dr):St:=match iB U l with
 |some (.own r)=>match U.row r with
  |some row=>⟨U.slot,U.box,ak U.row r (some ⟨row.e,row.t,row.xs,row.deep,true⟩)⟩
  |none=>U
 |_=>U
def AQ:Option aa->List (dr×Nat)
 |none=>[]
 |some cl=>cl.rows
section
variable {J : Type}
def kQ(F:St->Option J):List (dr×Nat)->St->Option J
 |[],U=>F U
 | (l,q)::ls,U=>cond (qI q) (cond (mX U l) (kQ F ls (qM U l)) none) (kQ F ls U)
abbrev aq(j:Option aa)(K:Ex->St->Option J):Ex->St->Option J
 |.nrm,U=>(mW j U).bind (K .nrm)
 |.exit i,U=>K (.exit i) U
 |.ret,U=>K .ret U
abbrev bw(F:St->Option J)(K:Ex->St->Option J):Ex->St->Option J
 |.nrm,U=>F U
 |.exit i,U=>K (.exit i) U
 |.ret,U=>K .ret U
abbrev kR(id:Nat)(K:Ex->St->Option J):Ex->St->Option J
 |.nrm,U=>K .nrm U
 |.exit i,U=>cond (Nat.beq i id) (K .nrm U) (K (.exit i) U)
 |.ret,U=>K .ret U
def bg(f:St->(Ex->St->Option J)->Option J)(cl:aa):Nat->St->(Ex->St->Option J)->Option J
 |0,_,_=>none
 |N+1,U,K=>f U (aq (some cl) (bw (λU''=>bg f cl N U'' K) K))
noncomputable def ah(Γ:Gm)(T:aN)(B:Nat->Option aa)(N:Nat):Code->bH->St->(Ex->St->Option J)->Option J
 |.skip,_,U,K=>K .nrm U
 |.label _,_,U,K=>K .nrm U
 |.region _ ops draw,_,U,K=>qA Γ T N ops draw U (K .nrm)
 |.seq a b,pl,U,K=>ah Γ T B N a pl.fst U (aq pl.join (bw (λU'=>ah Γ T B N b pl.snd U' K) K))
 |.cond c a b,pl,U,K=>match ev U c with
  |.c (.bool t)=>cond t (ah Γ T B N a pl.fst U K) (ah Γ T B N b pl.snd U K)
  |_=>none
 |.block id c,pl,U,K=>ah Γ T B N c pl.fst U (aq pl.join (kR id K))
 |.loop c,pl,U,K=>match pl.lp with
  |some cl=>match pl.join with
   |none=>(eA cl U).bind λσ0=>bg (λU K=>ah Γ T B N c pl.fst U K) cl N σ0 K
   |some cl1=>(eA cl1 U).bind λσ0=>ah Γ T B N c pl.snd σ0 (aq (some cl) (bw (λU''=>bg (λU K=>ah Γ T B N c pl.fst U K) cl N U'' K) K))
  |none=>none
 |.exit id,_,U,K=>(mW (B id) U).bind (K (.exit id))
 |.ret,_,U,K=>kQ (λU=>(mW (B 1000000) U).bind (K .ret)) (AQ (B 1000000)) U
 |_,_,_,_=>none
end
def cT(n:Nat):Code->Bool
 |.region _ ops _=>iz n ops
 |.seq a b=>cT n a&&cT n b
 |.cond _ a b=>cT n a&&cT n b
 |.block _ c=>cT n c
 |.loop c=>cT n c
 |_=>true
section
variable {P : Program} {U U' : St} {E E' : aD} {w w' : World} {w0 : World} {lab0 : Nat → au} {oo : Nat → Value} {n : Nat} {a : Act} {T : aN} {Γ : Gm} {J : Type} {B : Nat → Option aa} {N : Nat} [DC]
def qN{p:Nat->Prop}(h:∃n,p n):∃n,p n/\∀m,p m->n<=m:=by
 classical
 obtain⟨n,hn⟩:=h;induction n using Nat.strongRecOn with
 |_ n ih =>
  by_cases hex:∃m,m<n/\p m;·obtain⟨m,h1,h2⟩:=hex;exact ih m h1 h2
  ·exact⟨n,hn,λm hm=>Nat.le_of_not_lt λhlt=>hex ⟨m,hlt,hm⟩⟩
noncomputable def fi{p:Nat->Prop}(h:∃n,p n):Nat:=(qN h).choose
def AR{p:Nat->Prop}(h:∃n,p n):p (fi h):=(qN h).choose_spec.1
def AS{p:Nat->Prop}(h:∃n,p n){m:Nat}(hm:p m):fi h<=m:=(qN h).choose_spec.2 m hm
def qO(h:R w0 lab0 oo n U E a w){cl:Option aa}(hr:mW cl U=some U'):∃E',R w0 lab0 oo n U' E' a w:=by
 cases cl with
 |none =>injection hr with hr;subst hr;exact⟨E,h⟩
 |some cl=>exact qL h hr
def AT(h:R w0 lab0 oo n U E a w){l:dr}(hc:mX U l=true):R w0 lab0 oo n (qM U l) E a w:=by
 have key:∀r row,U.row r=some row->(row.nilE||Nat.blt 0 row.xs.length)=true->R w0 lab0 oo n ⟨U.slot,U.box,ak U.row r (some ⟨row.e,row.t,row.xs,row.deep,true⟩)⟩ E a w:=by
  intro r row hrow' hc;have m:bD U E w ⟨U.slot,U.box,ak U.row r (some ⟨row.e,row.t,row.xs,row.deep,true⟩)⟩ E w:=by
   refine⟨λr' row1 h1=>?_,λb te cs hb=>⟨te,cs,hb,rfl,rfl⟩,λ_ _ _ h1 h2=>⟨h1,h2⟩,λ_ _ _ _ h=>h⟩;by_cases e:r'=r;·subst e;rw[hrow']at h1;injection h1 with h1;subst h1;exact⟨_,aJ _ _ _,rfl,rfl,Nat.le_refl _⟩
   ·exact⟨row1,(aM _ _ e).trans h1,rfl,rfl,Nat.le_refl _⟩
  refine⟨h.bound,h.size,h.defers,λt=>(h.slots t).move m,λb te cs hb=>?_,λr' row1 h1=>?_,h.same⟩;·obtain⟨arr,h1,h2,h3,h4⟩:=h.boxes b te cs hb;exact⟨arr,h1,h2,h3.imp λ_ _ h=>h.move m,h4⟩
  ·by_cases e:r'=r
   ·subst e;have h1':ak U.row r' (some ⟨row.e,row.t,row.xs,row.deep,true⟩) r'=some row1:=h1;rw[aJ]at h1';injection h1' with h1';subst h1';obtain⟨css,k1,k2,k3,k4⟩:=h.rows r' row hrow';refine⟨css,k1,k2,k3,λ_ hl=>?_⟩;have hl':row.xs.length=0:=hl;cases hn:row.nilE;·rw[hn,hl']at hc;cases hc
    ·exact k4 hn hl'
   ·have h1':ak U.row r (some ⟨row.e,row.t,row.xs,row.deep,true⟩) r'=some row1:=h1;rw[aM _ _ e]at h1';exact h.rows r' row1 h1'
 unfold qM;split
 ·rename_i r hr;split;·rename_i row hrow;refine key r row hrow ?_;unfold mX at hc;rw[hr]at hc;simp only[hrow]at hc;exact hc
  ·exact h
 ·exact h
def qP{F:St->Option J}{r:J}:∀{ls:List (dr×Nat)}{U:St}{E:aD},R w0 lab0 oo n U E a w->kQ F ls U=some r->∃U',R w0 lab0 oo n U' E a w/\F U'=some r
 |[],U,E,h,hr=>⟨U,h,hr⟩
 | (l,q)::ls,U,E,h,hr=>by
  simp only[kQ]at hr;cases hq:qI q;·rw[hq]at hr;exact qP h hr
  ·rw[hq]at hr;cases hc:mX U l;·rw[hc]at hr;cases hr
   ·rw[hc]at hr;exact qP (AT h hc) hr
def NP.then{Q:Exit->Act->World->Prop}(h:NP Q)(next:Act->World->Prop):NP (Exit.then next Q):=λc a a' w hq=>h c a a' w hq
def NP.block{Q:Exit->Act->World->Prop}(h:NP Q)(id:Nat):NP (Exit.inBlock id Q):=λc a a' w hq=>h c a a' w hq
def eB(w0:World)(lab0:Nat->au)(oo:Nat->Value)(n:Nat)(K:Ex->St->Option J)(r:J)(Q:Exit->Act->World->Prop):Prop :=
 ∀e U' E' a' w',K e U'=some r->R w0 lab0 oo n U' E' a' w'->Q (AP e) a' w'
def eB.join{K:Ex->St->Option J}{r:J}{Q:Exit->Act->World->Prop}(h:eB w0 lab0 oo n K r Q)(j:Option aa):eB w0 lab0 oo n (aq j K) r Q:=by
 intro e U' E' a' w' hr hR;cases e with
 |nrm =>obtain⟨σ2,h1,h2⟩:=Option.bind_eq_some_iff.1 hr;obtain⟨E2,g⟩:=qO hR h1;exact h .nrm σ2 E2 a' w' h2 g
 |exit i=>exact h (.exit i) U' E' a' w' hr hR
 |ret=>exact h .ret U' E' a' w' hr hR
def eK(hT:aK P T)(hΓ:iA P w0 lab0 Γ)(hm:P.follows .mixedOrders=true):∀(c:Code) (pl:bH) {U:St}{E:aD}{a:Act}{w:World}{K:Ex->St->Option J}{r:J}{Q:Exit->Act->World->Prop},
  cT n c=true->R w0 lab0 oo n U E a w->ah Γ T B N c pl U K=some r->NP Q->eB w0 lab0 oo n K r Q->c.wp P Q a w
 |.skip,pl,U,E,a,w,K,r,Q,_,h,hr,_,hK=>wp_skip (hK .nrm U E a w hr h)
 |.label l,pl,U,E,a,w,K,r,Q,_,h,hr,_,hK=>wp_label (hK .nrm U E a w hr h)
 |.region id ops draw,pl,U,E,a,w,K,r,Q,hc,h,hr,hQ,hK=>AK hT hΓ hm hc hQ (λU' E' a' w' hr' h'=>hK .nrm U' E' a' w' hr' h') h hr
 |.seq x y,pl,U,E,a,w,K,r,Q,hc,h,hr,hQ,hK=>by
  simp only[cT,Bool.and_eq_true]at hc;refine wp_seq (eK hT hΓ hm x pl.fst hc.1 h hr (hQ.then _) (eB.join ?_ _));intro e U' E' a' w' hr' h';cases e with
  |nrm=>exact eK hT hΓ hm y pl.snd hc.2 h' hr' hQ hK
  |exit i=>exact hK (.exit i) U' E' a' w' hr' h'
  |ret=>exact hK .ret U' E' a' w' hr' h'
 |.cond c x y,pl,U,E,a,w,K,r,Q,hc,h,hr,hQ,hK=>by
  simp only[cT,Bool.and_eq_true]at hc;simp only[ah]at hr;split at hr
  ·rename_i t ht;have hv:=aO h c;rw[ht]at hv;cases t;·exact wp_cond_false hv (eK hT hΓ hm y pl.snd hc.2 h hr hQ hK)
   ·exact wp_cond_true hv (eK hT hΓ hm x pl.fst hc.1 h hr hQ hK)
  ·cases hr
 |.block id c,pl,U,E,a,w,K,r,Q,hc,h,hr,hQ,hK=>by
  refine wp_block (eK hT hΓ hm c pl.fst hc h hr (hQ.block id) (eB.join ?_ _));intro e U' E' a' w' hr' h';cases e with
  |nrm=>exact hK .nrm U' E' a' w' hr' h'
  |exit i =>
   show if i=id then Q .normal a' w' else Q (.exit i) a' w'
   simp only[kR]at hr';cases hb:Nat.beq i id;·rw[hb]at hr';rw[if_neg λe=>by subst e;rw[Nat.beq_refl]at hb;cases hb];exact hK (.exit i) U' E' a' w' hr' h'
   ·rw[hb]at hr';rw[if_pos (Nat.eq_of_beq_eq_true hb)];exact hK .nrm U' E' a' w' hr' h'
  |ret=>exact hK .ret U' E' a' w' hr' h'
 |.loop c,pl,U,E,a,w,K,r,Q,hc,h,hr,hQ,hK=>by
  simp only[ah]at hr;split at hr
  ·rename_i cl hcl
   classical
   let F:Nat->St->Option J:=λM U=>bg (λU K=>ah Γ T B N c pl.fst U K) cl M U K;let At:Nat->Act->World->Prop:=λM a w=>(∃U E,R w0 lab0 oo n U E a w/\F M U=some r) \/
    (M=N+1/\∃U E,R w0 lab0 oo n U E a w/\ah Γ T B N c pl.snd U (aq (some cl) (bw (F N) K))=some r)
   have hstart:∃M,At M a w:=by
    split at hr;·obtain⟨σ0,h1,h2⟩:=Option.bind_eq_some_iff.1 hr;obtain⟨E0,g⟩:=qL h h1;exact⟨N,.inl ⟨σ0,E0,g,h2⟩⟩
    ·obtain⟨σ0,h1,h2⟩:=Option.bind_eq_some_iff.1 hr;obtain⟨E0,g⟩:=qL h h1;exact⟨N+1,.inr ⟨rfl,σ0,E0,g,h2⟩⟩
   refine wp_loop (I:=λa w=>∃M,At M a w) (μ:=λa w=>if hex:∃M,At M a w then fi hex else 0) hstart ?_;intro a w hI;have hμ:(if hex:∃M,At M a w then fi hex else 0)=fi hI:=dif_pos hI;simp only[hμ];have next:∀M U' E' a' w',M<fi hI->F M U'=some r->R w0 lab0 oo n U' E' a' w'->(∃M,At M a' w')/\(if hex:∃M,At M a' w' then fi hex else 0)<fi hI:=by intro M U' E' a' w' hM hr' h';have hA:At M a' w':=.inl ⟨U',E',h',hr'⟩;refine⟨⟨M,hA⟩, ?_⟩;have hμ':(if hex:∃M,At M a' w' then fi hex else 0)=fi (⟨M,hA⟩:∃M,At M a' w'):=dif_pos ⟨M,hA⟩;rw[hμ'];have:=AS (⟨M,hA⟩:∃M,At M a' w') hA;omega
   rcases AR hI with⟨σ1,E1,g1,hr1⟩|⟨hM,σ1,E1,g1,hr1⟩
   ·generalize hM:fi hI=M at hr1 next
    cases M with
    |zero=>cases hr1
    |succ M =>
     simp only[F,bg]at hr1;refine eK hT hΓ hm c pl.fst hc g1 hr1 (hQ.then _) (eB.join ?_ _);intro e U' E' a' w' hr' h';cases e with
     |nrm=>exact next M U' E' a' w' (Nat.lt_succ_self M) hr' h'
     |exit i=>exact hK (.exit i) U' E' a' w' hr' h'
     |ret=>exact hK .ret U' E' a' w' hr' h'
   ·refine eK hT hΓ hm c pl.snd hc g1 hr1 (hQ.then _) (eB.join ?_ _);intro e U' E' a' w' hr' h';cases e with
    |nrm=>exact next N U' E' a' w' (by omega) hr' h'
    |exit i=>exact hK (.exit i) U' E' a' w' hr' h'
    |ret=>exact hK .ret U' E' a' w' hr' h'
  ·cases hr
 |.exit id,pl,U,E,a,w,K,r,Q,_,h,hr,_,hK=>by obtain⟨σ2,h1,h2⟩:=Option.bind_eq_some_iff.1 hr;obtain⟨E2,g⟩:=qO h h1;exact wp_exit (hK (.exit id) σ2 E2 a w h2 g)
 |.ret,pl,U,E,a,w,K,r,Q,_,h,hr,_,hK=>by obtain⟨σ1,h,hr⟩:=qP h hr;obtain⟨σ2,h1,h2⟩:=Option.bind_eq_some_iff.1 hr;obtain⟨E2,g⟩:=qO h h1;exact wp_ret (hK .ret σ2 E2 a w h2 g)
 |.rangeFunc _ _ _ _,_,_,_,_,_,_,_,_,_,_,hr,_,_=>by cases hr
 |.scope _,_,_,_,_,_,_,_,_,_,_,hr,_,_=>by cases hr
 |.goto _,_,_,_,_,_,_,_,_,_,_,hr,_,_=>by cases hr
 |.refuse _,_,_,_,_,_,_,_,_,_,_,hr,_,_=>by cases hr
end
def gz(agg:Bool)(cs:List ab):SV:=match agg,cs with
 |true,cs=>.agg cs
 |false,[c]=>.c c
 |false,_=>.c .undef
def dI:(ps:List PT)->aj ps->Nat->List (Nat×SV)×List (Nat×ac)
 |[],_,_=>([],[])
 |⟨t,agg,io⟩::ps,X,i=>match io with
  |false=>((i,gz agg (cA t X.1 none))::(dI ps X.2 (i+1)).1,(dI ps X.2 (i+1)).2)
  |true=>match aB (100000+i) t X.1 0 with
   | (cs,rows,_)=>((i,gz agg cs)::(100000+i,gz agg cs)::(dI ps X.2 (i+1)).1,rows)
def aU(ps:List PT)(X:aj ps):St:=am (dI ps X 0).1 [] (dI ps X 0).2
def fz(T:aN)(U:St):List ResultVar->Option (List SV)
 |[]=>some []
 |.tmp t::rs=>match fz T U rs with
  |some l=>some (ev U (.tmp t)::l)
  |none=>none
 |.cell x ty::rs=>match ev U (.tmp x),T ty,fz T U rs with
  |.c c,some i,some l=>match kb U c i.agg i.zero.length with
   |some s=>some (s::l)
   |none=>none
  |_,_,_=>none
def ju(look:Nat->Option ac):(rs:List PT)->List SV->Option (aj rs)
 |[],[]=>some ()
 |p::ps,s::ss=>match dQ p.agg s with
  |some cs=>cE (ci look p.t cs) (ju look ps ss)
  |none=>none
 |[],_::_=>none
 |_::_,[]=>none
def eL:List PT->List SV->List ab
 |p::ps,s::ss=>(match dQ p.agg s with|some cs=>cs|none=>[])++eL ps ss
 |_,_=>[]
def kS(U:St):(ps:List PT)->Nat->Option (bM ps)
 |[],_=>some ()
 |⟨t,agg,false⟩::ps,i=>kS U ps (i+1)
 |⟨t,agg,true⟩::ps,i=>match dQ agg (U.slot (100000+i))with
  |some cs=>ci U.row t cs
  |none=>none
def iD(U:St):(ps:List PT)->Nat->List ab
 |[],_=>[]
 |⟨t,agg,false⟩::ps,i=>iD U ps (i+1)
 |⟨t,agg,true⟩::ps,i=>match dQ agg (U.slot (100000+i))with
  |some cs=>cs
  |none=>[]
def kT(look:Nat->Option ac):List ab->Bool
 |[.nil]=>true
 |[.own r]=>match look r with
  |some row=>row.nilE||Nat.blt 0 row.xs.length
  |none=>false
 |_=>false
def eM{α:Type}(look:Nat->Option ac):List PT->List SV->Option α->Option α
 |p::ps,s::ss,X=>cond p.io (match dQ p.agg s with
  |some cs=>cond (kT look cs) (eM look ps ss X) none
  |none=>none) (eM look ps ss X)
 |[],_,X=>X
 |_::_,[],X=>X
def qQ(look:Nat->Option ac):List PT->List SV->Prop
 |p::ps,s::ss=>(p.io=true->∀cs,dQ p.agg s=some cs->kT look cs=true)/\qQ look ps ss
 |[],_=>True
 |_::_,[]=>True
def kU{α:Type}{look:Nat->Option ac}{r:α}:∀{rs:List PT}{ss:List SV}{X:Option α},eM look rs ss X=some r->qQ look rs ss/\X=some r
 |[],_,_,h=>⟨trivial,h⟩
 |_::_,[],_,h=>⟨trivial,h⟩
 |p::ps,s::ss,X,h=>by
  simp only[eM]at h;cases hio:p.io;·rw[hio]at h;obtain⟨h1,h2⟩:=kU (show eM look ps ss X=some r from h);exact⟨⟨(λhq=>by rw[hio]at hq;cases hq),h1⟩,h2⟩
  ·rw[hio]at h;simp only[cond_true]at h;split at h
   ·rename_i cs hcs;cases hq:kT look cs;·rw[hq]at h;cases h
    rw[hq]at h;obtain⟨h1,h2⟩:=kU (show eM look ps ss X=some r from h);exact⟨⟨λ_ cs' hcs'=>by rw[hcs]at hcs';injection hcs' with hcs';subst hcs';exact hq,h1⟩,h2⟩
   ·cases h
def mY(T:aN)(sig:aR)(rv:List ResultVar)(U:St):Option (bM sig.ps×aj sig.rs) :=
 match fz T U rv with
 |some ss=>cond (ck (ay (eL sig.rs ss++iD U sig.ps 0))) (eM U.row sig.rs ss (cE (kS U sig.ps 0) (ju U.row sig.rs ss))) none
 |none=>none
def qR(T:aN)(sig:aR)(rv:List ResultVar):Ex->St->Option (bM sig.ps×aj sig.rs)
 |.nrm,U=>mY T sig rv U
 |.ret,U=>mY T sig rv U
 |.exit _,_=>none
section
variable {P : Program} {U U' : St} {E E' : aD} {w w' : World} {w0 : World} {lab0 : Nat → au} {oo : Nat → Value} {n : Nat} {a : Act} {T : aN} {Γ : Gm} {B : Nat → Option aa} {N : Nat} [DC]
def kV{agg:Bool}{cs:List ab}{us:List Value}{v:Value}(hc:dH agg v us)(h:ae (af U E w) cs us):aC U E w (gz agg cs) v:=by
 cases agg
 ·obtain rfl:us=[v]:=hc;cases cs with
  |nil=>exact True.intro
  |cons c cs=>cases cs with
   |nil=>exact h.1
   |cons _ _=>exact True.intro
 ·obtain⟨arr,rfl,rfl⟩:=hc;exact⟨arr,rfl,h⟩
def kW{α:Type}:∀{l l':List (Nat×α)}{t:Nat},aw (l++l') t=match aw l t with|some v=>some v|none=>aw l' t
 |[],_,_=>rfl
 | (k,v)::l,l',t=>by
  simp only[List.cons_append,aw];cases Nat.beq t k;·exact kW
  ·rfl
def qS(d:Nat)(t:Ty):∀(y:t.den) (j:Nat),∀p∈(aB d t y j).2.1,aw (aB d t y j).2.1 p.1=some p.2:=by
 induction t with
 |int k=>intro y j p hp;simp[aB]at hp
 |bool=>intro y j p hp;simp[aB]at hp
 |fnc g=>intro y j p hp;simp[aB]at hp
 |str=>intro y j p hp;simp[aB]at hp
 |err=>intro y j p hp;simp[aB]at hp
 |sl e t _ =>intro y j p hp;simp only[aB,List.mem_singleton]at hp;subst hp;simp[aB,aw]
 |pair t1 t2 ih1 ih2 =>
  intro y j p hp;simp only[aB,List.mem_append]at hp ⊢;rw[kW];rcases hp with hp|hp;·rw[ih1 _ _ p hp]
  ·cases hl:aw (aB d t1 y.1 j).2.1 p.1 with
   |none=>exact ih2 _ _ p hp
   |some v =>have h1:=(ej d).2 _ (c8 hl);have h2:=(ej d).2 p hp;obtain⟨i1,_,a1,b1⟩:=h1;obtain⟨i2,a2,_,b2⟩:=h2;have:=ip (b1.symm.trans b2);exact absurd (Nat.lt_of_lt_of_le a1 a2) (by rw[this];exact Nat.lt_irrefl _)
def AU{L:List Nat}:∀{ps:List PT}{vs:List Value}{X:aj ps}{i:Nat},cL w L ps vs X->(bi ps=true->L=[])->cr ps=true->L.Nodup ->
  ∃(f:Nat->au) (rvf:Nat->Value),(∀k∈L,f k≠.st) /\
   ∀(U:St) (E:aD),(∀k,k∈L->E.lab k=f k)->(∀k,k∉L->E.lab k=.st)->E.rv=rvf->(∀r row,aw (dI ps X i).2 r=some row->U.row r=some row) ->
    (∀p∈(dI ps X i).1,∃j v,vs[j]? = some v/\(p.1=i+j\/p.1=100000+(i+j))/\aC U E w p.2 v) /\
    (∀r row,aw (dI ps X i).2 r=some row->bc w E.lab r row (E.rv r)):=by
 intro ps;have ro:∀{p:PT}{v:Value}{x:p.t.den}{U:St}{E:aD},(∃cs,dH p.agg v cs/\Rd w (λk=>k∉L) p.t cs x)->(∀k,k∉L->E.lab k=.st)->aC U E w (gz p.agg (cA p.t x none)) v:=by
  rintro p v x U E ⟨cs,h1,h2⟩ hl
  exact kV h1 (hD (p:=none) (h2.mono λk hk=>hl k hk))
 have ros:∀{ps:List PT}{vs:List Value}{X:aj ps}{i:Nat},bi ps=true->cL w L ps vs X->(dI ps X i).2=[]/\∀(U:St) (E:aD),(∀k,k∉L->E.lab k=.st)->∀p∈(dI ps X i).1,∃j v,vs[j]? = some v/\(p.1=i+j\/p.1=100000+(i+j))/\aC U E w p.2 v:=by
  intro ps;induction ps with
  |nil=>intro vs X i _ _;exact⟨rfl,λU E _ p hp=>by simp[dI]at hp⟩
  |cons p ps ih =>
   intro vs X i hn ha;cases vs with
   |nil=>exact ha.elim
   |cons v vs =>
    obtain⟨t,agg,io⟩:=p;simp only[bi,List.all_cons,Bool.and_eq_true,Bool.not_eq_true']at hn;obtain⟨hio,hn⟩:=hn;subst hio;obtain⟨h1,h2⟩:=ha;obtain⟨g1,g2⟩:=ih (i:=i+1) hn h2;refine⟨g1,λU E hl p hp=>?_⟩;rcases List.mem_cons.1 hp with rfl|hp;·exact⟨0,v,rfl,.inl rfl,ro (p:=⟨t,agg,false⟩) h1 hl⟩
    ·obtain⟨j,v',k1,k2,k3⟩:=g2 U E hl p hp;exact⟨j+1,v',(by simpa using k1),k2.elim (λe=>.inl (by omega)) (λe=>.inr (by omega)),k3⟩
 induction ps with
 |nil =>intro vs X i ha hn ho hL;have hL0:=hn rfl;subst hL0;refine⟨λ_=>.dead,λ_=>undef,(λk hk=>by cases hk),λU E _ _ _ _=>⟨λp hp=>by simp[dI]at hp,λr row hr=>by simp[dI,aw]at hr⟩⟩
 |cons p ps ih =>
  intro vs X i ha hn ho hL;cases vs with
  |nil=>exact ha.elim
  |cons v vs =>
   obtain⟨t,agg,io⟩:=p;obtain⟨h1,h2⟩:=ha;cases io
   ·obtain⟨f,rvf,k1,k2⟩:=ih (i:=i+1) h2 (λhq=>hn (by simpa[bi]using hq)) ho hL;refine⟨f,rvf,k1,λU E e1 e2 e3 e4=>?_⟩;obtain⟨g1,g2⟩:=k2 U E e1 e2 e3 e4;refine⟨λp hp=>?_,g2⟩;rcases List.mem_cons.1 hp with rfl|hp;·exact⟨0,v,rfl,.inl rfl,ro (p:=⟨t,agg,false⟩) h1 e2⟩
    ·obtain⟨j,v',k1,k2,k3⟩:=g1 p hp;exact⟨j+1,v',(by simpa using k1),k2.elim (λe=>.inl (by omega)) (λe=>.inr (by omega)),k3⟩
   ·obtain⟨cs,hcv,hown⟩:=h1;have hown:ax w t L cs X.1:=hown;obtain⟨f,rvf,k1,k2⟩:=iq (100000+i) (j:=0) hown hL;obtain⟨r1,r2⟩:=ros (i:=i+1) ho h2;have hrows:(dI (⟨t,agg,true⟩::ps) X i).2=(aB (100000+i) t X.1 0).2.1:=rfl;refine⟨f,rvf,λk hk=>?_,λU E e1 e2 e3 e4=>?_⟩;·obtain⟨i',_,_,hf⟩:=k1 k hk;rcases hf with hf|hf<;>rw[hf]<;>simp
    ·rw[hrows]at e4;have hmem:∀p∈(aB (100000+i) t X.1 0).2.1,aw (aB (100000+i) t X.1 0).2.1 p.1=some p.2:=qS _ _ _ _;obtain⟨g1,g2⟩:=k2 U E e1 (λp hp=>by rw[e3]) (λp hp=>e4 _ _ (hmem p hp));refine⟨λp hp=>?_,λr row hr=>?_⟩
     ·rcases List.mem_cons.1 hp with rfl|hp;·exact⟨0,v,rfl,.inl rfl,kV hcv g1⟩
      rcases List.mem_cons.1 hp with rfl|hp;·exact⟨0,v,rfl,.inr rfl,kV hcv g1⟩
      ·obtain⟨j,v',k1,k2,k3⟩:=r2 U E e2 p hp;exact⟨j+1,v',(by simpa using k1),k2.elim (λe=>.inl (by omega)) (λe=>.inr (by omega)),k3⟩
     ·rw[hrows]at hr;exact g2 (r,row) (c8 hr)
def qT{sl:List (Nat×SV)}{σ0:St}{v:Value}{t:Nat}(h:∀p∈sl,p.1=t->aC σ0 E w p.2 v):aC σ0 E w (dA sl t) v:=by
 unfold dA;split;·rename_i s hs;exact h _ (c8 hs) rfl
 ·exact(show af σ0 E w .undef v from True.intro)
def fS(ts:Array Value):ResultVar->Sem Value
 |.tmp t=>pure (ts.getD t undef)
 |.cell x t=>do loadVar t (<-asAddr (ts.getD x undef))
def AV(fn:Func)(ts:Array Value):results fn ts=(do let vs <-fn.results.mapM (fS ts);pure (if h:vs.size=1 then vs[0]else .tuple vs)):=by
 unfold results;have:(λx:ResultVar=>match x with
  |.tmp t=>pure (ts.getD t undef)
  |.cell x t=>do loadVar t (<-asAddr (ts.getD x undef)))=fS ts:=by
  funext x;cases x<;>rfl
 rw[<-this];rfl
def kX(hT:aK P T)(h:R w0 lab0 oo n U E a w):∀{rv:List ResultVar}{ss:List SV},fz T U rv=some ss ->
  ∃vs:List Value,ae (aC U E w) ss vs/\(rv.mapM (fS a.tmps)).run P w=.ok vs w:=by
 intro rv;induction rv with
 |nil =>intro ss hr;injection hr with hr;subst hr;exact⟨[],trivial,by simp⟩
 |cons r rv ih =>
  intro ss hr;cases r with
  |tmp t =>
   simp only[fz]at hr;split at hr;·rename_i l hl;injection hr with hr;subst hr;obtain⟨vs,h1,h3⟩:=ih hl;refine⟨a.eval (.tmp t)::vs,⟨aO h (.tmp t),h1⟩, ?_⟩;have h0:(fS a.tmps (.tmp t)).run P w=.ok (a.eval (.tmp t)) w:=rfl;rw[List.mapM_cons,Sem.run_bind,h0];show((do let bs <-rv.mapM (fS a.tmps);pure (a.eval (.tmp t)::bs)):Sem (List Value)).run P w=_;rw[Sem.run_bind,h3];rfl
   ·cases hr
  |cell x ty =>
   simp only[fz]at hr;split at hr
   ·rename_i c i l hc hi hl;split at hr
    ·rename_i s hs;injection hr with hr;subst hr;obtain⟨vs,h1,h3⟩:=ih hl;have hx:=aO h (.tmp x);rw[hc]at hx;obtain⟨v,g1,g2⟩:=o0 hT h hi hs hx;have g1:=g1 w (ba.refl w);have hx2:a.eval (.tmp x)=a.tmps.getD x undef:=rfl;rw[hx2]at g1;refine⟨v::vs,⟨g2,h1⟩, ?_⟩;have h0:(fS a.tmps (.cell x ty)).run P w=.ok v w:=by
      have ha:∃ad,a.tmps.getD x undef=.pointer (some ad):=by
       obtain⟨cs,hl',_⟩:∃cs,gf U c i.zero.length=some cs/\True:=by
        unfold kb at hs;split at hs;·rename_i cs hcs;exact⟨cs,hcs,trivial⟩
        ·cases hs
       obtain⟨ad,vs',f,e,_⟩:=oZ h hl' (show af U E w c (a.tmps.getD x undef)from hx);exact⟨_,e⟩
      obtain⟨ad,ha⟩:=ha;show((do loadVar ty (<-asAddr (a.tmps.getD x undef)):Sem Value)).run P w=_;rw[ha]at g1 ⊢;exact g1
     rw[List.mapM_cons,Sem.run_bind,h0];show((do let bs <-rv.mapM (fS a.tmps);pure (v::bs)):Sem (List Value)).run P w=_;rw[Sem.run_bind,h3];rfl
    ·cases hr
   ·cases hr
def kY{fn:Func}{vs:List Value}(h:(fn.results.toList.mapM (fS a.tmps)).run P w=.ok vs w):∃v,(results fn a.tmps).run P w=.ok v w/\gm vs v:=by
 have h2:(fn.results.mapM (fS a.tmps)).run P w=.ok vs.toArray w:=by rw[show fn.results=fn.results.toList.toArray from by simp,List.mapM_toArray];simp[h]
 rw[AV,Sem.run_bind,h2];match vs with
 |[]=>exact⟨.tuple #[],by simp,rfl⟩
 |[u]=>exact⟨u,by simp,rfl⟩
 |u::u'::vs=>exact⟨.tuple (u::u'::vs).toArray,by simp,rfl⟩
def AW(h:R w0 lab0 oo n U E a w){io:Bool}{t:Ty}{cs:List ab}{us:List Value}{y:t.den}(hz:io=true->kT U.row cs=true)(hp:ci U.row t cs=some y)(hc:ae (af U E w) cs us):pM io t us y:=by
 cases t with
 |sl e t =>
  intro hio hl;have hz:=hz hio;rcases o9 (show eW U.row e t cs=some y from hp)with⟨rfl,rfl⟩|⟨r,row,rfl,hr,rfl,hd,rfl,rfl⟩;·obtain⟨u,rfl,hu⟩:=bm hc;obtain rfl:u=_:=hu;rfl
  ·obtain⟨u,rfl,hu⟩:=bm hc;obtain⟨rfl,_⟩:=hu;obtain⟨css,_,_,_,h4⟩:=h.rows r row hr;have hl:row.xs.length=0:=hl;simp only[kT,hr,hl]at hz;rw[h4 (by simpa using hz) hl]
 |int k=>trivial
 |bool=>trivial
 |str=>trivial
 |err=>trivial
 |fnc g=>trivial
 |pair a b=>trivial
def mZ(h:R w0 lab0 oo n U E a w):∀{rs:List PT}{ss:List SV}{vs:List Value}{Y:aj rs},ju U.row rs ss=some Y->qQ U.row rs ss->ae (aC U E w) ss vs->(ay (eL rs ss)).Nodup ->
  ∃Lr,gl w rs vs Y Lr/\Lr.Nodup/\∀k∈Lr,∃q∈ay (eL rs ss),cn E.lab q k
 |[],[],[],Y,_,_,_,_=>⟨[],rfl,List.nodup_nil,λk hk=>by cases hk⟩
 |p::ps,s::ss,v::vs,Y,hp,hz,hs,hn=>by
  simp only[ju]at hp;split at hp
  ·rename_i cs hcs;obtain⟨h1,h2⟩:=cF hp;obtain⟨us,k1,k2⟩:=it hcs hs.1;have hcells:eL (p::ps) (s::ss)=cs++eL ps ss:=by simp[eL,hcs]
   rw[hcells,ec]at hn ⊢;obtain⟨n1,n2,n3⟩:=List.nodup_append.1 hn;obtain⟨L1,o1,o2,o3⟩:=ee h h1 k2 n1;obtain⟨L2,g1,g2,g3⟩:=mZ h h2 hz.2 hs.2 n2;refine⟨L1++L2,⟨us,L1,L2,rfl,k1,o1,AW h (λhio=>hz.1 hio cs hcs) h1 k2,g1⟩,List.nodup_append.2 ⟨o2,g2,λx hx y hy e=>?_⟩,λk hk=>?_⟩;·subst e;obtain⟨q,q1,q2⟩:=o3 x hx;obtain⟨q',q1',q2'⟩:=g3 x hy;exact n3 q q1 q' q1' (fL q2 q2')
   ·rcases List.mem_append.1 hk with hk|hk;·obtain⟨q,q1,q2⟩:=o3 k hk;exact⟨q,List.mem_append_left _ q1,q2⟩
    ·obtain⟨q,q1,q2⟩:=g3 k hk;exact⟨q,List.mem_append_right _ q1,q2⟩
  ·cases hp
 |[],[],_::_,_,_,_,hs,_=>hs.elim
 |[],_::_,_,_,hp,_,_,_=>by cases hp
 |_::_,[],_,_,hp,_,_,_=>by cases hp
 |_::_,_::_,[],_,_,_,hs,_=>hs.elim
def qU(h:R w0 lab0 oo n U E a w):∀{ps:List PT}{i:Nat}{vs:List Value}{y:bM ps},kS U ps i=some y->vs.length=ps.length->(∀j v,vs[j]? = some v->oo (100000+(i+j))=v)->(ay (iD U ps i)).Nodup ->
  ∃L',gk w L' ps vs y/\L'.Nodup/\∀k∈L',∃q∈ay (iD U ps i),cn E.lab q k
 |[],i,vs,y,_,_,_,_=>⟨[],rfl,List.nodup_nil,λk hk=>by cases hk⟩
 |⟨t,agg,false⟩::ps,i,v::vs,y,hr,hl,hv,hn=>by obtain⟨L',g1,g2,g3⟩:=qU h (ps:=ps) (i:=i+1) (vs:=vs) (y:=y) hr (by simpa using hl) (λj v' hj=>by have:=hv (j+1) v' (by simpa using hj);rwa [show i+1+j=i+(j+1)from by omega]) hn;exact⟨L',g1,g2,g3⟩
 |⟨t,agg,true⟩::ps,i,v::vs,y,hr,hl,hv,hn=>by
  simp only[kS]at hr;simp only[iD]at hn ⊢;split at hr
  ·rename_i cs hcs;rw[hcs]at hn;simp only at hn ⊢;have hs:=h.slots (100000+i);have hval:bT oo a (100000+i)=v:=by unfold bT;rw[if_neg (by omega)];exact hv 0 v rfl
   rw[hval]at hs;obtain⟨us,k1,k2⟩:=it hcs hs;obtain⟨L,o1,o2,o3⟩:=ee h hr k2 hn;exact⟨L,⟨us,k1,o1⟩,o2,o3⟩
  ·cases hr
 |_::_,_,[],_,_,hl,_,_=>by simp at hl
def cL.len{L:List Nat}:∀{ps:List PT}{vs:List Value}{X:aj ps},cL w L ps vs X->vs.length=ps.length
 |[],[],_,_=>rfl
 |p::ps,v::vs,X,h=>by simp[cL.len h.2]
 |[],_::_,_,h=>h.elim
 |_::_,[],_,h=>h.elim
def Ty.bd:(t:Ty)->t.den->Prop
 |.sl _ t,xs=>xs.length<=maxLen/\∀x∈xs,t.bd x
 |.pair a b,x=>a.bd x.1/\b.bd x.2
 |.int _,_=>True
 |.bool,_=>True
 |.str,_=>True
 |.err,_=>True
 |.fnc _,_=>True
def uM{α β:Type}{Q:α->β->Prop}{p:β->Prop}(hp:∀a b,Q a b->p b):∀{as:List α}{bs:List β},ae Q as bs->∀b∈bs,p b
 |[],[],_,_,hb=>by cases hb
 |_::_,_::_,h,b,hb=>by
  rcases List.mem_cons.1 hb with rfl|hb;·exact hp _ _ h.1
  ·exact uM hp h.2 b hb
 |[],_::_,h,_,_=>h.elim
 |_::_,[],h,_,_=>h.elim
def Rd.bd{S:Nat->Prop}:∀{t:Ty}{cs:List Value}{x:t.den},Rd w S t cs x->t.bd x
 |.int _,_,_,_=>trivial
 |.bool,_,_,_=>trivial
 |.str,_,_,_=>trivial
 |.err,_,_,_=>trivial
 |.fnc _,_,_,_=>trivial
 |.pair a b,_,_,h=>by obtain⟨c1,c2,_,h1,h2⟩:=h;exact⟨h1.bd,h2.bd⟩
 |.sl e t,_,xs,h=>by
  obtain⟨A,n,c,_,h1,h2,h3,h4⟩:=h;refine⟨by omega,λx hx=>?_⟩;rcases h4 with rfl|⟨ad,css,_,_,h5,_⟩;·rw[List.eq_nil_of_length_eq_zero h1]at hx;cases hx
  ·exact uM (p:=λx=>t.bd x) (λ_ _ hr=>hr.bd) h5 x hx
def ax.bd:∀{t:Ty}{L:List Nat}{cs:List Value}{x:t.den},ax w t L cs x->t.bd x:=λh=>(h.rd (S:=λ_=>True) λ_ _=>trivial).bd
def dS:(ps:List PT)->aj ps->Prop
 |[],_=>True
 |p::ps,X=>p.t.bd X.1/\dS ps X.2
def cL.bd{L:List Nat}:∀{ps:List PT}{vs:List Value}{X:aj ps},cL w L ps vs X->dS ps X
 |[],[],_,_=>trivial
 |p::ps,v::vs,X,h=>by
  refine⟨?_,h.2.bd⟩;obtain⟨cs,_,h1⟩:=h.1;cases hio:p.io;·rw[hio]at h1;exact Rd.bd h1
  ·rw[hio]at h1;exact ax.bd h1
 |[],_::_,_,h=>h.elim
 |_::_,[],_,h=>h.elim
theorem AY [Inv P] {f : Nat} {fn : Func} {c : Code} {sig : aR} {pre : Option (aj sig.ps → Bool)} {val : aj sig.ps → bM sig.ps × aj sig.rs} {pl : bH} {je : Option aa} (hf : P.funcs[f]? = some fn) (hb : fn.body = some c) (hname : (fn.name == "runtime.NumGoroutine") = false)
  (hm:P.follows .mixedOrders=true) (hT:aK P T) (hΓ:an P Γ) (hc:cT fn.ntmps c=true) (hn:Nat.ble sig.ps.length fn.ntmps=true) (hn2:Nat.ble fn.ntmps 100000=true) (hone:cr sig.ps=true)
  (hG:∀X,dS sig.ps X->bj pre X=true->∃N,ah Γ T B N c pl (aU sig.ps X) (aq je (qR T sig fn.results.toList))=some (val X)):ao P f ⟨sig,pre,val⟩:=by
 intro w args L X y Y ha hno hL hlt hg hI hBL;have hg:cond (bj pre X) (some (val X)) none=some (y,Y):=hg;obtain⟨N,hr⟩:∃N,ah Γ T B N c pl (aU sig.ps X) (aq je (qR T sig fn.results.toList))=some (y,Y):=by
  cases hp:bj pre X;·rw[hp]at hg;cases hg
  ·rw[hp]at hg;rw[<-hg];exact hG X ha.bd hp
 have hn:=Nat.le_of_ble_eq_true hn;have hn2:=Nat.le_of_ble_eq_true hn2;have hlen:args.size=sig.ps.length:=by have:=cL.len ha;simpa using this
 refine .inl ⟨?_, ?_⟩
 ·have h1 : ¬ fn.name = "runtime.NumGoroutine" := by simpa using hname
  have h2:¬ fn.body=none:=by rw[hb];simp
  simp[callFunc,hf,h1,h2]
 obtain⟨f0,rvf,k1,k2⟩:=AU (i:=0) ha hno hone hL
 classical
 let lab0:Nat->au:=λk=>if k∈L then f0 k else .st
 let E:aD:=⟨lab0,rvf,λ_=>0⟩;let oo:Nat->Value:=λt=>args.getD (t-100000) undef;have hlab1:∀k,k∈L->E.lab k=f0 k:=λk hk=>if_pos hk;have hlab2:∀k,k∉L->E.lab k=.st:=λk hk=>if_neg hk;obtain⟨g1,g2⟩:=k2 (aU sig.ps X) E hlab1 hlab2 rfl (λr row h=>h);have hsz:(args++Array.replicate (fn.ntmps-args.size) undef).size=fn.ntmps:=by rw[Array.size_append,Array.size_replicate];omega
 have hR:R w lab0 oo fn.ntmps (aU sig.ps X) E { tmps:=args++Array.replicate (fn.ntmps-args.size) undef,defers:=[] } w:=by
  refine⟨hn2,hsz,rfl,λt=>?_,λb te cs hb=>?_,λr row hr=>g2 r row hr,⟨rfl,⟨rfl,λ_=>Nat.le_refl _⟩,rfl,Nat.le_refl _,λk hk hl=>⟨hl,rfl⟩,λk hk hl=>⟨hl,rfl⟩⟩⟩
  ·show aC _ E w (dA (dI sig.ps X 0).1 t) _;refine qT λp hp e=>?_;obtain⟨j,v,j1,j2,j3⟩:=g1 p hp;have hj:j<args.size:=by have:=(List.getElem?_eq_some_iff.1 j1).1;simpa using this
   have hval:bT oo { tmps:=args++Array.replicate (fn.ntmps-args.size) undef,defers:=[] } t=v:=by
    subst e;unfold bT;rcases j2 with j2|j2
    ·rw[if_pos (by omega),j2];simp only[Nat.zero_add,Array.getD_eq_getD_getElem?];rw[Array.getElem?_append_left hj];have:args[j]? = some v:=by simpa using j1
     rw[this];rfl
    ·rw[if_neg (by omega),j2];show args.getD (100000+(0+j)-100000) undef=v;rw[show 100000+(0+j)-100000=j from by omega,Array.getD_eq_getD_getElem?];have:args[j]? = some v:=by simpa using j1
     rw[this];rfl
   rw[hval];exact j3
  ·cases hb
 have hend:∀U' E' a' w',mY T sig fn.results.toList U'=some (y,Y)->R w lab0 oo fn.ntmps U' E' a' w'->a'.defers=[]/\∃v,(results fn a'.tmps).run P w'=.ok v w' /\
   ∃vs L' Lr,Ending.returned v=Ending.returned v/\mq w sig args.toList L y Y v w' vs L' Lr:=by
  intro U' E' a' w' hfin h';refine⟨h'.defers, ?_⟩;unfold mY at hfin;split at hfin
  ·rename_i ss hss;cases hq:ck (ay (eL sig.rs ss++iD U' sig.ps 0));·rw[hq]at hfin;cases hfin
   rw[hq]at hfin;obtain⟨hz,hfin⟩:=kU (show eM U'.row sig.rs ss _=some (y,Y)from hfin);obtain⟨p1,p2⟩:=cF (z:=(y,Y)) hfin;have hnd:=eY hq;rw[ec]at hnd;obtain⟨n1,n2,n3⟩:=List.nodup_append.1 hnd;obtain⟨vs,v1,v2⟩:=kX hT h' hss;obtain⟨v,r1,r2⟩:=kY v2;obtain⟨Lr,l1,l2,l3⟩:=mZ h' p2 hz v1 n1;obtain⟨L',m1,m2,m3⟩:=qU h' (vs:=args.toList) p1 (cL.len ha) (λj u hu=>by
    show args.getD (100000+(0+j)-100000) undef=u;rw[show 100000+(0+j)-100000=j from by omega,Array.getD_eq_getD_getElem?];have:args[j]? = some u:=by simpa using hu
    rw[this];rfl) n2
   have hold:∀k q,cn E'.lab q k->k∈L\/w.heap.size<=k:=by
    intro k q hk;by_cases h1:k∈L;·exact .inl h1
    ·refine .inr (Nat.le_of_not_lt λhlt=>?_);have:=(h'.same.old k hlt (hlab2 k h1)).1;rcases hk with hk|hk<;>rw[this]at hk<;>cases hk
   refine⟨v,r1,vs,L',Lr,rfl,r2,l1,m1,List.nodup_append.2 ⟨l2,m2,λx hx z hz e=>?_⟩,λk hk=>?_,λk hk=>?_,h'.same.os,h'.same.tape,h'.same.output,h'.same.size,λk hk hkL=>(h'.same.old k hk (hlab2 k hkL)).2⟩;·subst e;obtain⟨q,q1,q2⟩:=l3 x hx;obtain⟨q',q1',q2'⟩:=m3 x hz;exact n3 q q1 q' q1' (fL q2 q2')
   ·obtain⟨q,q1,q2⟩:=l3 k hk;exact hold k q q2
   ·obtain⟨q,q1,q2⟩:=m3 k hk;exact hold k q q2
  ·cases hfin
 refine calls_of_wp hf hb (eK hT (hΓ.at hI λk hk=>hlab2 k λhl=>hBL k hl hk) hm c pl hc hR hr ?_ (eB.join ?_ _));·intro ch a a' w' hq;obtain⟨_,v,vs,L',Lr,he,_⟩:=hq;cases he
 ·intro e U' E' a' w' hr' h';cases e with
  |nrm =>obtain⟨d1,v,d2,vs,L',Lr,d3,d4⟩:=hend U' E' a' w' hr' h';exact⟨d1,v,d2,v,vs,L',Lr,rfl,d4⟩
  |ret =>obtain⟨d1,v,d2,vs,L',Lr,d3,d4⟩:=hend U' E' a' w' hr' h';exact⟨d1,v,d2,v,vs,L',Lr,rfl,d4⟩
  |exit i=>cases hr'
end
def aY:Gm:=⟨λ_=>none,λ_=>none,λ_=>none,λ_=>none,λ_=>none⟩
def an.nil[DC]{P:Program}[Inv P]:an P aY:=⟨λf en h=>(by cases h),λf en h=>(by cases h),λf en h=>(by cases h),λf en h=>(by cases h),λf en h=>(by cases h)⟩
def aQ(Γ:Gm)(f:Nat)(en:aH):Gm:=⟨λk=>cond (Nat.beq k f) (some en) (Γ.g k),Γ.m,Γ.v,Γ.n,Γ.s⟩
def qZ(rs:List PT):Bool:=rs.all λp=>p.agg||Nat.beq p.t.nc 1
def uP{rs:List PT}(hf:qZ rs=true):∀p∈rs,p.agg=false->p.t.nc=1:=λp hp ha=>by have:=List.all_eq_true.1 hf p hp;rw[ha]at this;exact Nat.eq_of_beq_eq_true (by simpa using this)
def an.add[DC]{P:Program}[Inv P]{Γ:Gm}(h:an P Γ){f:Nat}{en:aH}(he:ao P f en)(hf:qZ en.sig.rs=true):an P (aQ Γ f en):=by
 refine⟨λk en' hk=>?_,h.m,h.v,h.n,h.s⟩;simp only[aQ]at hk;cases hb:Nat.beq k f;·rw[hb]at hk;exact h.g k en' hk
 ·rw[hb]at hk;injection hk with hk;subst hk;obtain rfl:=Nat.eq_of_beq_eq_true hb;exact⟨he,uP hf⟩
def a6(f:Func):Code:=match f.body with|some c=>c|none=>.skip
def av(n:Int):Int:=IntKind.i64.wrap n
def az(n:Int)(m:Nat):Bool:=decide (0<=n)&&decide (n<(m:Int))
abbrev KT(J:Type):Type:=Ex->St->Option J
section
variable {J : Type} {Γ : Gm} {T : aN} {B : Nat → Option aa} {N : Nat} {c a b : Code} {p pa pb : bH} {U : St} {K : KT J}
def uX{id:Nat}{lm:aa}{Z W:Option J}(hc:c=.block id a)(hp:p=.mk (some lm) none pa .n)
  (h1:ah Γ T B N a pa U (aq (some lm) (kR id K))=Z) (e:Z=W):ah Γ T B N c p U K=W:=by
 subst hc hp e;exact h1
def uY{cl:aa}{U':St}{Z W:Option J}(hc:c=.loop a)(hp:p=.mk none (some cl) pa .n)(hs:eA cl U=some U')
  (h1:bg (λU K=>ah Γ T B N a pa U K) cl N U' K=Z) (e:Z=W):ah Γ T B N c p U K=W:=by
 subst hc hp e;show((eA cl U).bind λσ0=>bg (λU K=>ah Γ T B N a pa U K) cl N σ0 K)=_;rw[hs];exact h1
end
abbrev I2(α:Type):Type:=Int->Int->α
abbrev I3(α:Type):Type:=Int->Int->Int->α
abbrev I4(α:Type):Type:=Int->Int->Int->Int->α
abbrev I5(α:Type):Type:=Int->Int->Int->Int->Int->α
abbrev I6(α:Type):Type:=Int->Int->Int->Int->Int->Int->α
abbrev I7(α:Type):Type:=Int->Int->Int->Int->Int->Int->Int->α
abbrev I8(α:Type):Type:=Int->Int->Int->Int->Int->Int->Int->Int->α
def aT:Nat->Code->Nat->Code
 |0,c,_=>c
 |F+1,c,n=>cond (Nat.ble n 1) c (match c with
  |.seq a b=>cond (Nat.beq (n%2) 0) (aT F a (n / 2)) (aT F b (n / 2))
  |.cond _ a b=>cond (Nat.beq (n%2) 0) (aT F a (n / 2)) (aT F b (n / 2))
  |.block _ c=>aT F c (n / 2)
  |.loop c=>aT F c (n / 2)
  |c=>c)
abbrev yi(n:Int):ab:=.int .i64 n
abbrev xi(n:Int):SV:=.c (.int .i64 n)
abbrev xo(n:Nat):SV:=.c (.own n)
abbrev xb(n:Nat):SV:=.c (.box n 0)
abbrev xB(b:Bool):SV:=.c (.bool b)
abbrev tI:Ty:=.int .i64
abbrev LI:Type:=List Int
abbrev MT:Type:=Int×Int×List Int
def bU{α0 α1 β:Type}{f g:α0->α1->β}(h:∀x0 x1,f x0 x1=g x0 x1):f=g:=funext λx0=>funext λx1=>h x0 x1
def cM{α0 α1 α2 β:Type}{f g:α0->α1->α2->β}(h:∀x0 x1 x2,f x0 x1 x2=g x0 x1 x2):f=g:=funext λx0=>funext λx1=>funext λx2=>h x0 x1 x2
def fT{α0 α1 α2 α3 β:Type}{f g:α0->α1->α2->α3->β}(h:∀x0 x1 x2 x3,f x0 x1 x2 x3=g x0 x1 x2 x3):f=g:=funext λx0=>funext λx1=>funext λx2=>funext λx3=>h x0 x1 x2 x3
def dB{α0 α1 α2 α3 α4 β:Type}{f g:α0->α1->α2->α3->α4->β}(h:∀x0 x1 x2 x3 x4,f x0 x1 x2 x3 x4=g x0 x1 x2 x3 x4):f=g:=funext λx0=>funext λx1=>funext λx2=>funext λx3=>funext λx4=>h x0 x1 x2 x3 x4
def jz{α0 α1 α2 α3 α4 α5 β:Type}{f g:α0->α1->α2->α3->α4->α5->β}(h:∀x0 x1 x2 x3 x4 x5,f x0 x1 x2 x3 x4 x5=g x0 x1 x2 x3 x4 x5):f=g:=funext λx0=>funext λx1=>funext λx2=>funext λx3=>funext λx4=>funext λx5=>h x0 x1 x2 x3 x4 x5
def ld{α0 α1 α2 α3 α4 α5 α6 β:Type}{f g:α0->α1->α2->α3->α4->α5->α6->β}(h:∀x0 x1 x2 x3 x4 x5 x6,f x0 x1 x2 x3 x4 x5 x6=g x0 x1 x2 x3 x4 x5 x6):f=g:=funext λx0=>funext λx1=>funext λx2=>funext λx3=>funext λx4=>funext λx5=>funext λx6=>h x0 x1 x2 x3 x4 x5 x6
def jA{α0 α1 α2 α3 α4 α5 α6 α7 β:Type}{f g:α0->α1->α2->α3->α4->α5->α6->α7->β}(h:∀x0 x1 x2 x3 x4 x5 x6 x7,f x0 x1 x2 x3 x4 x5 x6 x7=g x0 x1 x2 x3 x4 x5 x6 x7):f=g:=funext λx0=>funext λx1=>funext λx2=>funext λx3=>funext λx4=>funext λx5=>funext λx6=>funext λx7=>h x0 x1 x2 x3 x4 x5 x6 x7
def iE{α0 α1 α2 α3 α4 α5 α6 α7 α8 β:Type}{f g:α0->α1->α2->α3->α4->α5->α6->α7->α8->β}(h:∀x0 x1 x2 x3 x4 x5 x6 x7 x8,f x0 x1 x2 x3 x4 x5 x6 x7 x8=g x0 x1 x2 x3 x4 x5 x6 x7 x8):f=g:=funext λx0=>funext λx1=>funext λx2=>funext λx3=>funext λx4=>funext λx5=>funext λx6=>funext λx7=>funext λx8=>h x0 x1 x2 x3 x4 x5 x6 x7 x8
def jB{α0 α1 α2 α3 α4 α5 α6 α7 α8 α9 β:Type}{f g:α0->α1->α2->α3->α4->α5->α6->α7->α8->α9->β}(h:∀x0 x1 x2 x3 x4 x5 x6 x7 x8 x9,f x0 x1 x2 x3 x4 x5 x6 x7 x8 x9=g x0 x1 x2 x3 x4 x5 x6 x7 x8 x9):f=g:=funext λx0=>funext λx1=>funext λx2=>funext λx3=>funext λx4=>funext λx5=>funext λx6=>funext λx7=>funext λx8=>funext λx9=>h x0 x1 x2 x3 x4 x5 x6 x7 x8 x9
def uZ{α0 α1 α2 α3 α4 α5 α6 α7 α8 α9 α10 β:Type}{f g:α0->α1->α2->α3->α4->α5->α6->α7->α8->α9->α10->β}(h:∀x0 x1 x2 x3 x4 x5 x6 x7 x8 x9 x10,f x0 x1 x2 x3 x4 x5 x6 x7 x8 x9 x10=g x0 x1 x2 x3 x4 x5 x6 x7 x8 x9 x10):f=g:=funext λx0=>funext λx1=>funext λx2=>funext λx3=>funext λx4=>funext λx5=>funext λx6=>funext λx7=>funext λx8=>funext λx9=>funext λx10=>h x0 x1 x2 x3 x4 x5 x6 x7 x8 x9 x10
def u0{α0 α1 α2 α3 α4 α5 α6 α7 α8 α9 α10 α11 β:Type}{f g:α0->α1->α2->α3->α4->α5->α6->α7->α8->α9->α10->α11->β}(h:∀x0 x1 x2 x3 x4 x5 x6 x7 x8 x9 x10 x11,f x0 x1 x2 x3 x4 x5 x6 x7 x8 x9 x10 x11=g x0 x1 x2 x3 x4 x5 x6 x7 x8 x9 x10 x11):f=g:=funext λx0=>funext λx1=>funext λx2=>funext λx3=>funext λx4=>funext λx5=>funext λx6=>funext λx7=>funext λx8=>funext λx9=>funext λx10=>funext λx11=>h x0 x1 x2 x3 x4 x5 x6 x7 x8 x9 x10 x11
def nj{α0 α1 α2 α3 α4 α5 α6 α7 α8 α9 α10 α11 α12 β:Type}{f g:α0->α1->α2->α3->α4->α5->α6->α7->α8->α9->α10->α11->α12->β}(h:∀x0 x1 x2 x3 x4 x5 x6 x7 x8 x9 x10 x11 x12,f x0 x1 x2 x3 x4 x5 x6 x7 x8 x9 x10 x11 x12=g x0 x1 x2 x3 x4 x5 x6 x7 x8 x9 x10 x11 x12):f=g:=funext λx0=>funext λx1=>funext λx2=>funext λx3=>funext λx4=>funext λx5=>funext λx6=>funext λx7=>funext λx8=>funext λx9=>funext λx10=>funext λx11=>funext λx12=>h x0 x1 x2 x3 x4 x5 x6 x7 x8 x9 x10 x11 x12
def u1{α0 α1 α2 α3 α4 α5 α6 α7 α8 α9 α10 α11 α12 α13 β:Type}{f g:α0->α1->α2->α3->α4->α5->α6->α7->α8->α9->α10->α11->α12->α13->β}(h:∀x0 x1 x2 x3 x4 x5 x6 x7 x8 x9 x10 x11 x12 x13,f x0 x1 x2 x3 x4 x5 x6 x7 x8 x9 x10 x11 x12 x13=g x0 x1 x2 x3 x4 x5 x6 x7 x8 x9 x10 x11 x12 x13):f=g:=funext λx0=>funext λx1=>funext λx2=>funext λx3=>funext λx4=>funext λx5=>funext λx6=>funext λx7=>funext λx8=>funext λx9=>funext λx10=>funext λx11=>funext λx12=>funext λx13=>h x0 x1 x2 x3 x4 x5 x6 x7 x8 x9 x10 x11 x12 x13
def u2{α0 α1 α2 α3 α4 α5 α6 α7 α8 α9 α10 α11 α12 α13 α14 α15 β:Type}{f g:α0->α1->α2->α3->α4->α5->α6->α7->α8->α9->α10->α11->α12->α13->α14->α15->β}(h:∀x0 x1 x2 x3 x4 x5 x6 x7 x8 x9 x10 x11 x12 x13 x14 x15,f x0 x1 x2 x3 x4 x5 x6 x7 x8 x9 x10 x11 x12 x13 x14 x15=g x0 x1 x2 x3 x4 x5 x6 x7 x8 x9 x10 x11 x12 x13 x14 x15):f=g:=funext λx0=>funext λx1=>funext λx2=>funext λx3=>funext λx4=>funext λx5=>funext λx6=>funext λx7=>funext λx8=>funext λx9=>funext λx10=>funext λx11=>funext λx12=>funext λx13=>funext λx14=>funext λx15=>h x0 x1 x2 x3 x4 x5 x6 x7 x8 x9 x10 x11 x12 x13 x14 x15
@[reducible] def Inv.triv(P:Program):Inv P:=⟨λ_=>True,λ_=>False,λ_ _ _ h=>h,λ_ _ _ h=>h.elim⟩
end Go.Fw
