/- The framework: what a symbolic run of the model's code tells, proved sound. Nothing is assumed. -/
import Derived.Test.YtkjnhmjfdfiklaaGreatDoorFwb
set_option linter.defProp false
set_option linter.unusedVariables false
set_option linter.unusedSimpArgs false
namespace Go.Fw
open Go.RowKit
structure Gm where
 g:Nat->Option z2j
 m:Nat->Option z9b
 v:Nat->Option z42
 n:Nat->Option z8t
def zca:Op->Option (Operand×Operand×Operand)
 | .pick c x y=>some (c,x,y)
 | _=>none
def zjn:Op->Option (Nat×List Operand)
 | .call { callee:=.value (.func f),args:=args,argTypes:=_ }=>some (f,args.toList)
 | _=>none
def zel(σ:St):Op->Option (Nat×List Operand)
 | .call { callee:=.value x,args:=args,argTypes:=_ }=>match ev σ x with
  | .c (.fn f [])=>some (f,args.toList)
  | _=>none
 | _=>none
noncomputable def z6d{ρ:Type}(a b:Option ρ):Option ρ:=by classical exact if a=b then a else none
@[reducible] noncomputable def bo{ρ:Type}(a:Option ρ):Option ρ:=z6d a a
def zko{ρ:Type}{a b:Option ρ}{r:ρ}(h:z6d a b=some r):a=some r/\b=some r:=by
 unfold z6d at h
 split at h
 ·rename_i e
  exact⟨h,e▸h⟩
 ·cases h
def z30{ρ:Type}(a:Option ρ):z6d a a=a:=by
 unfold z6d
 exact if_pos rfl
noncomputable def zs9{ρ:Type}(step:Nat->Option ρ):List Nat->Option ρ
 | []=>none
 | [i]=>step i
 | i::j::is=>z6d (step i) (zs9 step (j::is))
def ze8{ρ:Type}{step:Nat->Option ρ}{r:ρ}:∀{is:List Nat},zs9 step is=some r->∀i∈is,step i=some r
 | [],h,_,_=>by cases h
 | [i],h,j,hj=>by
  obtain rfl:=List.mem_singleton.1 hj
  exact h
 | i::j::is,h,k,hk=>by
  obtain⟨h1,h2⟩:=zko h
  rcases List.mem_cons.1 hk with rfl | hk
  ·exact h1
  ·exact ze8 h2 k hk
def eqOp:BinOp->Bool
 | .eql=>true
 | .neq=>true
 | _=>false
def zrj(T:Tab)(σ:St):Op->Bool
 | .binOp op t x y _=>eqOp op&&(match T t,ev σ x,ev σ y with
  | some ti,.c (.sn _ _ _ _),.c .nil=>ti.el.isSome
  | some ti,.c (.own r),.c .nil=>ti.el.isSome&&(match σ.row r with
   | some row=>!row.nilE
   | none=>false)
  | _,_,_=>false)
 | _=>false
structure zcq where
 d:Nat
 r:Nat
 i:Int
 f:Nat
 el:Option (Nat×Int)
def zn6(T:Tab)(σ:St)(o:Oper):Option zcq:=match o.guard,o.op,o.dst with
 | none,.load t x,some d=>match ev σ x with
  | .c (.elt r i f)=>match σ.row r,T t with
   | some row,some ti=>cond (row.deep&&(ti.el.isSome&&!ti.agg)) (some ⟨d,r,i,f,none⟩) none
   | _,_=>none
  | _=>none
 | _,_,_=>none
inductive PinM where
 | no
 | still (p:zcq)
 | sub (p:zcq) (f:Nat) (args:List Operand)
 | put (p:zcq) (e:Nat) (k:Int) (t:Nat) (x:Operand)
def zp8(d:Nat):Option Operand->Bool
 | some (.tmp e)=>Nat.beq e d&&Nat.blt d 100000
 | _=>false
def z59(d:Nat):Option Nat->Bool
 | some e=>!(Nat.beq e d)
 | none=>true
def elPin(T:Tab)(σ:St)(p:zcq)(op:Op)(dst:Option Nat):Option zcq:=match op,dst with
 | .indexAddr t (.tmp d) i,some e=>cond (Nat.beq d p.d&&(Nat.blt d 100000&&!(Nat.beq e d))) (match ev σ (.tmp d),ev σ i,T t with
  | .c (.sn _ _ _ _),.c (.int _ k),some ti=>match ti.el with
   | some el=>match T el,σ.row p.r with
    | some ei,some row=>cond (Nat.beq ei.zero.length 1) (match zag row.t (row.xs.getD p.i.toNat row.t.dflt) p.f with
     | some ⟨(_,.int _),_⟩=>some ⟨p.d,p.r,p.i,p.f,some (e,k)⟩
     | _=>none) none
    | _,_=>none
   | none=>none
  | _,_,_=>none) none
 | _,_=>none
def zn1(p:zcq)(op:Op)(dst:Option Nat):Option (Nat×Int×Nat×Operand):=match op,dst,p.el with
 | .store t (.tmp e') x,none,some (e,k)=>cond (Nat.beq e' e&&(Nat.blt e 100000&&Nat.blt p.d 100000)) (some (e,k,t,x)) none
 | _,_,_=>none
def z89(p:zcq)(dst:Option Nat):Bool:=match p.el with
 | some (e,_)=>z59 e dst
 | none=>true
def lk(N:Nat)(b:Bool):Bool:=match N with
 | 0=>b
 | _+1=>b
def z1t(N:Nat)(b:Bool):lk N b=b:=by cases N<;>rfl
def lkC(N:Nat):z1b->z1b
 | .bool b=>.bool (lk N b)
 | c=>c
def lkSV(N:Nat):SV->SV
 | .c x=>.c (lkC N x)
 | .agg l=>.agg l
 | .tup l=>.tup (l.map λp=>(p.1,p.2.map (lkC N)))
def lkC_eq(N:Nat)(c:z1b):lkC N c=c:=by cases c<;>simp[lkC,z1t]
def zrs(N:Nat)(s:SV):lkSV N s=s:=by
 have h:lkC N=id:=funext (lkC_eq N)
 cases s<;>simp[lkSV,lkC_eq,h]
def zrt(N:Nat)(op:Op)(c:Bool):Bool:=match op with
 | .binOp .quo _ _ _ _=>lk N c
 | .binOp .rem _ _ _ _=>lk N c
 | .binOp .shl _ _ _ _=>lk N c
 | .binOp .shr _ _ _ _=>lk N c
 | .indexAddr _ _ _=>lk N c
 | .index _ _ _=>lk N c
 | .slice _ _ _ _ _=>lk N c
 | _=>c
def zrr(N:Nat)(op:Op)(s:SV):SV:=match op with
 | .binOp _ _ _ _ _=>lkSV N s
 | .lookup _ _ _ _=>lkSV N s
 | _=>s
def zh2(N:Nat)(op:Op)(c:Bool):zrt N op c=c:=by
 unfold zrt
 split<;>first | rfl | exact z1t N c
def zh1(N:Nat)(op:Op)(s:SV):zrr N op s=s:=by
 unfold zrr
 split<;>first | rfl | exact zrs N s
def zld{α:Type}(N:Nat)(p:Option (α->Bool))(X:α):Bool:=match p with
 | none=>true
 | some f=>lk N (f X)
def zao{α:Type}(N:Nat)(p:Option (α->Bool))(X:α):zld N p X=z4f p X:=by
 unfold zld z4f
 split
 ·rfl
 ·exact z1t N _
def zfz(N:Nat)(d:Option Nat)(σ:St):St:=match d with
 | some d=>σ.put d (lkSV N (σ.slot d))
 | none=>σ
def zaw(N:Nat)(d:Option Nat)(σ:St):zfz N d σ=σ:=by
 cases d with
 | none=>rfl
 | some d =>
  unfold zfz
  simp only[zrs]
  unfold St.put
  congr 1
  funext t
  unfold upd
  cases hb:Nat.beq t d
  ·rfl
  ·rw[Nat.eq_of_beq_eq_true hb];rfl
def Out.kL{ρ:Type}(N:Nat):Out->(St->Option ρ)->Option ρ
 | .fail,_=>none
 | .ok σ,K=>K σ
 | .chk c o,K=>cond (lk N c) (o.kL N K) none
 | .br b o1 o2,K=>cond b (o1.kL N K) (o2.kL N K)
 | .call x f,K=>x.bind λb=>(f b).kL N K
def Out.kL_eq{ρ:Type}(N:Nat)(K:St->Option ρ):∀o:Out,o.kL N K=o.k K
 | .fail=>rfl
 | .ok σ=>rfl
 | .chk c o=>by simp only[Out.kL,Out.k,z1t,Out.kL_eq N K o]
 | .br b o1 o2=>by simp only[Out.kL,Out.k,Out.kL_eq N K o1,Out.kL_eq N K o2]
 | .call x f=>by
  simp only[Out.kL,Out.k]
  congr 1
  funext b
  exact Out.kL_eq N K (f b)
section
variable {ρ : Type}
noncomputable def iDo(Γ:Gm)(T:Tab)(N:Nat)(o:Oper)(σ:St)(K:St->Option ρ):Option ρ :=
 match zca o.op with
 | some (c,x,y)=>match ev σ c with
  | .c (.bool b)=>cond b (K (zi9 σ o.dst (ev σ x))) (K (zi9 σ o.dst (ev σ y)))
  | _=>none
 | none=>match zel σ o.op with
  | some (f,args)=>match Γ.g f with
   | some en=>match zu4 en σ (args.map (ev σ))with
    | some X=>cond (zld N en.pre X) (match zmc en σ o.dst (args.map (ev σ)) (en.val X)with
     | some σ'=>K (zfz N o.dst σ')
     | none=>none) none
    | none=>none
   | none=>match Γ.m f with
    | some en=>match zmh en σ (args.map (ev σ))with
     | some (qs,X)=>cond (zld N en.pre X) (match zdd en σ o.dst (args.map (ev σ)) qs (en.val X)with
      | some σ'=>K (zfz N o.dst σ')
      | none=>none) none
     | none=>none
    | none=>match Γ.v f with
     | some en=>match zmf en σ (args.map (ev σ))with
      | some (qs,X)=>cond (zld N en.pre X) (match zhy en σ o.dst (args.map (ev σ)) qs (en.val X)with
       | some σ'=>K (zfz N o.dst σ')
       | none=>none) none
      | none=>none
     | none=>match Γ.n f with
      | some en=>match zmg en σ (args.map (ev σ))with
       | some X=>cond (zld N en.pre X) (match zhz en σ o.dst (args.map (ev σ)) (en.val X)with
        | some σ'=>K σ'
        | none=>none) none
       | none=>none
      | none=>none
  | none=>match z7v T σ o.op with
   | some (c,s)=>cond (zrj T σ o.op) (cond (lk N c) (K (zi9 σ o.dst s)) (z6d (K (zi9 σ o.dst (.c (.bool true)))) (K (zi9 σ o.dst (.c (.bool false))))))
    (cond (zrt N o.op c) (K (zi9 σ o.dst (zrr N o.op s))) none)
   | none=>(aMem T σ o.dst o.op).kL N K
def gslot(ops:Array Oper)(j:Nat):Option Nat:=match ops[j]? with
 | some o=>o.dst
 | none=>none
def ze7(ops:Array Oper)(o:Oper)(σ:St)(F:St->Option ρ)(K:St->Option ρ):Option ρ :=
 match o.guard with
 | none=>F σ
 | some (j,want)=>match gslot ops j with
  | some t=>match σ.slot t with
   | .c (.bool b)=>cond b
    (cond want (F (σ.put t (.c (.bool true)))) (K (zi9 (σ.put t (.c (.bool true))) o.dst (.tup []))))
    (cond want (K (zi9 (σ.put t (.c (.bool false))) o.dst (.tup []))) (F (σ.put t (.c (.bool false)))))
   | .tup _=>K (zi9 σ o.dst (.tup []))
   | _=>none
  | none=>none
def z49:Op->Bool
 | .move _=>true
 | .assign _=>true
 | .load _ _=>true
 | .indexAddr _ _ _=>true
 | .fieldAddr _ _ _=>true
 | .binOp _ _ _ _ _=>true
 | .unOp _ _ _=>true
 | .index _ _ _=>true
 | .call { callee:=.builtin .len,args:=_,argTypes:=_ }=>true
 | .call { callee:=.builtin .min,args:=_,argTypes:=_ }=>true
 | .call { callee:=.builtin .max,args:=_,argTypes:=_ }=>true
 | .convert _ _ _=>true
 | .extract _ _=>true
 | .nilCheck _=>true
 | _=>false
noncomputable def iSub(Γ:Gm)(N:Nat)(p:zcq)(f:Nat)(args:List Operand)(dst:Option Nat)(σ:St)(K:St->Option ρ):Option ρ :=
 match Γ.g f,σ.row p.r with
 | some en,some row=>match z9k row p.r p.i p.f σ.row en.sig.ps (args.map (ev σ))with
  | some X=>cond (zld N en.pre X) (match zih row p.i p.f en.sig.ps (en.val X).1 with
   | some x'=>match zem en σ dst [p.r] (upd σ.row p.r (some ⟨row.e,row.t,row.xs.set p.i.toNat x',row.deep,row.nilE⟩)) (en.val X).2 with
    | some σ'=>K (zfz N dst σ')
    | none=>none
   | none=>none) none
  | none=>none
 | _,_=>none
def znd(T:Tab)(p:zcq)(k:Int)(t:Nat)(x:Operand)(σ:St)(K:St->Option ρ):Option ρ :=
 match σ.row p.r,T t,ev σ x with
 | some row,some ti,.c (.int kk m)=>cond (Nat.beq ti.zero.length 1) (match zag row.t (row.xs.getD p.i.toNat row.t.dflt) p.f with
  | some ⟨(_,.int k'),ys⟩=>cond (ikEq kk k') (match zaf row.t (row.xs.getD p.i.toNat row.t.dflt) p.f (.int k') (ys.set k.toNat m)with
   | some x'=>K ((z7u [p.r] σ).withRow (upd σ.row p.r (some ⟨row.e,row.t,row.xs.set p.i.toNat x',row.deep,row.nilE⟩)))
   | none=>none) none
  | _=>none) none
 | _,_,_=>none
def zgo(Γ:Gm)(T:Tab)(σ:St)(o:Oper)(pin:Option zcq):PinM:=match zn6 T σ o with
 | some p=>.still p
 | none=>match pin with
  | none=>.no
  | some p=>match o.guard with
   | some _=>.no
   | none=>match zel σ o.op with
    | some (f,args)=>match Γ.g f with
     | some en=>cond (zp8 p.d (z9r en.sig.ps args)&&z69 en.sig.ps) (.sub p f args) .no
     | none=>.no
    | none=>match elPin T σ p o.op o.dst with
     | some p'=>.still p'
     | none=>match zn1 p o.op o.dst with
      | some (e,k,t,x)=>.put p e k t x
      | none=>cond (z49 o.op&&(z59 p.d o.dst&&z89 p o.dst)) (.still p) .no
noncomputable def iOps(Γ:Gm)(T:Tab)(N:Nat)(ops:Array Oper):List Nat->Option zcq->St->(St->Option ρ)->Option ρ
 | [],_,σ,K=>K σ
 | i::rest,pin,σ,K=>match ops[i]? with
  | some o=>match zgo Γ T σ o pin with
   | .no=>ze7 ops o σ (λσ=>iDo Γ T N o σ λσ'=>iOps Γ T N ops rest none σ' K) λσ'=>iOps Γ T N ops rest none σ' K
   | .still p=>match z7v T σ o.op with
    | some (c,s)=>cond (zrt N o.op c) (iOps Γ T N ops rest (some p) (zi9 σ o.dst (zrr N o.op s)) K) none
    | none=>none
   | .sub p f args=>iSub Γ N p f args o.dst σ λσ'=>iOps Γ T N ops rest none σ' K
   | .put p _ k t x=>znd T p k t x σ λσ'=>iOps Γ T N ops rest none σ' K
  | none=>none
def iStill(T:Tab)(N:Nat)(o:Oper)(σ:St)(K:St->Option ρ):Option ρ :=
 match z7v T σ o.op with
 | some (c,s)=>cond (zl6 o.op s) (cond (zrt N o.op c) (K (zi9 σ o.dst (zrr N o.op s))) none) none
 | none=>none
def zhc(f:Nat->Bool):List Nat->Option Nat
 | []=>none
 | i::l=>cond (f i) (some i) (zhc f l)
def zan(Γ:Gm)(o:Oper):Bool:=match zjn o.op with
 | some (f,_)=>match Γ.g f with
  | some en=>z82 en.sig.ps
  | none=>false
 | none=>match zca o.op with
  | some _=>true
  | none=>match o.op with
   | .slice _ _ _ _ _=>true
   | .build _ _=>true
   | .makeSlice _ _ _=>true
   | .alloc _=>true
   | .box _ _=>true
   | .buildSlice _ _ _=>true
   | _=>z49 o.op
def zjq(Γ:Gm)(ops:Array Oper)(j:Nat):Bool:=match ops[j]? with
 | some oj=>!(zdr oj.op)&&(List.range ops.size).any λi=>!(Nat.beq i j)&&(match ops[i]? with
  | some oi=>!(zan Γ oi)&&!(z5e ops 4 i j||z5e ops 4 j i)
  | none=>false)
 | none=>false
def zjr(Γ:Gm)(ops:Array Oper)(listed:Array Bool)(i:Nat):Bool:=match ops[i]? with
 | some o=>z49 o.op&&(Region.free .any ops listed i&&!(zjq Γ ops i))
 | none=>false
def zll(T:Tab)(σ:St)(o:Oper)(pin:Option zcq):Option zcq:=match zn6 T σ o with
 | some p=>some p
 | none=>match pin,o.guard with
  | some p,none=>match elPin T σ p o.op o.dst with
   | some p'=>some p'
   | none=>cond (z59 p.d o.dst&&z89 p o.dst) (some p) none
  | _,_=>none
def putOf(o:Oper)(pin:Option zcq):Option (zcq×Nat×Int×Nat×Operand):=match pin,o.guard with
 | some p,none=>match zn1 p o.op o.dst with
  | some y=>some (p,y)
  | none=>none
 | _,_=>none
noncomputable def iAny(Γ:Gm)(T:Tab)(N:Nat)(ops:Array Oper):Nat->Array Bool->Option zcq->St->(St->Option ρ)->Option ρ
 | 0,listed,_,σ,K=>cond (Region.ready .any ops listed).isEmpty (K σ) none
 | fuel+1,listed,pin,σ,K=>match Region.ready .any ops listed with
  | []=>K σ
  | r::rs=>match zhc (zjr Γ ops listed) (r::rs)with
   | some i=>match ops[i]? with
    | some o=>ze7 ops o σ (λσ=>iStill T N o σ λσ'=>iAny Γ T N ops fuel (listed.setIfInBounds i true) (zll T σ o pin) σ' K) λσ'=>iAny Γ T N ops fuel (listed.setIfInBounds i true) none σ' K
    | none=>none
   | none=>zs9 (λr=>match ops[r]? with
    | some o=>cond (zan Γ o||zez ops (zjq Γ ops) r) (match putOf o pin with
     | some (p,_,k,t,x)=>cond (zez ops (zjq Γ ops) r) (znd T p k t x σ λσ'=>iAny Γ T N ops fuel (listed.setIfInBounds r true) none σ' K) none
     | none=>ze7 ops o σ (λσ=>iDo Γ T N o σ λσ'=>iAny Γ T N ops fuel (listed.setIfInBounds r true) none σ' K) λσ'=>iAny Γ T N ops fuel (listed.setIfInBounds r true) none σ' K) none
    | none=>none) (r::rs)
noncomputable def zlo(Γ:Gm)(T:Tab)(N:Nat)(ops:Array Oper)(draw:Bool)(σ:St)(K:St->Option ρ):Option ρ :=
 cond draw (cond (Region.noSelect ops) (iAny Γ T N ops ops.size (Array.replicate ops.size false) none σ K) none) (iOps Γ T N ops (List.range ops.size) none σ K)
def zei(n:Nat)(ops:Array Oper):Bool:=ops.toList.all λo=>match o.dst with
 | some d=>Nat.blt d n
 | none=>true
end
structure GOk(P:Program)[Inv P](Γ:Gm):Prop where
 g:∀f en,Γ.g f=some en->z0l P f en/\∀p∈en.sig.rs,p.agg=false->p.t.nc=1
 m:∀f en,Γ.m f=some en->z5c P f en/\∀p∈en.rs,p.agg=false->p.t.nc=1
 v:∀f en,Γ.v f=some en->z24 P f en/\∀p∈en.rs,p.agg=false->p.t.nc=1
 n:∀f en,Γ.n f=some en->z6r P f en
structure GAt(P:Program)(w0:World)(lab0:Nat->Lab)(Γ:Gm):Prop where
 g:∀f en,Γ.g f=some en->zeq P w0 lab0 f en/\∀p∈en.sig.rs,p.agg=false->p.t.nc=1
 m:∀f en,Γ.m f=some en->zi6 P w0 lab0 f en/\∀p∈en.rs,p.agg=false->p.t.nc=1
 v:∀f en,Γ.v f=some en->zi4 P w0 lab0 f en/\∀p∈en.rs,p.agg=false->p.t.nc=1
 n:∀f en,Γ.n f=some en->zi5 P w0 lab0 f en
def GOk.at{P:Program}[Inv P]{Γ:Gm}(h:GOk P Γ){w0:World}{lab0:Nat->Lab}(hI:Inv.I P w0)(hB:∀k,Inv.B P k->lab0 k=.st):GAt P w0 lab0 Γ :=
 ⟨λf en hf=>⟨(h.g f en hf).1.at hI hB,(h.g f en hf).2⟩,λf en hf=>⟨(h.m f en hf).1.at hI hB,(h.m f en hf).2⟩,λf en hf=>⟨(h.v f en hf).1.at hI hB,(h.v f en hf).2⟩,λf en hf=>(h.n f en hf).at hI hB⟩
section
variable {P : Program} {σ σ' : St} {E E' : Env} {w w' : World} {w0 : World} {lab0 : Nat → Lab} {oo : Nat → Value} {n : Nat} {a : Act} {T : Tab} {Γ : Gm} {ρ : Type} {ops : Array Oper} {N : Nat}
def z38(h:zei n ops=true){i:Nat}{o:Oper}(ho:ops[i]? = some o):∀d,o.dst=some d->d<n:=by
 intro d hd
 have hm:o∈ops.toList:=by
  have:=Array.mem_of_getElem? ho
  simpa using this
 have:=List.all_eq_true.1 h o hm
 rw[hd]at this
 simpa using this
def zeg(h:R w0 lab0 oo n σ E a w):∀args:List Operand,z1p (z3q σ E w) (args.map (ev σ)) (args.map a.eval)
 | []=>trivial
 | x::l=>⟨z1u h x,zeg h l⟩
def z9q{op:Op}{f:Nat}{args:List Operand}(h:zjn op=some (f,args)):∃arr ts,op=.call { callee:=.value (.func f),args:=arr,argTypes:=ts }/\arr.toList=args:=by
 unfold zjn at h
 split at h
 ·rename_i f' arr ts
  injection h with h
  injection h with e1 e2
  subst e1
  exact⟨arr,ts,rfl,e2⟩
 ·cases h
def z6p{op:Op}{f:Nat}{args:List Operand}(h:zel σ op=some (f,args)):∃x arr ts,op=.call { callee:=.value x,args:=arr,argTypes:=ts }/\arr.toList=args/\ev σ x=.c (.fn f []):=by
 unfold zel at h
 split at h
 ·rename_i x arr ts
  split at h
  ·rename_i f' hf
   injection h with h
   injection h with e1 e2
   subst e1
   exact⟨x,arr,ts,rfl,e2,hf⟩
  ·cases h
 ·cases h
def ev_fn(h:R w0 lab0 oo n σ E a w){x:Operand}{f:Nat}(hx:ev σ x=.c (.fn f [])):a.eval x=.func (.func f) #[] #[]:=by
 have:=z1u h x
 rw[hx]at this
 exact this.1
def zri(hT:TOk P T)(h:R w0 lab0 oo n σ E a w){o:Oper}(hn:zrj T σ o.op=true):∃b,(execOp a.eval o).run P w=.ok (.value (.bool b)) w:=by
 obtain⟨dst,op,oty,pos,after,guard⟩:=o
 simp only at hn
 unfold zrj at hn
 split at hn
 ·rename_i op t x y t'
  simp only[Bool.and_eq_true]at hn
  obtain⟨hop,hn⟩:=hn
  obtain⟨ti,A,m,c,ht,hel,hx,hy⟩:∃(ti:TI) (A:Option Addr) (m c:Nat),T t=some ti/\ti.el.isSome=true/\a.eval x=.slice A m c/\a.eval y=.slice none 0 0:=by
   split at hn
   ·rename_i ti _ _ _ _ ht hx hy
    have rx:=z1u h x
    have ry:=z1u h y
    rw[hx]at rx
    rw[hy]at ry
    obtain⟨A,m,d,e,_⟩:=rx.c_inv
    injection e with e
    exact⟨ti,A,m,d,ht,hn,e,ry.c_inv⟩
   ·rename_i ti r ht hx hy
    have rx:=z1u h x
    have ry:=z1u h y
    rw[hx]at rx
    rw[hy]at ry
    obtain⟨e,_,A,m,d,e'⟩:=rx.c_inv
    exact⟨ti,A,m,d,ht,(by simp only[Bool.and_eq_true]at hn;exact hn.1),e.trans (e▸e'),ry.c_inv⟩
   ·cases hn
  obtain⟨e,he⟩:=Option.isSome_iff_exists.1 hel
  have hu:=z41 hT ht he
  have heq:(Op.equal t (.slice A m c) (.slice none 0 0)).run P w=.ok A.isNone w:=by
   have key:∀d,(Op.equalIn (d+1) t (.slice A m c) (.slice none 0 0)).run P w=.ok A.isNone w:=λd=>by
    cases A<;>simp[Op.equalIn,run_underlying hu]
   exact key 9999
  have hguard:(eqGuard op t x y (.slice A m c) (.slice none 0 0)).run P w=.ok () w:=z7a (λu e=>by cases e) (λe=>by cases e)
  cases op<;>simp only[eqOp]at hop<;>try contradiction
  ·refine⟨A.isNone, ?_⟩
   simp only[execOp,hx,hy]
   rw[Sem.run_bind,Sem.run_bind,hguard]
   have:binOp .eql t (.slice A m c) (.slice none 0 0)=(do pure (.bool (<-Op.equal t (.slice A m c) (.slice none 0 0))):Sem Value):=rfl
   simp[this,heq]
  ·refine⟨!A.isNone, ?_⟩
   simp only[execOp,hx,hy]
   rw[Sem.run_bind,Sem.run_bind,hguard]
   have:binOp .neq t (.slice A m c) (.slice none 0 0)=(do pure (.bool (!(<-Op.equal t (.slice A m c) (.slice none 0 0)))):Sem Value):=rfl
   simp[this,heq]
 ·cases hn
def zjp(hT:TOk P T)(hΓ:GAt P w0 lab0 Γ)(h:R w0 lab0 oo n σ E a w){o:Oper}(hd:∀d,o.dst=some d->d<n){K:St->Option ρ}{r:ρ}(hr:iDo Γ T N o σ K=some r){next:Act->World->Prop}{Q:Exit->Act->World->Prop}
  (hK:∀σ' E' v w',K σ'=some r->R w0 lab0 oo n σ' E' (a.put o.dst v) w'->(zan Γ o=true->Ext w w')->next (a.put o.dst v) w'):o.wp P a w next Q:=by
 unfold iDo at hr
 split at hr
 ·rename_i c x y hp
  have hop:o.op=.pick c x y:=by
   obtain⟨dst,op,oty,pos,after,guard⟩:=o
   simp only at hp ⊢
   cases op<;>simp only[zca]at hp<;>try contradiction
   injection hp with hp
   injection hp with e1 e2
   injection e2 with e2 e3
   rw[e1,e2,e3]
  split at hr
  ·rename_i b hb
   have hc:=z1u h c
   rw[hb]at hc
   have hc:a.eval c=.bool b:=hc
   have hrun:(execOp a.eval o).run P w=.ok (.value (if b then a.eval x else a.eval y)) w:=by
    simp[execOp,hop,hc,asBool]
   unfold Oper.wp
   rw[hrun]
   cases b
   ·exact hK _ E _ w hr (h.iput hd (z1u h y)) λ_=>Ext.refl w
   ·exact hK _ E _ w hr (h.iput hd (z1u h x)) λ_=>Ext.refl w
  ·cases hr
 ·rename_i hnp
  split at hr
  ·rename_i f args hcall
   split at hr
   ·rename_i en hen
    split at hr
    ·rename_i X hX
     rw[zao]at hr
     cases hpre:z4f en.pre X
     ·rw[hpre]at hr;cases hr
     rw[hpre]at hr
     simp only[cond_true,zaw]at hr
     have hG:en.G X=some (en.val X):=by unfold z2j.G;rw[hpre];rfl
     split at hr
     ·rename_i σ' hout
      obtain⟨hE,hfl⟩:=hΓ.g f en hen
      obtain⟨x0,arr,ts,hop,harr,hx0⟩:=z6p hcall
      have hev:a.eval x0=.func (.func f) #[] #[]:=(ev_fn h hx0)
      have hs:z1p (z3q σ E w) (args.map (ev σ)) (arr.map a.eval).toList:=by
       rw[Array.toList_map,harr]
       exact zeg h args
      have hq:zan Γ o=true->z82 en.sig.ps=true:=by
       intro hq
       unfold zan at hq
       split at hq
       ·rename_i f' args' hcs
        obtain⟨arr',ts',hop',_⟩:=z9q hcs
        rw[hop]at hop'
        injection hop' with hop'
        injection hop' with e1 e2 e3
        injection e1 with e1
        subst e1
        have hx0:SV.c (.fn f' [])=.c (.fn f []):=hx0
        injection hx0 with hx0
        injection hx0 with hx0
        subst hx0
        rw[hen]at hq
        exact hq
       ·rw[hop]at hq
        simp[zca,z49]at hq
      have hrun:(execOp a.eval o).run P w=(callFunc f (arr.map a.eval)).run P w:=by
       simp[execOp,hop,resolve,hev,Deferred.ofValue,invoke]
      unfold Oper.wp
      rw[hrun]
      rcases zpv hE h hs hX hG hd hfl hout with⟨h1,h2⟩ | ⟨v,w',h1,v',E',he,h2,h3⟩
      ·rw[h1,Oper.upon_enter]
       refine h2.mono ?_
       rintro e w' ⟨v,E',rfl,h3,h4⟩
       exact hK σ' E' v w' hr h3 λhqq=>h4 (hq hqq)
      ·injection he with he
       subst he
       rw[h1]
       exact hK σ' E' v w' hr h2 λhqq=>h3 (hq hqq)
     ·cases hr
    ·cases hr
   ·rename_i hng
    split at hr
    ·rename_i en hen
     split at hr
     ·rename_i qs X hX
      rw[zao]at hr
      cases hpre:z4f en.pre X
      ·rw[hpre]at hr;cases hr
      rw[hpre]at hr
      simp only[cond_true,zaw]at hr
      split at hr
      ·rename_i σ' hout
       obtain⟨hE,hfl⟩:=hΓ.m f en hen
       obtain⟨x0,arr,ts,hop,harr,hx0⟩:=z6p hcall
       have hev:a.eval x0=.func (.func f) #[] #[]:=(ev_fn h hx0)
       have hs:z1p (z3q σ E w) (args.map (ev σ)) (arr.map a.eval).toList:=by
        rw[Array.toList_map,harr]
        exact zeg h args
       have hq:zan Γ o=true->False:=by
        intro hq
        unfold zan at hq
        split at hq
        ·rename_i f' args' hcs
         obtain⟨arr',ts',hop',_⟩:=z9q hcs
         rw[hop]at hop'
         injection hop' with hop'
         injection hop' with e1 e2 e3
         injection e1 with e1
         subst e1
         have hx0:SV.c (.fn f' [])=.c (.fn f []):=hx0
         injection hx0 with hx0
         injection hx0 with hx0
         subst hx0
         rw[hng]at hq
         cases hq
        ·rw[hop]at hq
         simp[zca,z49]at hq
       have hrun:(execOp a.eval o).run P w=(callFunc f (arr.map a.eval)).run P w:=by
        simp[execOp,hop,resolve,hev,Deferred.ofValue,invoke]
       unfold Oper.wp
       rw[hrun]
       rcases zme hE h hs hX hpre hd hfl hout with⟨h1,h2⟩ | ⟨v,w',h1,v',E',he,h2⟩
       ·rw[h1,Oper.upon_enter]
        refine h2.mono ?_
        rintro e w' ⟨v,E',rfl,h3⟩
        exact hK σ' E' v w' hr h3 λhqq=>(hq hqq).elim
       ·injection he with he
        subst he
        rw[h1]
        exact hK σ' E' v w' hr h2 λhqq=>(hq hqq).elim
      ·cases hr
     ·cases hr
    ·obtain⟨x0,arr,ts,hop,harr,hx0⟩:=z6p hcall
     have hev:a.eval x0=.func (.func f) #[] #[]:=(ev_fn h hx0)
     have hs:z1p (z3q σ E w) (args.map (ev σ)) (arr.map a.eval).toList:=by
      rw[Array.toList_map,harr]
      exact zeg h args
     have hq:zan Γ o=true->False:=by
      intro hq
      unfold zan at hq
      split at hq
      ·rename_i f' args' hcs
       obtain⟨arr',ts',hop',_⟩:=z9q hcs
       rw[hop]at hop'
       injection hop' with hop'
       injection hop' with e1 e2 e3
       injection e1 with e1
       subst e1
       have hx0:SV.c (.fn f' [])=.c (.fn f []):=hx0
       injection hx0 with hx0
       injection hx0 with hx0
       subst hx0
       rw[hng]at hq
       cases hq
      ·rw[hop]at hq
       simp[zca,z49]at hq
     have hrun:(execOp a.eval o).run P w=(callFunc f (arr.map a.eval)).run P w:=by
      simp[execOp,hop,resolve,hev,Deferred.ofValue,invoke]
     have fin:∀σ',K σ'=some r->(z48 P f (arr.map a.eval) w λe w'=>∃v E',e=.returned v/\R w0 lab0 oo n σ' E' (a.put o.dst v) w')->o.wp P a w next Q:=by
      intro σ' hr hcalls
      unfold Oper.wp
      rw[hrun]
      rcases hcalls with⟨h1,h2⟩ | ⟨v,w',h1,v',E',he,h2⟩
      ·rw[h1,Oper.upon_enter]
       refine h2.mono ?_
       rintro e w' ⟨v,E',rfl,h3⟩
       exact hK σ' E' v w' hr h3 λhqq=>(hq hqq).elim
      ·injection he with he
       subst he
       rw[h1]
       exact hK σ' E' v w' hr h2 λhqq=>(hq hqq).elim
     split at hr
     ·rename_i en hen
      split at hr
      ·rename_i qs X hX
       rw[zao]at hr
       cases hpre:z4f en.pre X
       ·rw[hpre]at hr;cases hr
       rw[hpre]at hr
       simp only[cond_true,zaw]at hr
       split at hr
       ·rename_i σ' hout
        obtain⟨hE,hfl⟩:=hΓ.v f en hen
        exact fin σ' hr (zmb hE h hs hX hpre hd hfl hout)
       ·cases hr
      ·cases hr
     ·split at hr
      ·rename_i en hen
       split at hr
       ·rename_i X hX
        rw[zao]at hr
        cases hpre:z4f en.pre X
        ·rw[hpre]at hr;cases hr
        rw[hpre]at hr
        simp only[cond_true]at hr
        split at hr
        ·rename_i σ' hout
         exact fin σ' hr (zmd (hΓ.n f en hen) h hs hX hpre hd hout)
        ·cases hr
       ·cases hr
      ·cases hr
  ·rename_i hnc
   split at hr
   ·rename_i c s hv
    rw[zh2,zh1,z1t]at hr
    cases c
    ·cases hne:zrj T σ o.op
     ·rw[hne]at hr;cases hr
     ·rw[hne]at hr
      obtain⟨q1,q2⟩:=zko (show z6d _ _=some r from hr)
      obtain⟨b,h1⟩:=zri hT h hne
      unfold Oper.wp
      rw[h1]
      cases b
      ·exact hK _ E _ w q2 (h.iput hd rfl) λ_=>Ext.refl w
      ·exact hK _ E _ w q1 (h.iput hd rfl) λ_=>Ext.refl w
    ·have hr:K (zi9 σ o.dst s)=some r:=by cases hne:zrj T σ o.op<;>(rw[hne]at hr;exact hr)
     obtain⟨v,h1,h2⟩:=z4z hT h hv rfl
     unfold Oper.wp
     rw[h1]
     exact hK _ E v w hr (h.iput hd h2) λ_=>Ext.refl w
   ·rename_i hv
    rw[Out.kL_eq]at hr
    obtain⟨σ',h1,h2⟩:=Out.k_run hr
    have hnq:zan Γ o=true->ze1 o.op=true:=by
     intro hq
     unfold aMem at h1
     split at h1
     all_goals first | (cases h1;done) | (rename_i he;rw[he];unfold zan at hq;rw[he]at hq;simp[zjn,zca,z49,ze1]at hq ⊢;done) | (rename_i he _;rw[he];unfold zan at hq;rw[he]at hq;simp[zjn,zca,z49,ze1]at hq ⊢;done)
    rcases zpz hT h hd h1 with⟨v,w',E',g1,gx,g2⟩ | ⟨w',E',g1,g2⟩
    ·unfold Oper.wp
     rw[g1]
     exact hK σ' E' v w' h2 g2 λhq=>gx (hnq hq)
    ·have hnm:ze1 o.op=false:=by
      cases hm:ze1 o.op
      ·rfl
      ·exfalso
       unfold ze1 at hm
       split at hm
       ·rename_i he
        unfold execOp at g1
        rw[he]at g1
        simp only at g1
        rw[Sem.run_bind]at g1
        cases hX:(Instr.makeSlice _ _ _).run P w<;>rw[hX]at g1<;>simp[Result.andThen]at g1
       ·rename_i he
        unfold execOp at g1
        rw[he]at g1
        simp only at g1
        rw[Sem.run_bind]at g1
        cases hX:(Instr.alloc _ _ _).run P w<;>rw[hX]at g1<;>simp[Result.andThen]at g1
       ·rename_i he
        unfold execOp at g1
        rw[he]at g1
        simp only at g1
        rw[Sem.run_bind]at g1
        cases hX:(Instr.box _ _).run P w<;>rw[hX]at g1<;>simp[Result.andThen]at g1
       ·rename_i he
        unfold execOp at g1
        rw[he]at g1
        simp only at g1
        rw[Sem.run_bind]at g1
        cases hX:(Instr.buildSlice _ _ _).run P w<;>rw[hX]at g1<;>simp[Result.andThen]at g1
       ·cases hm
     unfold Oper.wp
     rw[g1]
     exact hK σ' E' undef w' h2 g2 λhq=>by rw[hnm]at hnq;exact absurd (hnq hq) (by simp)
def R.seen(h:R w0 lab0 oo n σ E a w){t:Nat}(ht:t<n){b:Bool}(hb:σ.slot t=.c (.bool b)):R w0 lab0 oo n (σ.put t (.c (.bool b))) E a w/\a.tmps[t]? = some (.bool b):=by
 have hs:=h.slots t
 rw[hb]at hs
 have hbd:=h.bound
 have hv:z5r oo a t=.bool b:=hs
 unfold z5r at hv
 rw[if_pos (by omega)]at hv
 have hlt:t<a.tmps.size:=by rw[h.size];exact ht
 have hget:a.tmps[t]? = some (.bool b):=by
  rw[Array.getD_eq_getD_getElem?,Array.getElem?_eq_getElem hlt]at hv
  rw[Array.getElem?_eq_getElem hlt]
  exact congrArg some hv
 refine⟨?_,hget⟩
 have:=h.put (d:=t) (s:=.c (.bool b)) (v:=.bool b) ht rfl
 have e:a.put (some t) (.bool b)=a:=by
  unfold Act.put
  have:a.tmps.setIfInBounds t (.bool b)=a.tmps:=by
   apply Array.ext_getElem?
   intro i
   rw[Array.getElem?_setIfInBounds]
   by_cases e:t=i
   ·subst e;rw[if_pos rfl,if_pos hlt,hget]
   ·rw[if_neg e]
  simp only[this]
 rwa [e]at this
def z8e(h:R w0 lab0 oo n σ E a w)(hops:zei n ops=true){i:Nat}{o:Oper}(ho:ops[i]? = some o){F K:St->Option ρ}{r:ρ}(hr:ze7 ops o σ F K=some r){G:Prop}
  (hF:∀σ',R w0 lab0 oo n σ' E a w->F σ'=some r->Region.wanted o (yielded ops a.tmps)=true->G)
  (hK:∀σ',R w0 lab0 oo n σ' E (a.put o.dst undef) w->K σ'=some r->Region.wanted o (yielded ops a.tmps)=false->G):G:=by
 have hd:=z38 hops ho
 unfold ze7 at hr
 split at hr
 ·rename_i hg
  exact hF σ h hr (by simp[Region.wanted,hg])
 ·rename_i j want hg
  split at hr
  ·rename_i t ht
   have htn:t<n:=by
    unfold gslot at ht
    split at ht
    ·rename_i oj hoj
     exact z38 hops hoj t ht
    ·cases ht
   have hbind:(ops[j]?).bind (·.dst)=some t:=by
    unfold gslot at ht
    split at ht
    ·rename_i oj hoj
     rw[hoj];exact ht
    ·cases ht
   split at hr
   ·rename_i b hb
    obtain⟨h1,h2⟩:=h.seen htn hb
    have hy:yielded ops a.tmps j=some b:=by
     unfold yielded
     rw[hbind]
     simp[h2]
    have hw:Region.wanted o (yielded ops a.tmps)=(b == want):=by
     unfold Region.wanted
     rw[hg]
     simp only[hy]
     cases b<;>cases want<;>rfl
    cases b<;>cases want
    ·exact hF _ h1 hr (by rw[hw];rfl)
    ·exact hK _ (h1.iput (s:=.tup []) hd ⟨#[],rfl,trivial⟩) hr (by rw[hw];rfl)
    ·exact hK _ (h1.iput (s:=.tup []) hd ⟨#[],rfl,trivial⟩) hr (by rw[hw];rfl)
    ·exact hF _ h1 hr (by rw[hw];rfl)
   ·rename_i l hb
    have hs:=h.slots t
    rw[hb]at hs
    obtain⟨arr,hv,_⟩:=hs
    have hbd:=h.bound
    unfold z5r at hv
    rw[if_pos (by omega)]at hv
    have hlt:t<a.tmps.size:=by rw[h.size];exact htn
    have hy:yielded ops a.tmps j=none:=by
     unfold yielded
     rw[hbind]
     rw[Array.getD_eq_getD_getElem?,Array.getElem?_eq_getElem hlt]at hv
     have hv:a.tmps[t]=.tuple arr:=hv
     simp[Array.getElem?_eq_getElem hlt,hv]
    exact hK _ (h.iput (s:=.tup []) hd ⟨#[],rfl,trivial⟩) hr (by unfold Region.wanted;rw[hg];simp[hy])
   ·cases hr
  ·cases hr
def zh8(h:R w0 lab0 oo n σ E a w)(hops:zei n ops=true){i:Nat}{o:Oper}(ho:ops[i]? = some o){F K:St->Option ρ}{r:ρ}(hr:ze7 ops o σ F K=some r){G:Prop}
  (hF:∀σ',R w0 lab0 oo n σ' E a w->(o.guard=none->σ'=σ)->F σ'=some r->Region.wanted o (yielded ops a.tmps)=true->G)
  (hK:∀σ',R w0 lab0 oo n σ' E (a.put o.dst undef) w->K σ'=some r->Region.wanted o (yielded ops a.tmps)=false->G):G:=by
 cases hg:o.guard with
 | none =>
  unfold ze7 at hr
  rw[hg]at hr
  exact hF σ h (λ_=>rfl) hr (by simp[Region.wanted,hg])
 | some q=>exact z8e h hops ho hr (λσ' h' hF' hw=>hF σ' h' (λhn=>by rw[hg]at hn;cases hn) hF' hw) hK
def z8u{i:Nat}{o:Oper}(ho:ops[i]? = some o){next:Act->World->Prop}{Q:Exit->Act->World->Prop}(hw:Region.wanted o (yielded ops a.tmps)=true)(h:o.wp P a w next Q):wpOp P ops Q i next a w:=by
 unfold wpOp
 rw[ho]
 simp only[hw,if_true]
 exact .inl h
def zic{i:Nat}{o:Oper}(ho:ops[i]? = some o){next:Act->World->Prop}{Q:Exit->Act->World->Prop}(hw:Region.wanted o (yielded ops a.tmps)=false)(h:next (a.put o.dst undef) w):wpOp P ops Q i next a w:=by
 unfold wpOp
 rw[ho]
 simp only[hw]
 exact h
def ElOk(a:Act)(p:zcq):Prop:=∀e k,p.el=some (e,k)->0<=k/\∃g m c,a.eval (.tmp p.d)=.slice (some ⟨g,0,none⟩) m c/\k<m/\a.eval (.tmp e)=.pointer (some ⟨g,k.toNat,none⟩)
def zbx(σ:St)(E:Env)(a:Act)(w:World)(pin:Option zcq):Prop:=∀p,pin=some p->p.d<100000->(∃row,Pin σ E w p.r p.i p.f row (a.eval (.tmp p.d)))/\ElOk a p
def zjo{α β:Type}(g:α->β):∀(ps:List PT) (xs:List α) {x:α},z9r ps xs=some x->z9r ps (xs.map g)=some (g x)
 | [],[],_,h=>by cases h
 | [],_::_,_,h=>by cases h
 | _::_,[],_,h=>by cases h
 | p::ps,y::ys,x,h=>by
  simp only[z9r,List.map_cons]at h ⊢
  cases hio:p.io
  ·rw[hio]at h
   exact zjo g ps ys h
  ·rw[hio]at h
   injection h with h
   subst h
   rfl
def zc7(hT:TOk P T)(h:R w0 lab0 oo n σ E a w){o:Oper}{p:zcq}(hp:zn6 T σ o=some p)(hd:∀d,o.dst=some d->d<n){c:Bool}{s:SV}(hv:z7v T σ o.op=some (c,s))(hc:c=true) :
  o.guard=none/\∃v,(execOp a.eval o).run P w=.ok (.value v) w/\z3q σ E w s v/\zbx (zi9 σ o.dst s) E (a.put o.dst v) w (some p):=by
 obtain⟨v,h1,h2⟩:=z4z hT h hv hc
 have hbd:=h.bound
 obtain⟨dst,op,oty,pos,after,guard⟩:=o
 unfold zn6 at hp
 simp only at hp hd h1 ⊢
 split at hp
 ·rename_i t x d
  split at hp
  ·rename_i r i f hx
   split at hp
   ·rename_i row ti hrow ht
    cases hq:(row.deep&&(ti.el.isSome&&!ti.agg))
    ·rw[hq]at hp;cases hp
    rw[hq]at hp
    injection hp with hp
    subst hp
    simp only[Bool.and_eq_true,Bool.not_eq_true']at hq
    refine⟨rfl,v,h1,h2,λp hp hlt=>?_⟩
    injection hp with hp
    subst hp
    have hdn:=hd d rfl
    have rx:=z1u h x
    rw[hx]at rx
    obtain⟨row',g,m,c',e1,e2,e3,e4,e5,e6⟩:=rx.c_inv
    rw[hrow]at e1
    injection e1 with e1
    subst e1
    refine⟨⟨row,hrow,hq.1,e3,e4,g,m,c',e2, ?_⟩,λe k he=>by cases he⟩
    have hev:(a.put (some d) v).eval (.tmp d)=v:=by
     show(a.tmps.setIfInBounds d v).getD d undef=v
     rw[z91 _ _ _ _ (by rw[h.size];exact hdn),if_pos rfl]
    rw[hev]
    have hagg:=zu3 hT ht w
    rw[hq.2.2]at hagg
    simp only[execOp,e6]at h1
    obtain⟨u,hcl⟩:∃u,w.cell? ⟨g,i.toNat*row.t.nc+f,none⟩=some u:=by
     have hal:zkw σ (.elt r i f) 1=some (((z4k row.t (row.xs.getD i.toNat row.t.dflt) (cond row.deep (some r) none)).drop f).take 1):=by
      simp only[zkw,hrow]
      rw[show Nat.ble (f+1) row.t.nc=true from Nat.ble_eq_true_of_le (by omega)]
      rfl
     obtain⟨ad,vs,f',k1,k2,k3,_⟩:=za7 h hal rx.c_inv
     rw[e6]at k1
     injection k1 with k1
     injection k1 with k1
     exact⟨vs[f'],by rw[k1];exact k3 f' _ (List.getElem?_eq_getElem (by omega))⟩
    simp[Instr.loadAt,Instr.sureAddr,loadVar,hagg,hcl]at h1
    rw[hcl,h1]
   ·cases hp
  ·cases hp
 ·cases hp
def zpa(hT:TOk P T)(hΓ:GAt P w0 lab0 Γ)(h:R w0 lab0 oo n σ E a w){o:Oper}(hd:∀d,o.dst=some d->d<n){p:zcq}{f:Nat}{args:List Operand}(hcall:zel σ o.op=some (f,args))
  {en:z2j} (hen:Γ.g f=some en) (hio:zp8 p.d (z9r en.sig.ps args)=true) (hone:z69 en.sig.ps=true) (hpin:zbx σ E a w (some p)) {K:St->Option ρ} {r:ρ} (hr:iSub Γ N p f args o.dst σ K=some r) {next:Act->World->Prop} {Q:Exit->Act->World->Prop}
  (hK:∀σ' E' v w',K σ'=some r->R w0 lab0 oo n σ' E' (a.put o.dst v) w'->next (a.put o.dst v) w'):o.wp P a w next Q:=by
 obtain⟨x0,arr,ts,hop,harr,hx0⟩:=z6p hcall
 have hev:a.eval x0=.func (.func f) #[] #[]:=ev_fn h hx0
 obtain⟨x,hx,hxd⟩:∃x,z9r en.sig.ps args=some x/\x=.tmp p.d/\p.d<100000:=by
  unfold zp8 at hio
  split at hio
  ·rename_i e he
   simp only[Bool.and_eq_true]at hio
   exact⟨_,he,by rw[Nat.eq_of_beq_eq_true hio.1],by simpa using hio.2⟩
  ·cases hio
 obtain⟨rfl,hlt⟩:=hxd
 obtain⟨⟨row,hp⟩,_⟩:=hpin p rfl hlt
 unfold iSub at hr
 rw[hen,hp.hrow]at hr
 simp only at hr
 split at hr
 ·rename_i X hX
  rw[zao]at hr
  cases hpre:z4f en.pre X
  ·rw[hpre]at hr;cases hr
  rw[hpre]at hr
  simp only[cond_true,zaw]at hr
  have hG:en.G X=some (en.val X):=by unfold z2j.G;rw[hpre];rfl
  split at hr
  ·rename_i x' hx'
   split at hr
   ·rename_i σ' hout
    obtain⟨hE,hfl⟩:=hΓ.g f en hen
    have hs:z1p (z3q σ E w) (args.map (ev σ)) (arr.map a.eval).toList:=by
     rw[Array.toList_map,harr]
     exact zeg h args
    have hrun:(execOp a.eval o).run P w=(callFunc f (arr.map a.eval)).run P w:=by
     simp[execOp,hop,resolve,hev,Deferred.ofValue,invoke]
    have hvv:z9r en.sig.ps (arr.map a.eval).toList=some (a.eval (.tmp p.d)):=by
     rw[Array.toList_map,harr]
     exact zjo a.eval _ _ hx
    unfold Oper.wp
    rw[hrun]
    rcases zqg hE h hs hp hone hvv hX hG hx' hd hfl hout with⟨h1,h2⟩ | ⟨v,w',h1,v',E',he,h2⟩
    ·rw[h1,Oper.upon_enter]
     refine h2.mono ?_
     rintro e w' ⟨v,E',rfl,h3⟩
     exact hK σ' E' v w' hr h3
    ·injection he with he
     subst he
     rw[h1]
     exact hK σ' E' v w' hr h2
   ·cases hr
  ·cases hr
 ·cases hr
def zli{e:Nat}{kk:IntKind}{L:List Nat}{g m c:Nat}{ys:List Int}(ho:Own w (.sl e (.int kk)) L [.slice (some ⟨g,0,none⟩) m c] ys){k:Nat}(hk:k<m)(x:Int) :
  ∃w',(storeCells ⟨g,k,none⟩ [.int kk x] 0).run P w=.ok () w'/\Own w' (.sl e (.int kk)) L [.slice (some ⟨g,0,none⟩) m c] (ys.set k x:List Int)/\g∈L/\(∀j,j≠g->w'.heap[j]? = w.heap[j]?)/\w'.heap.size=w.heap.size/\w'.os=w.os/\w'.tape=w.tape/\w'.output=w.output:=by
 obtain⟨v,css,Ls,hv,h1,rfl,h2⟩:=ho
 injection hv with hv
 subst hv
 have hm:m=ys.length:=by
  rcases h1.2 with⟨h0,_⟩ | ⟨_,_,_,e0,_⟩
  ·cases h0
  ·injection e0
 subst hm
 have key:∀{Ls:List (List Nat)} {css:List (List Value)} {ys:List Int},z45 (λl c y=>Own w (.int kk) l c y) Ls css ys->css.flatten=ys.map (λy=>Value.int kk y)/\css=ys.map (λy=>[Value.int kk y])/\Ls=ys.map (λ_=>[]):=by
  intro Ls
  induction Ls with
  | nil =>
   intro css ys h
   cases css with
   | nil=>cases ys with
    | nil=>exact⟨rfl,rfl,rfl⟩
    | cons _ _=>exact h.elim
   | cons _ _=>cases ys<;>exact h.elim
  | cons l Ls ih =>
   intro css ys h
   cases css with
   | nil=>cases ys<;>exact h.elim
   | cons cc css=>cases ys with
    | nil=>exact h.elim
    | cons y ys =>
     obtain⟨⟨rfl,rfl⟩,h⟩:=h
     obtain⟨i1,i2,i3⟩:=ih h
     exact⟨by simp[i1],by rw[i2];simp,by rw[i3];simp⟩
 obtain⟨j1,j2,j3⟩:=key h2
 have hsz:k+1<=ys.length*(Ty.int kk).nc:=by show k+1<=ys.length*1;omega
 obtain⟨w',hst,ho',hother,hsize,hos⟩:=ownsRow_over (P:=P) (w:=w) (us:=[.int kk x]) (o:=k) h1 hsz (λu hu=>by simp at hu;subst hu;rfl)
 refine⟨w',hst,⟨_,(ys.set k x).map (λy=>[Value.int kk y]),(ys.set k x).map (λ_=>[]),rfl, ?_, ?_, ?_⟩, ?_,hother,hsize,hos.1,hos.2.1,hos.2.2⟩
 ·show World.ownsRow w' 0 e 1 _ (ys.set k x).length _
  rw[List.length_set]
  have hfl:((ys.set k x).map (λy=>[Value.int kk y])).flatten=css.flatten.take k++[.int kk x]++css.flatten.drop (k+1):=by
   have:((ys.set k x).map (λy=>[Value.int kk y])).flatten=(ys.set k x).map (λy=>Value.int kk y):=by
    induction(ys.set k x)with
    | nil=>rfl
    | cons a l ih=>simp[ih]
   rw[this,j1,List.set_eq_take_append_cons_drop,if_pos hk]
   simp
  rw[hfl]
  exact ho'
 ·rw[j3]
  have:∀l:List Int,(l.map λ_=>([]:List Nat)).flatten=[]:=λl=>by induction l with
   | nil=>rfl
   | cons a l ih=>simp[ih]
  rw[this,this]
 ·have:∀l:List Int,z45 (λ(l:List Nat) (c:List Value) (y:Int)=>Own w' (.int kk) l c y) (l.map λ_=>[]) (l.map λy=>[Value.int kk y]) l:=by
   intro l
   induction l with
   | nil=>trivial
   | cons a l ih=>exact⟨⟨rfl,rfl⟩,ih⟩
  exact this _
 ·exact List.mem_append_left _ (by simp[Value.ownBlock])
def zcc(hT:TOk P T)(h:R w0 lab0 oo n σ E a w){o:Oper}{p:zcq}{e:Nat}{k:Int}{t:Nat}{x:Operand}(hput:zn1 p o.op o.dst=some (e,k,t,x))(hpin:zbx σ E a w (some p)){K:St->Option ρ}{r:ρ}(hr:znd T p k t x σ K=some r){next:Act->World->Prop}{Q:Exit->Act->World->Prop}
  (hK:∀σ' E' v w',K σ'=some r->R w0 lab0 oo n σ' E' (a.put o.dst v) w'->next (a.put o.dst v) w'):o.wp P a w next Q:=by
 obtain⟨dst,op,oty,pos,after,guard⟩:=o
 simp only at hput hK ⊢
 unfold zn1 at hput
 split at hput
 ·rename_i t' e' x' e0 k0 hel
  cases hq:(Nat.beq e' e0&&(Nat.blt e0 100000&&Nat.blt p.d 100000))
  ·rw[hq]at hput;cases hput
  rw[hq]at hput
  simp only[cond_true,Option.some.injEq,Prod.mk.injEq]at hput
  obtain⟨rfl,rfl,rfl,rfl⟩:=hput
  simp only[Bool.and_eq_true]at hq
  obtain rfl:=Nat.eq_of_beq_eq_true hq.1
  obtain⟨⟨row,pp⟩,hE⟩:=hpin p rfl (by simpa using hq.2.2)
  obtain⟨hk0,g,m,c,hv,hkm,hptr⟩:=hE _ _ hel
  unfold znd at hr
  rw[pp.hrow]at hr
  simp only at hr
  split at hr
  ·rename_i row1 ti kk mm hr0 ht hx
   injection hr0 with hr0
   subst hr0
   cases hq2:Nat.beq ti.zero.length 1
   ·rw[hq2]at hr;cases hr
   rw[hq2]at hr
   have hsz1:=Nat.eq_of_beq_eq_true hq2
   simp only[cond_true]at hr
   split at hr
   ·rename_i es k' ys hg
    cases hq3:ikEq kk k'
    ·rw[hq3]at hr;cases hr
    rw[hq3]at hr
    obtain rfl:=ze6 hq3
    simp only[cond_true]at hr
    split at hr
    ·rename_i x1 hset
     obtain⟨L,o1,o2,o3,o4⟩:=zle h pp hg
     rw[hv]at o1 o4
     obtain⟨w',g1,g2,g3,g4,g5,g6,g7,g8⟩:=zli (P:=P) o1 (k:=k0.toNat) (by omega) mm
     have hxv:a.eval x'=.int kk mm:=by
      have:=z1u h x'
      rw[hx]at this
      exact this
     obtain⟨f1,W⟩:=o4 g2 hset o2 (λk hk=>.inl hk) (λk hk hkL=>g4 k λe=>hkL (e▸g3))
     have hrun:(execOp a.eval ⟨none,.store t' (.tmp e') x',oty,pos,after,guard⟩).run P w=.ok .skip w':=by
      have hs:=z77 hT ht (v:=.int kk mm) (by rw[hsz1];rfl) (g:=g) (o:=k0.toNat) (w:=w) (w':=w') g1
      simp[execOp,hptr,hxv,hs]
     unfold Oper.wp
     rw[hrun]
     classical
     let E':Env:=⟨λk=>if k∈L then f1 k else E.lab k,E.rv,E.bb⟩
     refine hK _ E' undef w' hr ?_
     show R w0 lab0 oo n _ E' a w'
     refine R.called (E':=E') (qs:=[p.r]) h (λj hj hsp=>?_) ⟨g6,g7,g8⟩ (by omega) rfl (λq row2 hrow=>?_) (λq row2 hrow=>?_)
     ·have hjL:j∉L:=λhl=>hsp p.r (by simp) (.inr (o3 j hl))
      exact⟨g4 j λe=>hjL (e▸g3),if_neg hjL⟩
     ·by_cases hm:q∈[p.r]
      ·obtain⟨ro,row',w1,w2,w3,w4,_⟩:=W.row q hm
       rw[hrow]at w1
       injection w1 with w1
       subst w1
       exact⟨row',w2,rfl,by rw[w3],by omega⟩
      ·exact⟨row2,by rw[W.other q hm];exact hrow,rfl,rfl,Nat.le_refl _⟩
     ·by_cases hm:q∈[p.r]
      ·obtain⟨ro,row',w1,w2,w3,w4,w5⟩:=W.row q hm
       rw[hrow]at w2
       injection w2 with w2
       subst w2
       exact .inr (w5 E'.lab (λk hk=>if_pos hk) (λk _ _ hk=>if_neg hk))
      ·rw[W.other q hm]at hrow
       exact .inl ⟨hm,hrow⟩
    ·cases hr
   ·cases hr
  ·cases hr
 ·cases hput
def zeh(hT:TOk P T)(h:R w0 lab0 oo n σ E a w){o:Oper}{p p':zcq}(hp:elPin T σ p o.op o.dst=some p')(hd:∀d,o.dst=some d->d<n)(hpin:zbx σ E a w (some p)){c:Bool}{s:SV}(hv:z7v T σ o.op=some (c,s))(hc:c=true) :
  ∃v,(execOp a.eval o).run P w=.ok (.value v) w/\z3q σ E w s v/\zbx (zi9 σ o.dst s) E (a.put o.dst v) w (some p'):=by
 obtain⟨v,h1,h2⟩:=z4z hT h hv hc
 refine⟨v,h1,h2, ?_⟩
 obtain⟨dst,op,oty,pos,after,guard⟩:=o
 simp only at hp hd h1 hv ⊢
 unfold elPin at hp
 split at hp
 ·rename_i t d i e
  cases hq:(Nat.beq d p.d&&(Nat.blt d 100000&&!(Nat.beq e d)))
  ·rw[hq]at hp;cases hp
  rw[hq]at hp
  simp only[Bool.and_eq_true,Bool.not_eq_true']at hq
  obtain rfl:=Nat.eq_of_beq_eq_true hq.1
  have hdlt:p.d<100000:=by simpa using hq.2.1
  have hne:e≠p.d:=λhe=>by rw[he,Nat.beq_refl]at hq;cases hq.2.2
  simp only[cond_true]at hp
  split at hp
  ·rename_i e2 t2 xs q kk k ti hdc hic ht
   split at hp
   ·rename_i el hel
    split at hp
    ·rename_i ei row hei hrow
     cases hz:Nat.beq ei.zero.length 1
     ·rw[hz]at hp;cases hp
     rw[hz]at hp
     have hz1:=Nat.eq_of_beq_eq_true hz
     simp only[cond_true]at hp
     split at hp
     ·rename_i e3 k3 ys hg
      injection hp with hp
      subst hp
      obtain⟨⟨row',pp⟩,_⟩:=hpin p rfl hdlt
      have:row'=row:=by
       have:=pp.hrow
       rw[hrow]at this
       injection this with this
       exact this.symm
      subst this
      have hen:=hd e rfl
      have hevd:(a.put (some e) v).eval (.tmp p.d)=a.eval (.tmp p.d):=by
       show(a.tmps.setIfInBounds e v).getD p.d undef=a.tmps.getD p.d undef
       rw[z91 _ _ _ _ (by rw[h.size];exact hen),if_neg (Ne.symm hne)]
      have heve:(a.put (some e) v).eval (.tmp e)=v:=by
       show(a.tmps.setIfInBounds e v).getD e undef=v
       rw[z91 _ _ _ _ (by rw[h.size];exact hen),if_pos rfl]
      obtain⟨L,o1,_,_,_⟩:=zle h pp hg
      obtain⟨v0,css,Ls,hvv,h3,_,_⟩:=o1
      injection hvv with hvv
      have rx:=z1u h (.tmp p.d)
      rw[hdc]at rx
      have ri:=z1u h i
      rw[hic]at ri
      have ri:a.eval i=.int kk k:=ri
      obtain⟨A,m,c2,ev1,ev2,_⟩:=(show z1s σ E w (.sn e2 t2 xs q) (a.eval (.tmp p.d))from rx)
      injection ev1 with ev1
      have hchk:0<=k/\k<(xs.length:Int):=by
       simp only[z7v,ht,hdc,hic,hel,hei]at hv
       simp only[zbw,z1b.weak,z6f]at hv
       cases hb:Nat.beq t2.nc ei.zero.length
       ·rw[hb]at hv;cases hv
       ·rw[hb]at hv
        simp only[cond_true,Option.some.injEq,Prod.mk.injEq]at hv
        rw[<-hv.1]at hc
        simpa using hc
      have hsl:∃g c3,a.eval (.tmp p.d)=.slice (some ⟨g,0,none⟩) m c3:=by
       rcases h3.2 with⟨h0,h00⟩ | ⟨g,cap,cur,e0,_⟩
       ·rw[<-hvv,ev1]at h0
        injection h0 with q1 q2 q3
        omega
       ·rw[<-hvv,ev1]at e0
        injection e0 with q1 q2 q3
        subst q1
        exact⟨g,c2,ev1⟩
      obtain⟨g,c3,hsl⟩:=hsl
      have hu:=z41 hT ht hel
      have hs:=z7m hT hei
      have hvp:v=.pointer (some ⟨g,k.toNat,none⟩):=by
       have hm:k<(m:Int):=by omega
       have:(execOp a.eval ⟨some e,.indexAddr t (.tmp p.d) i,oty,pos,after,guard⟩).run P w=.ok (.value (.pointer (some ((⟨g,0,none⟩:Addr).add (k.toNat*ei.zero.length))))) w:=by
        simp[execOp,hsl,ri,Instr.indexAt,run_underlying hu,asIntOf,hchk.1,hm,hs]
       rw[this]at h1
       injection h1 with h1
       injection h1 with h1
       rw[<-h1,add_lit,hz1]
       simp
      intro p1 hp1 hlt1
      injection hp1 with hp1
      subst hp1
      refine⟨⟨row', ?_⟩,λe1 k1 he1=>?_⟩
      ·show Pin _ E w p.r p.i p.f row' ((a.put (some e) v).eval (.tmp p.d))
       rw[hevd]
       exact⟨pp.hrow,pp.deep,pp.i0,pp.lt,pp.cell⟩
      ·injection he1 with he1
       injection he1 with he1 he2
       subst he1 he2
       refine⟨hchk.1,g,m,c3, ?_,by omega,by rw[heve];exact hvp⟩
       show(a.put (some e) v).eval (.tmp p.d)=_
       rw[hevd]
       exact hsl
     ·cases hp
    ·cases hp
   ·cases hp
  ·cases hp
 ·cases hp
def z65(hT:TOk P T)(hΓ:GAt P w0 lab0 Γ)(hops:zei n ops=true){Q:Exit->Act->World->Prop}{K:St->Option ρ}{r:ρ}
  (hK:∀σ' E' a' w',K σ'=some r->R w0 lab0 oo n σ' E' a' w'->Q .normal a' w') :
  ∀(is:List Nat) {pin:Option zcq} {σ:St} {E:Env} {a:Act} {w:World},R w0 lab0 oo n σ E a w->zbx σ E a w pin->iOps Γ T N ops is pin σ K=some r->wpOps P ops Q is a w
 | [],pin,σ,E,a,w,h,_,hr=>hK σ E a w hr h
 | i::rest,pin,σ,E,a,w,h,hpin,hr=>by
  have nopin:∀{σ:St} {E:Env} {a:Act} {w:World},zbx σ E a w none:=λp hp=>by cases hp
  rw[wpOps_cons]
  simp only[iOps]at hr
  split at hr
  ·rename_i o ho
   split at hr
   ·refine z8e h hops ho hr (λσ' h' hF hw=>z8u ho hw ?_) (λσ' h' hr' hw=>zic ho hw (z65 hT hΓ hops hK rest h' nopin hr'))
    exact zjp hT hΓ h' (z38 hops ho) hF λσ2 E2 v w2 hr2 h2 _=>z65 hT hΓ hops hK rest h2 nopin hr2
   ·rename_i p hm
    split at hr
    ·rename_i c s hv
     rw[zh2,zh1]at hr
     cases c
     ·cases hr
     simp only[cond_true]at hr
     obtain⟨hg,v,h1,h2,h3⟩:o.guard=none/\∃v,(execOp a.eval o).run P w=.ok (.value v) w/\z3q σ E w s v/\zbx (zi9 σ o.dst s) E (a.put o.dst v) w (some p):=by
      unfold zgo at hm
      split at hm
      ·rename_i p' hp'
       injection hm with hm
       subst hm
       exact zc7 hT h hp' (z38 hops ho) hv rfl
      ·split at hm
       ·cases hm
       ·rename_i p' 
        split at hm
        ·cases hm
        ·rename_i hg
         split at hm
         ·split at hm
          ·rename_i en _
           cases hq:(zp8 p'.d (z9r en.sig.ps _)&&z69 en.sig.ps)<;>rw[hq]at hm<;>cases hm
          ·cases hm
         ·split at hm
          ·rename_i p2 hel
           injection hm with hm
           subst hm
           obtain⟨v,h1,h2,h3⟩:=zeh hT h hel (z38 hops ho) hpin hv rfl
           exact⟨hg,v,h1,h2,h3⟩
          split at hm
          ·cases hm
          cases hq:(z49 o.op&&(z59 p'.d o.dst&&z89 p' o.dst))
          ·rw[hq]at hm;cases hm
          rw[hq]at hm
          injection hm with hm
          subst hm
          simp only[Bool.and_eq_true]at hq
          obtain⟨v,h1,h2⟩:=z4z hT h hv rfl
          refine⟨hg,v,h1,h2,λp hp hlt=>?_⟩
          obtain⟨⟨row,k1,k2,k3,k4,k5⟩,hE⟩:=hpin p hp hlt
          injection hp with hp
          subst hp
          have keep:∀z,z59 z o.dst=true->(a.put o.dst v).eval (.tmp z)=a.eval (.tmp z):=by
           intro z hz
           cases hdst:o.dst with
           | none=>rfl
           | some e =>
            have he:=z38 hops ho e hdst
            rw[hdst]at hz
            show(a.tmps.setIfInBounds e v).getD z undef=a.tmps.getD z undef
            rw[z91 _ _ _ _ (by rw[h.size];exact he),if_neg]
            rintro rfl
            simp[z59]at hz
          refine⟨⟨row,⟨?_,k2,k3,k4, ?_⟩⟩,λe k he=>?_⟩
          rotate_left 2
          ·obtain⟨q1,g,m,c,q2,q3,q4⟩:=hE e k he
           refine⟨q1,g,m,c,by rw[keep _ hq.2.1];exact q2,q3, ?_⟩
           rw[keep _ (by have:=hq.2.2;unfold z89 at this;rw[he]at this;exact this)]
           exact q4
          ·cases hdst:o.dst<;>exact k1
          ·rw[keep _ hq.2.1]
           exact k5
     refine z8u ho (by simp[Region.wanted,hg]) ?_
     unfold Oper.wp
     rw[h1]
     exact z65 hT hΓ hops hK rest (h.iput (z38 hops ho) h2) h3 hr
    ·cases hr
   ·rename_i p f args hm
    unfold zgo at hm
    split at hm
    ·cases hm
    ·split at hm
     ·cases hm
     ·rename_i p'
      split at hm
      ·cases hm
      ·rename_i hg
       split at hm
       ·rename_i f' args' hcall
        split at hm
        ·rename_i en hen
         cases hq:(zp8 p'.d (z9r en.sig.ps args')&&z69 en.sig.ps)
         ·rw[hq]at hm;cases hm
         rw[hq]at hm
         injection hm with e1 e2 e3
         subst e1 e2 e3
         simp only[Bool.and_eq_true]at hq
         refine z8u ho (by simp[Region.wanted,hg]) ?_
         exact zpa hT hΓ h (z38 hops ho) hcall hen hq.1 hq.2 hpin hr λσ' E' v w' hr' h'=>z65 hT hΓ hops hK rest h' nopin hr'
        ·cases hm
       ·split at hm
        ·cases hm
        split at hm
        ·cases hm
        ·cases hq:(z49 o.op&&(z59 p'.d o.dst&&z89 p' o.dst))<;>rw[hq]at hm<;>cases hm
   ·rename_i p e k t x hm
    unfold zgo at hm
    split at hm
    ·cases hm
    ·split at hm
     ·cases hm
     ·rename_i p'
      split at hm
      ·cases hm
      ·rename_i hg
       split at hm
       ·split at hm
        ·rename_i en _
         cases hq:(zp8 p'.d (z9r en.sig.ps _)&&z69 en.sig.ps)<;>rw[hq]at hm<;>cases hm
        ·cases hm
       ·split at hm
        ·cases hm
        split at hm
        ·rename_i e1 k1 t1 x1 hput
         injection hm with q1 q2 q3 q4 q5
         subst q1 q2 q3 q4 q5
         refine z8u ho (by simp[Region.wanted,hg]) ?_
         exact zcc hT h hput hpin hr λσ' E' v w' hr' h'=>z65 hT hΓ hops hK rest h' nopin hr'
        ·cases hq:(z49 o.op&&(z59 p'.d o.dst&&z89 p' o.dst))<;>rw[hq]at hm<;>cases hm
  ·cases hr
def NP(Q:Exit->Act->World->Prop):Prop:=∀c a a' w,Q (.panic c) a w->Q (.panic c) a' w
def z8h{f:Nat->Bool}{i:Nat}:∀{l:List Nat},zhc f l=some i->i∈l/\f i=true
 | [],h=>by cases h
 | j::l,h=>by
  simp only[zhc]at h
  cases hb:f j
  ·rw[hb]at h
   exact⟨List.mem_cons_of_mem _ (z8h h).1,(z8h h).2⟩
  ·rw[hb]at h
   injection h with h
   subst h
   exact⟨List.mem_cons_self,hb⟩
def zau(hT:TOk P T)(h:R w0 lab0 oo n σ E a w){o:Oper}{pin:Option zcq}(hd:∀d,o.dst=some d->d<n)(hpin:o.guard=none->zbx σ E a w pin){c:Bool}{s:SV}(hv:z7v T σ o.op=some (c,s))(hc:c=true)
  {v:Value} (h1:(execOp a.eval o).run P w=.ok (.value v) w):zbx (zi9 σ o.dst s) E (a.put o.dst v) w (zll T σ o pin):=by
 have nopin:∀{σ:St} {E:Env} {a:Act} {w:World},zbx σ E a w none:=λp hp=>by cases hp
 have same:∀{v'},(execOp a.eval o).run P w=.ok (.value v') w->v'=v:=λ{v'} h2=>by
  rw[h1]at h2
  injection h2 with h2
  injection h2 with h2
  exact h2.symm
 unfold zll
 split
 ·rename_i p hp
  obtain⟨_,v',k1,_,k2⟩:=zc7 hT h hp hd hv hc
  obtain rfl:=same k1
  exact k2
 ·split
  ·rename_i p hg
   have hpin:=hpin hg
   split
   ·rename_i p' hp'
    obtain⟨v',k1,_,k2⟩:=zeh hT h hp' hd hpin hv hc
    obtain rfl:=same k1
    exact k2
   ·cases hq:(z59 p.d o.dst&&z89 p o.dst)
    ·exact nopin
    ·simp only[Bool.and_eq_true]at hq
     intro p' hp' hlt
     injection hp' with hp'
     subst hp'
     obtain⟨⟨row,k1,k2,k3,k4,k5⟩,hE⟩:=hpin p rfl hlt
     have keep:∀z,z59 z o.dst=true->(a.put o.dst v).eval (.tmp z)=a.eval (.tmp z):=by
      intro z hz
      cases hdst:o.dst with
      | none=>rfl
      | some e =>
       have he:=hd e hdst
       rw[hdst]at hz
       show(a.tmps.setIfInBounds e v).getD z undef=a.tmps.getD z undef
       rw[z91 _ _ _ _ (by rw[h.size];exact he),if_neg]
       rintro rfl
       simp[z59]at hz
     refine⟨⟨row,⟨?_,k2,k3,k4, ?_⟩⟩,λe k he=>?_⟩
     ·cases hdst:o.dst<;>exact k1
     ·rw[keep _ hq.1]
      exact k5
     ·obtain⟨q1,g,m,c,q2,q3,q4⟩:=hE e k he
      refine⟨q1,g,m,c,by rw[keep _ hq.1];exact q2,q3, ?_⟩
      rw[keep _ (by have:=hq.2;unfold z89 at this;rw[he]at this;exact this)]
      exact q4
  ·exact nopin
def z4y(hT:TOk P T)(hΓ:GAt P w0 lab0 Γ)(hops:zei n ops=true)(hsel:Region.noSelect ops=true){Q:Exit->Act->World->Prop}(hQ:NP Q){K:St->Option ρ}{r:ρ}
  (hK:∀σ' E' a' w',K σ'=some r->R w0 lab0 oo n σ' E' a' w'->Q .normal a' w') :
  ∀(fuel:Nat) (listed:Array Bool) {pin:Option zcq} {σ:St} {E:Env} {a:Act} {w:World},z6g ops listed->R w0 lab0 oo n σ E a w->zbx σ E a w pin->iAny Γ T N ops fuel listed pin σ K=some r->z6j P ops (zjq Γ ops) Q fuel listed a w
 | 0,listed,pin,σ,E,a,w,hcl,h,hpin,hr=>by
  simp only[iAny]at hr
  cases hq:(Region.ready .any ops listed).isEmpty
  ·rw[hq]at hr;cases hr
  ·rw[hq]at hr
   exact⟨by simpa using hq,hK σ E a w hr h⟩
 | fuel+1,listed,pin,σ,E,a,w,hcl,h,hpin,hr=>by
  have nopin:∀{σ:St} {E:Env} {a:Act} {w:World},zbx σ E a w none:=λp hp=>by cases hp
  simp only[iAny]at hr
  split at hr
  ·rename_i hre
   exact zl1 hre (hK σ E a w hr h) _
  ·rename_i i0 rs hre
   split at hr
   ·rename_i i hi
    obtain⟨hmem,hfs⟩:=z8h hi
    rw[<-hre]at hmem
    split at hr
    ·rename_i o ho
     obtain⟨hfree,hH⟩:Region.free .any ops listed i=true/\zjq Γ ops i=false:=by
      unfold zjr at hfs
      rw[ho]at hfs
      simp only[Bool.and_eq_true,Bool.not_eq_true']at hfs
      exact⟨hfs.2.1,hfs.2.2⟩
     refine zh8 h hops ho hr (λσ' h' hsame hF hw=>?_) (λσ' h' hr' hw=>?_)
     ·unfold iStill at hF
      split at hF
      ·rename_i c s hv
       rw[zh2,zh1]at hF
       cases hso:zl6 o.op s
       ·rw[hso]at hF;cases hF
       ·rw[hso]at hF
        cases c
        ·cases hF
        ·cases hpo:zdr o.op
         ·obtain⟨v,h1,h2⟩:=zmk hT h' hv rfl hso
          exact zde hH ho hpo hsel hcl hfree hmem (λc a' w' hq=>hQ c _ _ _ hq) (.inl ⟨hw,h1⟩) (z4y hT hΓ hops hsel hQ hK fuel _ (hcl.put hmem) (h'.iput (z38 hops ho) h2) (zau hT h' (z38 hops ho) (λhg=>by have:=hsame hg;subst this;exact hpin) hv rfl (h1 w (Ext.refl w))) hF)
         ·obtain⟨v,h1,h2⟩:=zue hT h' hv rfl hpo
          exact zbz ho hsel hfree hmem (λc a' w' hq=>hQ c _ _ _ hq) (.inl ⟨hw,λw' _=>h1 w'⟩) (z4y hT hΓ hops hsel hQ hK fuel _ (hcl.put hmem) (h'.iput (z38 hops ho) h2) (zau hT h' (z38 hops ho) (λhg=>by have:=hsame hg;subst this;exact hpin) hv rfl (h1 w)) hF)
      ·cases hF
     ·cases hpo:zdr o.op
      ·exact zde hH ho hpo hsel hcl hfree hmem (λc a' w' hq=>hQ c _ _ _ hq) (.inr ⟨hw,rfl⟩) (z4y hT hΓ hops hsel hQ hK fuel _ (hcl.put hmem) h' nopin hr')
      ·exact zbz ho hsel hfree hmem (λc a' w' hq=>hQ c _ _ _ hq) (.inr ⟨hw,rfl⟩) (z4y hT hΓ hops hsel hQ hK fuel _ (hcl.put hmem) h' nopin hr')
    ·cases hr
   ·refine⟨(λhe=>by rw[hre]at he;cases he),λi hi=>?_⟩
    rw[hre]at hi
    have hr:=ze8 hr i hi
    split at hr
    ·rename_i o ho
     cases hq:(zan Γ o||zez ops (zjq Γ ops) i)
     ·rw[hq]at hr;cases hr
     ·rw[hq]at hr
      simp only[cond_true]at hr
      have hext:∀{w'},(zan Γ o=true->Ext w w')->zez ops (zjq Γ ops) i=false->Ext w w':=λh1 h2=>h1 (by simpa[h2]using hq)
      split at hr
      ·rename_i p e k t x hput
       cases hlb:zez ops (zjq Γ ops) i
       ·rw[hlb]at hr;cases hr
       rw[hlb]at hr
       simp only[cond_true]at hr
       unfold putOf at hput
       split at hput
       ·rename_i p' hg
        split at hput
        ·rename_i y hy
         injection hput with hput
         injection hput with q1 q2
         subst q1 q2
         refine z8u ho (by simp[Region.wanted,hg]) ?_
         exact zcc hT h hy hpin hr λσ' E' v w' hr' h'=>⟨(λhlf=>by cases hlf),z4y hT hΓ hops hsel hQ hK fuel _ (hcl.put (by rw[hre];exact hi)) h' nopin hr'⟩
        ·cases hput
       ·cases hput
      refine z8e h hops ho hr (λσ' h' hF hw=>z8u ho hw ?_) (λσ' h' hr' hw=>zic ho hw ⟨λ_=>Ext.refl w,z4y hT hΓ hops hsel hQ hK fuel _ (hcl.put (by rw[hre];exact hi)) h' nopin hr'⟩)
      exact zjp hT hΓ h' (z38 hops ho) hF λσ2 E2 v w2 hr2 h2 h3=>⟨hext h3,z4y hT hΓ hops hsel hQ hK fuel _ (hcl.put (by rw[hre];exact hi)) h2 nopin hr2⟩
    ·cases hr
def zh7(hT:TOk P T)(hΓ:GAt P w0 lab0 Γ)(hm:P.follows .mixedOrders=true)(hops:zei n ops=true){Q:Exit->Act->World->Prop}(hQ:NP Q){K:St->Option ρ}{r:ρ}{id:Nat}{draw:Bool}
  (hK:∀σ' E' a' w',K σ'=some r->R w0 lab0 oo n σ' E' a' w'->Q .normal a' w') (h:R w0 lab0 oo n σ E a w) (hr:zlo Γ T N ops draw σ K=some r):(Code.region id ops draw).wp P Q a w:=by
 unfold zlo at hr
 cases draw
 ·exact wp_region (z65 hT hΓ hops hK _ h (λp hp=>by cases hp) hr)
 ·simp only[cond_true]at hr
  cases hsel:Region.noSelect ops
  ·rw[hsel]at hr;cases hr
  ·rw[hsel]at hr
   refine wp_region_any hm (zfc _ _ _ _ (z4y hT hΓ hops hsel hQ hK _ _ z6g.none (h.ext ?_) (λp hp=>by cases hp) hr))
   exact⟨rfl,rfl,rfl,Nat.le_refl _,λ_ _=>rfl⟩
end
end Go.Fw
namespace Go.Fw
open Go.RowKit
def z1i{α:Type}:List (Nat×α)->Nat->Option α
 | [],_=>none
 | (k,v)::l,t=>cond (Nat.beq t k) (some v) (z1i l t)
structure Loc where
 bx:Bool
 k:Nat
 i:Nat
structure NilD where
 loc:Loc
 nm:Nat
 e:Nat
 t:Ty
 deep:Bool
structure z01 where
 slots:List Nat
 boxes:List Nat
 nils:List NilD
 frz:List (Loc×Nat×Ty)
 rows:List (Loc×Nat)
def zek(σ:St)(l:Loc):Option z1b :=
 cond l.bx (match σ.box l.k with
  | some (_,cs)=>cs[l.i]?
  | none=>none)
 (match σ.slot l.k with
  | .c x=>cond (Nat.beq l.i 0) (some x) none
  | .agg cs=>cs[l.i]?
  | .tup _=>none)
def setAt(σ:St)(l:Loc)(c:z1b):St :=
 cond l.bx (match σ.box l.k with
  | some (te,cs)=>⟨σ.slot,upd σ.box l.k (some (te,cs.set l.i c)),σ.row⟩
  | none=>σ)
 (match σ.slot l.k with
  | .c _=>σ.put l.k (.c c)
  | .agg cs=>σ.put l.k (.agg (cs.set l.i c))
  | .tup _=>σ)
def zma(σ:St)(d:NilD):Option St:=match zek σ d.loc with
 | some .nil=>match σ.row d.nm with
  | none=>some (setAt (σ.withRow (upd σ.row d.nm (some ⟨d.e,d.t,[],d.deep,true⟩))) d.loc (.own d.nm))
  | some _=>none
 | _=>some σ
def zo2:List NilD->St->Option St
 | [],σ=>some σ
 | d::ds,σ=>match zma σ d with
  | some σ'=>zo2 ds σ'
  | none=>none
def frz1(σ:St)(d:Loc×Nat×Ty):Option St:=match zek σ d.1 with
 | some (.own r)=>absorb r none σ
 | some .nil=>some (setAt σ d.1 (.sn d.2.1 d.2.2 [] none))
 | _=>some σ
def frzs:List (Loc×Nat×Ty)->St->Option St
 | [],σ=>some σ
 | d::ds,σ=>match frz1 σ d with
  | some σ'=>frzs ds σ'
  | none=>none
def mapOf(σ:St):List (Loc×Nat)->Option (List (Nat×Nat))
 | []=>some []
 | (l,q)::ls=>match zek σ l,mapOf σ ls with
  | some (.own r),some m=>some ((r,q)::m)
  | _,_=>none
def zq4(m:List (Nat×Nat))(f:Nat->z1b)(r:Nat):z1b:=match z1i m r with
 | some q=>f q
 | none=>.undef
def zkz(m:List (Nat×Nat))(bs:List Nat):z1b->z1b
 | .own r=>zq4 m .own r
 | .part r lo n=>zq4 m (λq=>.part q lo n) r
 | .elt r i f=>zq4 m (λq=>.elt q i f) r
 | .sn e t xs (some r)=>zq4 m (λq=>.sn e t xs (some q)) r
 | .full e t xs (some r)=>zq4 m (λq=>.full e t xs (some q)) r
 | .selt t x (some r) f=>zq4 m (λq=>.selt t x (some q) f) r
 | .box b f=>cond (z5m b bs) (.box b f) .undef
 | .mp b=>cond (z5m b bs) (.mp b) .undef
 | .fn f caps=>cond (caps.all λp=>z5m p.1 bs) (.fn f caps) .undef
 | c=>c
def zlr(q:Nat):Bool:=Nat.ble 1000000000 q
def zdo(q:Nat)(row:Row):Row:=⟨row.e,row.t,row.xs,row.deep,zlr q&&row.nilE⟩
def zi0(σ:St)(f:z1b->z1b):List Nat->Option (List (Nat×(Nat×List z1b)))
 | []=>some []
 | b::bs=>match σ.box b,zi0 σ f bs with
  | some (te,cs),some l=>some ((b,(te,cs.map f))::l)
  | _,_=>none
def zfm(σ:St):List (Nat×Nat)->Option (List (Nat×Row))
 | []=>some []
 | (r,q)::m=>match σ.row r,zfm σ m with
  | some row,some l=>some ((q,zdo q row)::l)
  | _,_=>none
def z66(sl:List (Nat×SV))(t:Nat):SV:=match z1i sl t with
 | some s=>s
 | none=>.c .undef
def z1h(sl:List (Nat×SV))(bx:List (Nat×(Nat×List z1b)))(rw:List (Nat×Row)):St:=⟨z66 sl,z1i bx,z1i rw⟩
def zdj(σ:St)(f:z1b->z1b):List Nat->List (Nat×SV)
 | []=>[]
 | t::ts=>(t,(σ.slot t).map f)::zdj σ f ts
def zbr(cl:z01)(σ:St):Option St:=match(zo2 cl.nils σ).bind (frzs cl.frz)with
 | some σ1=>match mapOf σ1 cl.rows with
  | some m=>cond (z47 (m.map (·.1))&&z47 (m.map (·.2))) (match zi0 σ1 (zkz m cl.boxes) cl.boxes,zfm σ1 m with
   | some bx,some rw=>some (z1h (zdj σ1 (zkz m cl.boxes) cl.slots) bx rw)
   | _,_=>none) none
  | none=>none
 | none=>none
section
variable {P : Program} {σ σ' : St} {E E' : Env} {w w' : World} {w0 : World} {lab0 : Nat → Lab} {oo : Nat → Value} {n : Nat} {a : Act}
def R.reslot(h:R w0 lab0 oo n σ E a w){t:Nat}{s:SV}(hs:∀v,z3q σ E w (σ.slot t) v->z3q σ E w s v):R w0 lab0 oo n (σ.put t s) E a w:=by
 have m:z54 σ E w (σ.put t s) E w:=z54.same rfl rfl
 refine⟨h.bound,h.size,h.defers,λt'=>?_,λb te cs hb=>?_,h.rows,h.same⟩
 ·by_cases e:t'=t
  ·subst e
   show z3q _ _ _ (upd σ.slot t' s t') _
   rw[z15]
   exact(hs _ (h.slots t')).move m
  ·show z3q _ _ _ (upd σ.slot t s t') _
   rw[z25 _ _ e]
   exact(h.slots t').move m
 ·obtain⟨arr,h1,h2,h3,h4⟩:=h.boxes b te cs hb
  exact⟨arr,h1,h2,h3.imp λ_ _ h=>h.move m,h4⟩
def R.rebox(h:R w0 lab0 oo n σ E a w){b te:Nat}{cs cs':List z1b}(hb:σ.box b=some (te,cs))(hl:cs'.length=cs.length)(hs:∀vs,z1p (z1s σ E w) cs vs->z1p (z1s σ E w) cs' vs) :
  R w0 lab0 oo n ⟨σ.slot,upd σ.box b (some (te,cs')),σ.row⟩ E a w:=by
 have m:z54 σ E w ⟨σ.slot,upd σ.box b (some (te,cs')),σ.row⟩ E w:=by
  refine⟨λr row h=>⟨row,h,rfl,rfl,Nat.le_refl _⟩,λb' te' cs0 hb'=>?_,λ_ _ _ h1 h2=>⟨h1,h2⟩,λ_ _ _ _ h=>h⟩
  by_cases e:b'=b
  ·subst e
   rw[hb]at hb'
   injection hb' with hb'
   injection hb' with e1 e2
   subst e1 e2
   exact⟨te,cs',z15 _ _ _,rfl,hl⟩
  ·exact⟨te',cs0,(z25 _ _ e).trans hb',rfl,rfl⟩
 refine⟨h.bound,h.size,h.defers,λt'=>(h.slots t').move m,λb' te' cs0 hb'=>?_,h.rows,h.same⟩
 by_cases e:b'=b
 ·subst e
  have hb':upd σ.box b' (some (te,cs')) b'=some (te',cs0):=hb'
  rw[z15]at hb'
  injection hb' with hb'
  injection hb' with e1 e2
  subst e1 e2
  obtain⟨arr,h1,h2,h3,h4⟩:=h.boxes b' te cs hb
  exact⟨arr,h1,h2,(hs _ h3).imp λ_ _ h=>h.move m,h4⟩
 ·have hb':upd σ.box b (some (te,cs')) b'=some (te',cs0):=hb'
  rw[z25 _ _ e]at hb'
  obtain⟨arr,h1,h2,h3,h4⟩:=h.boxes b' te' cs0 hb'
  exact⟨arr,h1,h2,h3.imp λ_ _ h=>h.move m,h4⟩
def z1p.reset{Q:z1b->Value->Prop}{c c':z1b}(hs:∀v,Q c v->Q c' v):∀{cs:List z1b} {vs:List Value} {i:Nat},cs[i]? = some c->z1p Q cs vs->z1p Q (cs.set i c') vs
 | [],_,_,h,_=>by simp at h
 | x::cs,[],_,_,h=>h.elim
 | x::cs,v::vs,0,h,h2=>by
  simp at h
  subst h
  exact⟨hs _ h2.1,h2.2⟩
 | x::cs,v::vs,i+1,h,h2=>⟨h2.1,z1p.reset hs (by simpa using h) h2.2⟩
def R.resetAt(h:R w0 lab0 oo n σ E a w){l:Loc}{c c':z1b}(hc:zek σ l=some c)(hs:∀v,z1s σ E w c v->z1s σ E w c' v):R w0 lab0 oo n (setAt σ l c') E a w:=by
 obtain⟨bx,k,i⟩:=l
 unfold zek at hc
 unfold setAt
 cases bx
 ·simp only[cond_false]at hc ⊢
  split at hc
  ·rename_i x hx
   cases hi:Nat.beq i 0
   ·rw[hi]at hc;cases hc
   ·rw[hi]at hc
    injection hc with hc
    subst hc
    exact h.reslot λv hv=>by rw[hx]at hv;exact hs v hv
  ·rename_i cs hx
   refine h.reslot λv hv=>?_
   rw[hx]at hv
   obtain⟨arr,e,hv⟩:=hv
   exact⟨arr,e,hv.reset hs hc⟩
  ·cases hc
 ·simp only[cond_true]at hc ⊢
  split at hc
  ·rename_i te cs hx
   exact h.rebox hx (by simp) λvs hv=>hv.reset hs hc
  ·cases hc
def zhw(h:R w0 lab0 oo n σ E a w){d:NilD}(hr:zma σ d=some σ'):∃E',R w0 lab0 oo n σ' E' a w:=by
 unfold zma at hr
 split at hr
 ·rename_i hc
  split at hr
  ·rename_i hfree
   injection hr with hr
   subst hr
   have G:=h.nilRow (r:=d.nm) (e:=d.e) (t:=d.t) (deep:=d.deep) hfree
   refine⟨_,R.resetAt (c:=.nil) G ?_ λv hv=>?_⟩
   ·exact hc
   ·obtain rfl:v=_:=hv
    exact⟨(z15 _ _ _).symm,by show(upd σ.row d.nm _ d.nm).isSome=true;rw[z15];rfl,none,0,0,rfl⟩
  ·cases hr
 ·injection hr with hr
  subst hr
  exact⟨E,h⟩
def zcj:∀{ds:List NilD} {σ σ':St} {E:Env},R w0 lab0 oo n σ E a w->zo2 ds σ=some σ'->∃E',R w0 lab0 oo n σ' E' a w
 | [],σ,σ',E,h,hr=>by
  injection hr with hr
  subst hr
  exact⟨E,h⟩
 | d::ds,σ,σ',E,h,hr=>by
  simp only[zo2]at hr
  split at hr
  ·rename_i σ1 h1
   obtain⟨E1,g1⟩:=zhw h h1
   exact zcj g1 hr
  ·cases hr
def zpb(h:R w0 lab0 oo n σ E a w){d:Loc×Nat×Ty}(hr:frz1 σ d=some σ'):∃E',R w0 lab0 oo n σ' E' a w:=by
 unfold frz1 at hr
 split at hr
 ·rename_i r hc
  obtain⟨lab',g,_⟩:=R.absorbs (p:=none) (qs:=[r]) (σ':=σ') h (by simp[Fw.absorbs,hr]) (λ_ h=>by cases h)
  exact⟨_,g⟩
 ·rename_i hc
  injection hr with hr
  subst hr
  exact⟨E,h.resetAt hc λv hv=>by
   obtain rfl:v=_:=hv
   exact⟨none,0,0,rfl,rfl,Nat.le_refl _,Nat.zero_le _,.inl rfl⟩⟩
 ·injection hr with hr
  subst hr
  exact⟨E,h⟩
def zg4:∀{ds:List (Loc×Nat×Ty)} {σ σ':St} {E:Env},R w0 lab0 oo n σ E a w->frzs ds σ=some σ'->∃E',R w0 lab0 oo n σ' E' a w
 | [],σ,σ',E,h,hr=>by
  injection hr with hr
  subst hr
  exact⟨E,h⟩
 | d::ds,σ,σ',E,h,hr=>by
  simp only[frzs]at hr
  split at hr
  ·rename_i σ1 h1
   obtain⟨E1,g1⟩:=zpb h h1
   exact zg4 g1 hr
  ·cases hr
def zfp(m:List (Nat×Nat)):Lab->Lab
 | .row r=>match z1i m r with
  | some q=>.row q
  | none=>.dead
 | .inn r=>match z1i m r with
  | some q=>.inn q
  | none=>.dead
 | l=>l
def zn0{m:List (Nat×Nat)}{p p':Option Nat}(h:(p=none/\p'=none)\/∃r q,p=some r/\p'=some q/\z1i m r=some q):zfp m (z35 p)=z35 p':=by
 rcases h with⟨rfl,rfl⟩ | ⟨r,q,rfl,rfl,h⟩
 ·rfl
 ·simp[z35,zfp,h]
def R.ren(h:R w0 lab0 oo n σ E a w){m:List (Nat×Nat)}{bs:List Nat}(hslot:∀t,σ'.slot t=(σ.slot t).map (zkz m bs)\/σ'.slot t=.c .undef)
  (hbox:∀b te cs,σ'.box b=some (te,cs)->∃cs0,σ.box b=some (te,cs0)/\cs=cs0.map (zkz m bs))
  (hbox':∀b te cs,z5m b bs=true->σ.box b=some (te,cs)->σ'.box b=some (te,cs.map (zkz m bs)))
  (hrow:∀q row',σ'.row q=some row'->∃r row,z1i m r=some q/\σ.row r=some row/\row'=zdo q row)
  (hrow':∀r q row,z1i m r=some q->σ.row r=some row->σ'.row q=some (zdo q row))
  (inj:∀r r' q,z1i m r=some q->z1i m r'=some q->r=r'):∃E',R w0 lab0 oo n σ' E' a w:=by
 classical
 let E':Env:=⟨λk=>zfp m (E.lab k),λq=>if hq:∃r,z1i m r=some q then E.rv hq.choose else undef,E.bb⟩
 have hrv:∀r q,z1i m r=some q->E'.rv q=E.rv r:=by
  intro r q hq
  have hex:∃r,z1i m r=some q:=⟨r,hq⟩
  show(if hq:∃r,z1i m r=some q then E.rv hq.choose else undef)=_
  rw[dif_pos hex,inj _ _ _ hex.choose_spec hq]
 have hlab:∀k,E'.lab k=zfp m (E.lab k):=λk=>rfl
 have rd:∀{p p':Option Nat} {t:Ty} {cs:List Value} {x:t.den},((p=none/\p'=none)\/∃r q,p=some r/\p'=some q/\z1i m r=some q)->Rd w (λk=>E.lab k=z35 p) t cs x->Rd w (λk=>E'.lab k=z35 p') t cs x:=by
  intro p p' t cs x hp hr
  refine hr.mono λk hk=>?_
  rw[hlab,hk]
  exact zn0 hp
 have selt:∀{p p':Option Nat} {t:Ty} {x:t.den} {f:Nat} {v:Value},((p=none/\p'=none)\/∃r q,p=some r/\p'=some q/\z1i m r=some q)->z1s σ E w (.selt t x p f) v->z1s σ' E' w (.selt t x p' f) v:=by
  intro p p' t x f v hp hr
  obtain⟨ad,cs,h1,h2,h3,h4,h5⟩:=hr
  exact⟨ad,cs,h1,h2,by rw[hlab,h3];exact zn0 hp,rd hp h4,h5⟩
 have hc:∀c v,z1s σ E w c v->z1s σ' E' w (zkz m bs c) v:=by
  intro c v hv
  cases c with
  | undef=>trivial
  | int _ _=>exact hv
  | bool _=>exact hv
  | str _=>exact hv
  | err _=>exact hv
  | bor v0 e t xs=>exact⟨hv.1,rd (p:=none) (p':=none) (.inl ⟨rfl,rfl⟩) hv.2⟩
  | nil=>exact hv
  | sn e t xs p =>
   cases p with
   | none=>exact rd (p:=none) (p':=none) (.inl ⟨rfl,rfl⟩) hv
   | some r =>
    simp only[zkz,zq4]
    split
    ·rename_i q hq
     exact rd (p:=some r) (p':=some q) (.inr ⟨r,q,rfl,rfl,hq⟩) hv
    ·trivial
  | full e t xs p =>
   cases p with
   | none=>exact⟨rd (p:=none) (p':=none) (.inl ⟨rfl,rfl⟩) hv.1,hv.2⟩
   | some r =>
    simp only[zkz,zq4]
    split
    ·rename_i q hq
     exact⟨rd (p:=some r) (p':=some q) (.inr ⟨r,q,rfl,rfl,hq⟩) hv.1,hv.2⟩
    ·trivial
  | own r =>
   simp only[zkz,zq4]
   split
   ·rename_i q hq
    obtain⟨rfl,h1,h2⟩:=hv
    obtain⟨row,hr⟩:=Option.isSome_iff_exists.1 h1
    exact⟨(hrv r q hq).symm,by rw[hrow' r q row hq hr];rfl,h2⟩
   ·trivial
  | part r lo n =>
   simp only[zkz,zq4]
   split
   ·rename_i q hq
    obtain⟨row,A,c,h1,h2,h3,h4,h5,h6,h7,h8⟩:=hv
    refine⟨zdo q row,A,c,hrow' r q row hq h1,h2,h3,h4,h5,h6,h7,λhn=>?_⟩
    rw[hrv r q hq]
    exact h8 hn
   ·trivial
  | box b f =>
   simp only[zkz]
   cases hb:z5m b bs
   ·trivial
   ·obtain⟨rfl,te,cs,h1,h2⟩:=hv
    exact⟨rfl,te,_,hbox' b te cs hb h1,by simpa using h2⟩
  | mp b =>
   simp only[zkz]
   cases hb:z5m b bs
   ·trivial
   ·obtain⟨rfl,te,cs,h1⟩:=hv
    exact⟨rfl,te,_,hbox' b te cs hb h1⟩
  | mset t xs=>exact hv
  | elt r i f =>
   simp only[zkz,zq4]
   split
   ·rename_i q hq
    obtain⟨row,g,n,c,h1,h2,h3,h4,h5,h6⟩:=hv
    exact⟨zdo q row,g,n,c,hrow' r q row hq h1,by rw[hrv r q hq];exact h2,h3,h4,h5,h6⟩
   ·trivial
  | selt t x p f =>
   cases p with
   | none=>exact selt (p:=none) (p':=none) (.inl ⟨rfl,rfl⟩) hv
   | some r =>
    simp only[zkz,zq4]
    split
    ·rename_i q hq
     exact selt (p:=some r) (p':=some q) (.inr ⟨r,q,rfl,rfl,hq⟩) hv
    ·trivial
  | fn f caps =>
   simp only[zkz]
   cases hb:caps.all λp=>z5m p.1 bs
   ·trivial
   ·obtain⟨rfl,hv⟩:=hv
    refine⟨rfl,λp hp=>?_⟩
    obtain⟨te,cs,h1,h2⟩:=hv p hp
    exact⟨te,_,hbox' p.1 te cs (List.all_eq_true.1 hb p hp) h1,by simpa using h2⟩
 refine⟨E',h.bound,h.size,h.defers,λt=>?_,λb te cs hb=>?_,λq row' hq=>?_, ?_⟩
 ·rcases hslot t with e | e
  ·rw[e];exact(h.slots t).mapl hc
  ·rw[e]
   show z3q σ' E' w (.c .undef) (z5r oo a t)
   exact True.intro
 ·obtain⟨cs0,h1,rfl⟩:=hbox b te cs hb
  obtain⟨arr,k1,k2,k3,k4⟩:=h.boxes b te cs0 h1
  exact⟨arr,k1,by rw[hlab,k2];rfl,k3.mapl hc,k4⟩
 ·obtain⟨r,row,h1,h2,rfl⟩:=hrow q row' hq
  obtain⟨css,k1,k2,k3,k4⟩:=h.rows r row h2
  rw[hrv r q h1]
  refine⟨css,k1,λk hk=>by rw[hlab,k2 k hk];simp[zfp,h1], ?_,λh=>k4 (Bool.and_eq_true_iff.1 h).2⟩
  show cond row.deep _ _
  cases hd:row.deep
  ·rw[hd]at k3
   exact z1p.imp (λc y hy=>Rd.mono (λk hk=>(by rw[hlab,hk];rfl)) hy) (show z1p (λc y=>Rd w (λk=>E.lab k=.st) row.t c y) css row.xs from k3)
  ·rw[hd]at k3
   obtain⟨Ls,j1,j2,j3⟩:=k3
   exact⟨Ls,j1,j2,λk hk=>by rw[hlab,j3 k hk];simp[zfp,h1]⟩
 ·refine⟨h.same.os,h.same.tape,h.same.output,h.same.size,λk hk hl=>?_⟩
  obtain⟨g1,g2⟩:=h.same.old k hk hl
  exact⟨by rw[hlab,g1];rfl,g2⟩
def zbt{a b:Nat}:Nat.beq a b=true↔a=b:=⟨Nat.eq_of_beq_eq_true,λe=>by subst e;exact Nat.beq_refl a⟩
def z34{α:Type}:∀{l:List (Nat×α)} {t:Nat} {v:α},z1i l t=some v->(t,v)∈l
 | [],_,_,h=>by cases h
 | (k,u)::l,t,v,h=>by
  simp only[z1i]at h
  cases hb:Nat.beq t k
  ·rw[hb]at h
   exact List.mem_cons_of_mem _ (z34 h)
  ·rw[hb]at h
   injection h with h
   rw[<-h,zbt.1 hb]
   exact List.mem_cons_self
def zc2{f:z1b->z1b}(t:Nat):∀ts:List Nat,z1i (zdj σ f ts) t=some ((σ.slot t).map f)\/z1i (zdj σ f ts) t=none
 | []=>.inr rfl
 | t'::ts=>by
  simp only[zdj,z1i]
  cases hb:Nat.beq t t'
  ·exact zc2 t ts
  ·rw[zbt.1 hb];exact .inl rfl
def z8o{f:z1b->z1b}(b:Nat):∀{bs:List Nat} {l:List (Nat×(Nat×List z1b))},zi0 σ f bs=some l ->
  (∀te cs,z1i l b=some (te,cs)->∃cs0,σ.box b=some (te,cs0)/\cs=cs0.map f)/\(∀te cs,z5m b bs=true->σ.box b=some (te,cs)->z1i l b=some (te,cs.map f))
 | [],l,h=>by
  injection h with h
  subst h
  exact⟨(λte cs h=>by cases h),λte cs h=>by cases h⟩
 | b'::bs,l,h=>by
  simp only[zi0]at h
  split at h
  ·rename_i te cs l' hb hl
   injection h with h
   subst h
   obtain⟨g1,g2⟩:=z8o b hl
   simp only[z1i,z5m]
   cases hq:Nat.beq b b'
   ·exact⟨g1,λte cs hm=>g2 te cs (by simpa using hm)⟩
   ·obtain rfl:=zbt.1 hq
    refine⟨λte' cs' h'=>?_,λte' cs' _ h'=>?_⟩
    ·simp only[cond_true,Option.some.injEq,Prod.mk.injEq]at h'
     obtain⟨rfl,rfl⟩:=h'
     exact⟨cs,hb,rfl⟩
    ·rw[hb]at h'
     injection h' with h'
     injection h' with e1 e2
     rw[e1,e2]
     rfl
  ·cases h
def zdl(q:Nat):∀{m:List (Nat×Nat)} {l:List (Nat×Row)},zfm σ m=some l->∀row',z1i l q=some row'->∃r row,(r,q)∈m/\σ.row r=some row/\row'=zdo q row
 | [],l,h,row',h'=>by
  injection h with h
  subst h
  cases h'
 | (r,q')::m,l,h,row',h'=>by
  simp only[zfm]at h
  split at h
  ·rename_i row l' hr hl
   injection h with h
   subst h
   simp only[z1i]at h'
   cases hb:Nat.beq q q'
   ·rw[hb]at h'
    obtain⟨r',row2,k1,k2,k3⟩:=zdl q hl row' h'
    exact⟨r',row2,List.mem_cons_of_mem _ k1,k2,k3⟩
   ·rw[hb]at h'
    injection h' with h'
    obtain rfl:=zbt.1 hb
    exact⟨r,row,List.mem_cons_self,hr,h'.symm⟩
  ·cases h
def zfl{r q:Nat}{row:Row}(hrow:σ.row r=some row):∀{m:List (Nat×Nat)} {l:List (Nat×Row)},zfm σ m=some l->(m.map (·.2)).Nodup->(r,q)∈m->z1i l q=some (zdo q row)
 | [],l,h,_,hm=>by cases hm
 | (r',q')::m,l,h,hn,hm=>by
  simp only[zfm]at h
  split at h
  ·rename_i row' l' hr hl
   injection h with h
   subst h
   simp only[z1i]
   simp only[List.map_cons,List.nodup_cons]at hn
   rcases List.mem_cons.1 hm with e | hm
   ·injection e with e1 e2
    subst e1 e2
    rw[hr]at hrow
    injection hrow with hrow
    rw[Nat.beq_refl,hrow]
    rfl
   ·have hne:Nat.beq q q'=false:=by
     cases hb:Nat.beq q q'
     ·rfl
     ·exact absurd (List.mem_map.2 ⟨(r,q),hm,zbt.1 hb⟩) hn.1
    rw[hne]
    exact zfl hrow hl hn.2 hm
  ·cases h
def zrh{m:List (Nat×Nat)}(h:(m.map (·.2)).Nodup){r r' q:Nat}(h1:(r,q)∈m)(h2:(r',q)∈m):r=r':=by
 induction m with
 | nil=>cases h1
 | cons p m ih =>
  simp only[List.map_cons,List.nodup_cons]at h
  rcases List.mem_cons.1 h1 with e | h1
  ·rcases List.mem_cons.1 h2 with e' | h2
   ·rw[<-e]at e'
    injection e' with e' _
    exact e'.symm
   ·exact absurd (List.mem_map.2 ⟨_,h2,by rw[<-e]⟩) h.1
  ·rcases List.mem_cons.1 h2 with e' | h2
   ·exact absurd (List.mem_map.2 ⟨_,h1,by rw[<-e']⟩) h.1
   ·exact ih h.2 h1 h2
def lookL_ex{m:List (Nat×Nat)}{r q:Nat}(h:(r,q)∈m)(hn:(m.map (·.1)).Nodup):z1i m r=some q:=by
 induction m with
 | nil=>cases h
 | cons p m ih =>
  obtain⟨k,u⟩:=p
  simp only[List.map_cons,List.nodup_cons]at hn
  simp only[z1i]
  rcases List.mem_cons.1 h with e | h
  ·injection e with e1 e2
   subst e1 e2
   rw[Nat.beq_refl];rfl
  ·cases hb:Nat.beq r k
   ·exact ih h hn.2
   ·exact absurd (List.mem_map.2 ⟨_,h,zbt.1 hb⟩) hn.1
def za3(h:R w0 lab0 oo n σ E a w){cl:z01}(hr:zbr cl σ=some σ'):∃E',R w0 lab0 oo n σ' E' a w:=by
 unfold zbr at hr
 split at hr
 ·rename_i σ1 h1
  obtain⟨σ2,h1,h2⟩:=Option.bind_eq_some_iff.1 h1
  obtain⟨E2,G2⟩:=zcj h h1
  obtain⟨E1,G⟩:=zg4 G2 h2
  split at hr
  ·rename_i m hm
   cases hq:(z47 (m.map (·.1))&&z47 (m.map (·.2)))
   ·rw[hq]at hr;cases hr
   ·rw[hq]at hr
    simp only[Bool.and_eq_true]at hq
    simp only[cond_true]at hr
    have n1:=z3a hq.1
    have n2:=z3a hq.2
    split at hr
    ·rename_i bx rw' hbx hrw
     injection hr with hr
     subst hr
     refine G.ren (m:=m) (bs:=cl.boxes) (λt=>?_) (λb te cs hb=>?_) (λb te cs hm hb=>?_) (λq row' hq=>?_) (λr q row hl hrow=>?_) (λr r' q hl hl'=>?_)
     ·show z66 _ t=_\/z66 _ t=_
      unfold z66
      rcases zc2 (σ:=σ1) (f:=zkz m cl.boxes) t cl.slots with e | e
      ·rw[e];exact .inl rfl
      ·rw[e];exact .inr rfl
     ·exact(z8o b hbx).1 te cs hb
     ·exact(z8o b hbx).2 te cs hm hb
     ·obtain⟨r,row,k1,k2,k3⟩:=zdl q hrw row' hq
      exact⟨r,row,lookL_ex k1 n1,k2,k3⟩
     ·exact zfl hrow hrw n2 (z34 hl)
     ·exact zrh n2 (z34 hl) (z34 hl')
    ·cases hr
  ·cases hr
 ·cases hr
end
end Go.Fw
namespace Go.Fw
open Go.RowKit
inductive Ex where
 | nrm
 | exit (id:Nat)
 | ret
def exOf:Ex->Exit
 | .nrm=>.normal
 | .exit id=>.exit id
 | .ret=>.ret
inductive za9 where
 | n
 | mk (join:Option z01) (lp:Option z01) (a b:za9)
def za9.fst:za9->za9
 | .n=>.n
 | .mk _ _ a _=>a
def za9.snd:za9->za9
 | .n=>.n
 | .mk _ _ _ b=>b
def za9.join:za9->Option z01
 | .n=>none
 | .mk j _ _ _=>j
def za9.lp:za9->Option z01
 | .n=>none
 | .mk _ l _ _=>l
def zo3:Option z01->St->Option St
 | none,σ=>some σ
 | some cl,σ=>zbr cl σ
def pro1C(σ:St)(l:Loc):Bool:=match zek σ l with
 | some (.own r)=>match σ.row r with
  | some row=>row.nilE||Nat.blt 0 row.xs.length
  | none=>true
 | _=>true
def pro1(σ:St)(l:Loc):St:=match zek σ l with
 | some (.own r)=>match σ.row r with
  | some row=>⟨σ.slot,σ.box,upd σ.row r (some ⟨row.e,row.t,row.xs,row.deep,true⟩)⟩
  | none=>σ
 | _=>σ
def rowsC:Option z01->List (Loc×Nat)
 | none=>[]
 | some cl=>cl.rows
section
variable {ρ : Type}
def proK(F:St->Option ρ):List (Loc×Nat)->St->Option ρ
 | [],σ=>F σ
 | (l,q)::ls,σ=>cond (zlr q) (cond (pro1C σ l) (proK F ls (pro1 σ l)) none) (proK F ls σ)
abbrev z1f(j:Option z01)(K:Ex->St->Option ρ):Ex->St->Option ρ
 | .nrm,σ=>(zo3 j σ).bind (K .nrm)
 | .exit i,σ=>K (.exit i) σ
 | .ret,σ=>K .ret σ
abbrev z7w(F:St->Option ρ)(K:Ex->St->Option ρ):Ex->St->Option ρ
 | .nrm,σ=>F σ
 | .exit i,σ=>K (.exit i) σ
 | .ret,σ=>K .ret σ
abbrev zkp(id:Nat)(K:Ex->St->Option ρ):Ex->St->Option ρ
 | .nrm,σ=>K .nrm σ
 | .exit i,σ=>cond (Nat.beq i id) (K .nrm σ) (K (.exit i) σ)
 | .ret,σ=>K .ret σ
def z3r(f:St->(Ex->St->Option ρ)->Option ρ)(cl:z01):Nat->St->(Ex->St->Option ρ)->Option ρ
 | 0,_,_=>none
 | N+1,σ,K=>f σ (z1f (some cl) (z7w (λσ''=>z3r f cl N σ'' K) K))
noncomputable def z0w(Γ:Gm)(T:Tab)(B:Nat->Option z01)(N:Nat):Code->za9->St->(Ex->St->Option ρ)->Option ρ
 | .skip,_,σ,K=>K .nrm σ
 | .label _,_,σ,K=>K .nrm σ
 | .region _ ops draw,_,σ,K=>zlo Γ T N ops draw σ (K .nrm)
 | .seq a b,pl,σ,K=>z0w Γ T B N a pl.fst σ (z1f pl.join (z7w (λσ'=>z0w Γ T B N b pl.snd σ' K) K))
 | .cond c a b,pl,σ,K=>match ev σ c with
  | .c (.bool t)=>cond t (z0w Γ T B N a pl.fst σ K) (z0w Γ T B N b pl.snd σ K)
  | _=>none
 | .block id c,pl,σ,K=>z0w Γ T B N c pl.fst σ (z1f pl.join (zkp id K))
 | .loop c,pl,σ,K=>match pl.lp with
  | some cl=>match pl.join with
   | none=>(zbr cl σ).bind λσ0=>z3r (λσ K=>z0w Γ T B N c pl.fst σ K) cl N σ0 K
   | some cl1=>(zbr cl1 σ).bind λσ0=>z0w Γ T B N c pl.snd σ0 (z1f (some cl) (z7w (λσ''=>z3r (λσ K=>z0w Γ T B N c pl.fst σ K) cl N σ'' K) K))
  | none=>none
 | .exit id,_,σ,K=>(zo3 (B id) σ).bind (K (.exit id))
 | .ret,_,σ,K=>proK (λσ=>(zo3 (B 1000000) σ).bind (K .ret)) (rowsC (B 1000000)) σ
 | _,_,_,_=>none
end
def z5q(n:Nat):Code->Bool
 | .region _ ops _=>zei n ops
 | .seq a b=>z5q n a&&z5q n b
 | .cond _ a b=>z5q n a&&z5q n b
 | .block _ c=>z5q n c
 | .loop c=>z5q n c
 | _=>true
section
variable {P : Program} {σ σ' : St} {E E' : Env} {w w' : World} {w0 : World} {lab0 : Nat → Lab} {oo : Nat → Value} {n : Nat} {a : Act} {T : Tab} {Γ : Gm} {ρ : Type} {B : Nat → Option z01} {N : Nat}
def least{p:Nat->Prop}(h:∃n,p n):∃n,p n/\∀m,p m->n<=m:=by
 classical
 obtain⟨n,hn⟩:=h
 induction n using Nat.strongRecOn with
 | _ n ih =>
  by_cases hex:∃m,m<n/\p m
  ·obtain⟨m,h1,h2⟩:=hex
   exact ih m h1 h2
  ·exact⟨n,hn,λm hm=>Nat.le_of_not_lt λhlt=>hex ⟨m,hlt,hm⟩⟩
noncomputable def z6a{p:Nat->Prop}(h:∃n,p n):Nat:=(least h).choose
def zjk{p:Nat->Prop}(h:∃n,p n):p (z6a h):=(least h).choose_spec.1
def zp5{p:Nat->Prop}(h:∃n,p n){m:Nat}(hm:p m):z6a h<=m:=(least h).choose_spec.2 m hm
def z8l(h:R w0 lab0 oo n σ E a w){cl:Option z01}(hr:zo3 cl σ=some σ'):∃E',R w0 lab0 oo n σ' E' a w:=by
 cases cl with
 | none =>
  injection hr with hr
  subst hr
  exact⟨E,h⟩
 | some cl=>exact za3 h hr
def zot(h:R w0 lab0 oo n σ E a w){l:Loc}(hc:pro1C σ l=true):R w0 lab0 oo n (pro1 σ l) E a w:=by
 have key:∀r row,σ.row r=some row->(row.nilE||Nat.blt 0 row.xs.length)=true->R w0 lab0 oo n ⟨σ.slot,σ.box,upd σ.row r (some ⟨row.e,row.t,row.xs,row.deep,true⟩)⟩ E a w:=by
  intro r row hrow' hc
  have m:z54 σ E w ⟨σ.slot,σ.box,upd σ.row r (some ⟨row.e,row.t,row.xs,row.deep,true⟩)⟩ E w:=by
   refine⟨λr' row1 h1=>?_,λb te cs hb=>⟨te,cs,hb,rfl,rfl⟩,λ_ _ _ h1 h2=>⟨h1,h2⟩,λ_ _ _ _ h=>h⟩
   by_cases e:r'=r
   ·subst e
    rw[hrow']at h1
    injection h1 with h1
    subst h1
    exact⟨_,z15 _ _ _,rfl,rfl,Nat.le_refl _⟩
   ·exact⟨row1,(z25 _ _ e).trans h1,rfl,rfl,Nat.le_refl _⟩
  refine⟨h.bound,h.size,h.defers,λt=>(h.slots t).move m,λb te cs hb=>?_,λr' row1 h1=>?_,h.same⟩
  ·obtain⟨arr,h1,h2,h3,h4⟩:=h.boxes b te cs hb
   exact⟨arr,h1,h2,h3.imp λ_ _ h=>h.move m,h4⟩
  ·by_cases e:r'=r
   ·subst e
    have h1':upd σ.row r' (some ⟨row.e,row.t,row.xs,row.deep,true⟩) r'=some row1:=h1
    rw[z15]at h1'
    injection h1' with h1'
    subst h1'
    obtain⟨css,k1,k2,k3,k4⟩:=h.rows r' row hrow'
    refine⟨css,k1,k2,k3,λ_ hl=>?_⟩
    have hl':row.xs.length=0:=hl
    cases hn:row.nilE
    ·rw[hn,hl']at hc
     cases hc
    ·exact k4 hn hl'
   ·have h1':upd σ.row r (some ⟨row.e,row.t,row.xs,row.deep,true⟩) r'=some row1:=h1
    rw[z25 _ _ e]at h1'
    exact h.rows r' row1 h1'
 unfold pro1
 split
 ·rename_i r hr
  split
  ·rename_i row hrow
   refine key r row hrow ?_
   unfold pro1C at hc
   rw[hr]at hc
   simp only[hrow]at hc
   exact hc
  ·exact h
 ·exact h
def zb8{F:St->Option ρ}{r:ρ}:∀{ls:List (Loc×Nat)} {σ:St} {E:Env},R w0 lab0 oo n σ E a w->proK F ls σ=some r->∃σ',R w0 lab0 oo n σ' E a w/\F σ'=some r
 | [],σ,E,h,hr=>⟨σ,h,hr⟩
 | (l,q)::ls,σ,E,h,hr=>by
  simp only[proK]at hr
  cases hq:zlr q
  ·rw[hq]at hr
   exact zb8 h hr
  ·rw[hq]at hr
   cases hc:pro1C σ l
   ·rw[hc]at hr;cases hr
   ·rw[hc]at hr
    exact zb8 (zot h hc) hr
def NP.then{Q:Exit->Act->World->Prop}(h:NP Q)(next:Act->World->Prop):NP (Exit.then next Q):=λc a a' w hq=>h c a a' w hq
def NP.block{Q:Exit->Act->World->Prop}(h:NP Q)(id:Nat):NP (Exit.inBlock id Q):=λc a a' w hq=>h c a a' w hq
def zd1(w0:World)(lab0:Nat->Lab)(oo:Nat->Value)(n:Nat)(K:Ex->St->Option ρ)(r:ρ)(Q:Exit->Act->World->Prop):Prop :=
 ∀e σ' E' a' w',K e σ'=some r->R w0 lab0 oo n σ' E' a' w'->Q (exOf e) a' w'
def zd1.join{K:Ex->St->Option ρ}{r:ρ}{Q:Exit->Act->World->Prop}(h:zd1 w0 lab0 oo n K r Q)(j:Option z01):zd1 w0 lab0 oo n (z1f j K) r Q:=by
 intro e σ' E' a' w' hr hR
 cases e with
 | nrm =>
  obtain⟨σ2,h1,h2⟩:=Option.bind_eq_some_iff.1 hr
  obtain⟨E2,g⟩:=z8l hR h1
  exact h .nrm σ2 E2 a' w' h2 g
 | exit i=>exact h (.exit i) σ' E' a' w' hr hR
 | ret=>exact h .ret σ' E' a' w' hr hR
def z3h(hT:TOk P T)(hΓ:GAt P w0 lab0 Γ)(hm:P.follows .mixedOrders=true):∀(c:Code) (pl:za9) {σ:St} {E:Env} {a:Act} {w:World} {K:Ex->St->Option ρ} {r:ρ} {Q:Exit->Act->World->Prop},
  z5q n c=true->R w0 lab0 oo n σ E a w->z0w Γ T B N c pl σ K=some r->NP Q->zd1 w0 lab0 oo n K r Q->c.wp P Q a w
 | .skip,pl,σ,E,a,w,K,r,Q,_,h,hr,_,hK=>wp_skip (hK .nrm σ E a w hr h)
 | .label l,pl,σ,E,a,w,K,r,Q,_,h,hr,_,hK=>wp_label (hK .nrm σ E a w hr h)
 | .region id ops draw,pl,σ,E,a,w,K,r,Q,hc,h,hr,hQ,hK=>zh7 hT hΓ hm hc hQ (λσ' E' a' w' hr' h'=>hK .nrm σ' E' a' w' hr' h') h hr
 | .seq x y,pl,σ,E,a,w,K,r,Q,hc,h,hr,hQ,hK=>by
  simp only[z5q,Bool.and_eq_true]at hc
  refine wp_seq (z3h hT hΓ hm x pl.fst hc.1 h hr (hQ.then _) (zd1.join ?_ _))
  intro e σ' E' a' w' hr' h'
  cases e with
  | nrm=>exact z3h hT hΓ hm y pl.snd hc.2 h' hr' hQ hK
  | exit i=>exact hK (.exit i) σ' E' a' w' hr' h'
  | ret=>exact hK .ret σ' E' a' w' hr' h'
 | .cond c x y,pl,σ,E,a,w,K,r,Q,hc,h,hr,hQ,hK=>by
  simp only[z5q,Bool.and_eq_true]at hc
  simp only[z0w]at hr
  split at hr
  ·rename_i t ht
   have hv:=z1u h c
   rw[ht]at hv
   cases t
   ·exact wp_cond_false hv (z3h hT hΓ hm y pl.snd hc.2 h hr hQ hK)
   ·exact wp_cond_true hv (z3h hT hΓ hm x pl.fst hc.1 h hr hQ hK)
  ·cases hr
 | .block id c,pl,σ,E,a,w,K,r,Q,hc,h,hr,hQ,hK=>by
  refine wp_block (z3h hT hΓ hm c pl.fst hc h hr (hQ.block id) (zd1.join ?_ _))
  intro e σ' E' a' w' hr' h'
  cases e with
  | nrm=>exact hK .nrm σ' E' a' w' hr' h'
  | exit i =>
   show if i=id then Q .normal a' w' else Q (.exit i) a' w'
   simp only[zkp]at hr'
   cases hb:Nat.beq i id
   ·rw[hb]at hr'
    rw[if_neg λe=>by subst e;rw[Nat.beq_refl]at hb;cases hb]
    exact hK (.exit i) σ' E' a' w' hr' h'
   ·rw[hb]at hr'
    rw[if_pos (Nat.eq_of_beq_eq_true hb)]
    exact hK .nrm σ' E' a' w' hr' h'
  | ret=>exact hK .ret σ' E' a' w' hr' h'
 | .loop c,pl,σ,E,a,w,K,r,Q,hc,h,hr,hQ,hK=>by
  simp only[z0w]at hr
  split at hr
  ·rename_i cl hcl
   classical
   let F:Nat->St->Option ρ:=λM σ=>z3r (λσ K=>z0w Γ T B N c pl.fst σ K) cl M σ K
   let At:Nat->Act->World->Prop:=λM a w=>(∃σ E,R w0 lab0 oo n σ E a w/\F M σ=some r) \/
    (M=N+1/\∃σ E,R w0 lab0 oo n σ E a w/\z0w Γ T B N c pl.snd σ (z1f (some cl) (z7w (F N) K))=some r)
   have hstart:∃M,At M a w:=by
    split at hr
    ·obtain⟨σ0,h1,h2⟩:=Option.bind_eq_some_iff.1 hr
     obtain⟨E0,g⟩:=za3 h h1
     exact⟨N,.inl ⟨σ0,E0,g,h2⟩⟩
    ·obtain⟨σ0,h1,h2⟩:=Option.bind_eq_some_iff.1 hr
     obtain⟨E0,g⟩:=za3 h h1
     exact⟨N+1,.inr ⟨rfl,σ0,E0,g,h2⟩⟩
   refine wp_loop (I:=λa w=>∃M,At M a w) (μ:=λa w=>if hex:∃M,At M a w then z6a hex else 0) hstart ?_
   intro a w hI
   have hμ:(if hex:∃M,At M a w then z6a hex else 0)=z6a hI:=dif_pos hI
   simp only[hμ]
   have next:∀M σ' E' a' w',M<z6a hI->F M σ'=some r->R w0 lab0 oo n σ' E' a' w'->(∃M,At M a' w')/\(if hex:∃M,At M a' w' then z6a hex else 0)<z6a hI:=by
    intro M σ' E' a' w' hM hr' h'
    have hA:At M a' w':=.inl ⟨σ',E',h',hr'⟩
    refine⟨⟨M,hA⟩, ?_⟩
    have hμ':(if hex:∃M,At M a' w' then z6a hex else 0)=z6a (⟨M,hA⟩:∃M,At M a' w'):=dif_pos ⟨M,hA⟩
    rw[hμ']
    have:=zp5 (⟨M,hA⟩:∃M,At M a' w') hA
    omega
   rcases zjk hI with⟨σ1,E1,g1,hr1⟩ | ⟨hM,σ1,E1,g1,hr1⟩
   ·generalize hM:z6a hI=M at hr1 next
    cases M with
    | zero=>cases hr1
    | succ M =>
     simp only[F,z3r]at hr1
     refine z3h hT hΓ hm c pl.fst hc g1 hr1 (hQ.then _) (zd1.join ?_ _)
     intro e σ' E' a' w' hr' h'
     cases e with
     | nrm=>exact next M σ' E' a' w' (Nat.lt_succ_self M) hr' h'
     | exit i=>exact hK (.exit i) σ' E' a' w' hr' h'
     | ret=>exact hK .ret σ' E' a' w' hr' h'
   ·refine z3h hT hΓ hm c pl.snd hc g1 hr1 (hQ.then _) (zd1.join ?_ _)
    intro e σ' E' a' w' hr' h'
    cases e with
    | nrm=>exact next N σ' E' a' w' (by omega) hr' h'
    | exit i=>exact hK (.exit i) σ' E' a' w' hr' h'
    | ret=>exact hK .ret σ' E' a' w' hr' h'
  ·cases hr
 | .exit id,pl,σ,E,a,w,K,r,Q,_,h,hr,_,hK=>by
  obtain⟨σ2,h1,h2⟩:=Option.bind_eq_some_iff.1 hr
  obtain⟨E2,g⟩:=z8l h h1
  exact wp_exit (hK (.exit id) σ2 E2 a w h2 g)
 | .ret,pl,σ,E,a,w,K,r,Q,_,h,hr,_,hK=>by
  obtain⟨σ1,h,hr⟩:=zb8 h hr
  obtain⟨σ2,h1,h2⟩:=Option.bind_eq_some_iff.1 hr
  obtain⟨E2,g⟩:=z8l h h1
  exact wp_ret (hK .ret σ2 E2 a w h2 g)
 | .rangeFunc _ _ _ _,_,_,_,_,_,_,_,_,_,_,hr,_,_=>by cases hr
 | .scope _,_,_,_,_,_,_,_,_,_,_,hr,_,_=>by cases hr
 | .goto _,_,_,_,_,_,_,_,_,_,_,hr,_,_=>by cases hr
 | .refuse _,_,_,_,_,_,_,_,_,_,_,hr,_,_=>by cases hr
end
end Go.Fw
namespace Go.Fw
open Go.RowKit
def mkSV(agg:Bool)(cs:List z1b):SV:=match agg,cs with
 | true,cs=>.agg cs
 | false,[c]=>.c c
 | false,_=>.c .undef
def z9v:(ps:List PT)->Dat ps->Nat->List (Nat×SV)×List (Nat×Row)
 | [],_,_=>([],[])
 | ⟨t,agg,io⟩::ps,X,i=>match io with
  | false=>((i,mkSV agg (z4k t X.1 none))::(z9v ps X.2 (i+1)).1,(z9v ps X.2 (i+1)).2)
  | true=>match z22 (100000+i) t X.1 0 with
   | (cs,rows,_)=>((i,mkSV agg cs)::(100000+i,mkSV agg cs)::(z9v ps X.2 (i+1)).1,rows)
def z2e(ps:List PT)(X:Dat ps):St:=z1h (z9v ps X 0).1 [] (z9v ps X 0).2
def zam(T:Tab)(σ:St):List ResultVar->Option (List SV)
 | []=>some []
 | .tmp t::rs=>match zam T σ rs with
  | some l=>some (ev σ (.tmp t)::l)
  | none=>none
 | .cell x ty::rs=>match ev σ (.tmp x),T ty,zam T σ rs with
  | .c c,some i,some l=>match zkv σ c i.agg i.zero.length with
   | some s=>some (s::l)
   | none=>none
  | _,_,_=>none
def zbb(look:Nat->Option Row):(rs:List PT)->List SV->Option (Dat rs)
 | [],[]=>some ()
 | p::ps,s::ss=>match z56 p.agg s with
  | some cs=>z7x (z5y look p.t cs) (zbb look ps ss)
  | none=>none
 | [],_::_=>none
 | _::_,[]=>none
def z4q:List PT->List SV->List z1b
 | p::ps,s::ss=>(match z56 p.agg s with | some cs=>cs | none=>[])++z4q ps ss
 | _,_=>[]
def zs2(σ:St):(ps:List PT)->Nat->Option (IoT ps)
 | [],_=>some ()
 | ⟨t,agg,false⟩::ps,i=>zs2 σ ps (i+1)
 | ⟨t,agg,true⟩::ps,i=>match z56 agg (σ.slot (100000+i))with
  | some cs=>z5y σ.row t cs
  | none=>none
def ze3(σ:St):(ps:List PT)->Nat->List z1b
 | [],_=>[]
 | ⟨t,agg,false⟩::ps,i=>ze3 σ ps (i+1)
 | ⟨t,agg,true⟩::ps,i=>match z56 agg (σ.slot (100000+i))with
  | some cs=>cs
  | none=>[]
def nilC(look:Nat->Option Row):List z1b->Bool
 | [.nil]=>true
 | [.own r]=>match look r with
  | some row=>row.nilE||Nat.blt 0 row.xs.length
  | none=>false
 | _=>false
def zq6{α:Type}(look:Nat->Option Row):List PT->List SV->Option α->Option α
 | p::ps,s::ss,X=>cond p.io (match z56 p.agg s with
  | some cs=>cond (nilC look cs) (zq6 look ps ss X) none
  | none=>none) (zq6 look ps ss X)
 | [],_,X=>X
 | _::_,[],X=>X
def zrk(look:Nat->Option Row):List PT->List SV->Prop
 | p::ps,s::ss=>(p.io=true->∀cs,z56 p.agg s=some cs->nilC look cs=true)/\zrk look ps ss
 | [],_=>True
 | _::_,[]=>True
def z8b{α:Type}{look:Nat->Option Row}{r:α}:∀{rs:List PT} {ss:List SV} {X:Option α},zq6 look rs ss X=some r->zrk look rs ss/\X=some r
 | [],_,_,h=>⟨trivial,h⟩
 | _::_,[],_,h=>⟨trivial,h⟩
 | p::ps,s::ss,X,h=>by
  simp only[zq6]at h
  cases hio:p.io
  ·rw[hio]at h
   obtain⟨h1,h2⟩:=z8b (show zq6 look ps ss X=some r from h)
   exact⟨⟨(λhq=>by rw[hio]at hq;cases hq),h1⟩,h2⟩
  ·rw[hio]at h
   simp only[cond_true]at h
   split at h
   ·rename_i cs hcs
    cases hq:nilC look cs
    ·rw[hq]at h;cases h
    rw[hq]at h
    obtain⟨h1,h2⟩:=z8b (show zq6 look ps ss X=some r from h)
    exact⟨⟨λ_ cs' hcs'=>by rw[hcs]at hcs';injection hcs' with hcs';subst hcs';exact hq,h1⟩,h2⟩
   ·cases h
def znk(T:Tab)(sig:Sig)(rv:List ResultVar)(σ:St):Option (IoT sig.ps×Dat sig.rs) :=
 match zam T σ rv with
 | some ss=>cond (z47 (z16 (z4q sig.rs ss++ze3 σ sig.ps 0))) (zq6 σ.row sig.rs ss (z7x (zs2 σ sig.ps 0) (zbb σ.row sig.rs ss))) none
 | none=>none
def finK(T:Tab)(sig:Sig)(rv:List ResultVar):Ex->St->Option (IoT sig.ps×Dat sig.rs)
 | .nrm,σ=>znk T sig rv σ
 | .ret,σ=>znk T sig rv σ
 | .exit _,_=>none
section
variable {P : Program} {σ σ' : St} {E E' : Env} {w w' : World} {w0 : World} {lab0 : Nat → Lab} {oo : Nat → Value} {n : Nat} {a : Act} {T : Tab} {Γ : Gm} {B : Nat → Option z01} {N : Nat}
def zav{agg:Bool}{cs:List z1b}{us:List Value}{v:Value}(hc:z4w agg v us)(h:z1p (z1s σ E w) cs us):z3q σ E w (mkSV agg cs) v:=by
 cases agg
 ·obtain rfl:us=[v]:=hc
  cases cs with
  | nil=>exact True.intro
  | cons c cs=>cases cs with
   | nil=>exact h.1
   | cons _ _=>exact True.intro
 ·obtain⟨arr,rfl,rfl⟩:=hc
  exact⟨arr,rfl,h⟩
def z8c{α:Type}:∀{l l':List (Nat×α)} {t:Nat},z1i (l++l') t=match z1i l t with | some v=>some v | none=>z1i l' t
 | [],_,_=>rfl
 | (k,v)::l,l',t=>by
  simp only[List.cons_append,z1i]
  cases Nat.beq t k
  ·exact z8c
  ·rfl
def zbi(d:Nat)(t:Ty):∀(y:t.den) (j:Nat),∀p∈(z22 d t y j).2.1,z1i (z22 d t y j).2.1 p.1=some p.2:=by
 induction t with
 | int k=>intro y j p hp;simp[z22]at hp
 | bool=>intro y j p hp;simp[z22]at hp
 | fnc g=>intro y j p hp;simp[z22]at hp
 | str=>intro y j p hp;simp[z22]at hp
 | err=>intro y j p hp;simp[z22]at hp
 | sl e t _ =>
  intro y j p hp
  simp only[z22,List.mem_singleton]at hp
  subst hp
  simp[z22,z1i]
 | pair t1 t2 ih1 ih2 =>
  intro y j p hp
  simp only[z22,List.mem_append]at hp ⊢
  rw[z8c]
  rcases hp with hp | hp
  ·rw[ih1 _ _ p hp]
  ·cases hl:z1i (z22 d t1 y.1 j).2.1 p.1 with
   | none=>exact ih2 _ _ p hp
   | some v =>
    have h1:=(z3f d).2 _ (z34 hl)
    have h2:=(z3f d).2 p hp
    obtain⟨i1,_,a1,b1⟩:=h1
    obtain⟨i2,a2,_,b2⟩:=h2
    have:=z4t (b1.symm.trans b2)
    exact absurd (Nat.lt_of_lt_of_le a1 a2) (by rw[this];exact Nat.lt_irrefl _)
def start_ok{L:List Nat}:∀{ps:List PT} {vs:List Value} {X:Dat ps} {i:Nat},z50 w L ps vs X->(z82 ps=true->L=[])->z69 ps=true->L.Nodup ->
  ∃(f:Nat->Lab) (rvf:Nat->Value),(∀k∈L,f k≠.st) /\
   ∀(σ:St) (E:Env),(∀k,k∈L->E.lab k=f k)->(∀k,k∉L->E.lab k=.st)->E.rv=rvf->(∀r row,z1i (z9v ps X i).2 r=some row->σ.row r=some row) ->
    (∀p∈(z9v ps X i).1,∃j v,vs[j]? = some v/\(p.1=i+j\/p.1=100000+(i+j))/\z3q σ E w p.2 v) /\
    (∀r row,z1i (z9v ps X i).2 r=some row->z2r w E.lab r row (E.rv r)):=by
 intro ps
 have ro:∀{p:PT} {v:Value} {x:p.t.den} {σ:St} {E:Env},(∃cs,z4w p.agg v cs/\Rd w (λk=>k∉L) p.t cs x)->(∀k,k∉L->E.lab k=.st)->z3q σ E w (mkSV p.agg (z4k p.t x none)) v:=by
  rintro p v x σ E ⟨cs,h1,h2⟩ hl
  exact zav h1 (z5f (p:=none) (h2.mono λk hk=>hl k hk))
 have ros:∀{ps:List PT} {vs:List Value} {X:Dat ps} {i:Nat},z82 ps=true->z50 w L ps vs X->(z9v ps X i).2=[]/\∀(σ:St) (E:Env),(∀k,k∉L->E.lab k=.st)->∀p∈(z9v ps X i).1,∃j v,vs[j]? = some v/\(p.1=i+j\/p.1=100000+(i+j))/\z3q σ E w p.2 v:=by
  intro ps
  induction ps with
  | nil=>intro vs X i _ _;exact⟨rfl,λσ E _ p hp=>by simp[z9v]at hp⟩
  | cons p ps ih =>
   intro vs X i hn ha
   cases vs with
   | nil=>exact ha.elim
   | cons v vs =>
    obtain⟨t,agg,io⟩:=p
    simp only[z82,List.all_cons,Bool.and_eq_true,Bool.not_eq_true']at hn
    obtain⟨hio,hn⟩:=hn
    subst hio
    obtain⟨h1,h2⟩:=ha
    obtain⟨g1,g2⟩:=ih (i:=i+1) hn h2
    refine⟨g1,λσ E hl p hp=>?_⟩
    rcases List.mem_cons.1 hp with rfl | hp
    ·exact⟨0,v,rfl,.inl rfl,ro (p:=⟨t,agg,false⟩) h1 hl⟩
    ·obtain⟨j,v',k1,k2,k3⟩:=g2 σ E hl p hp
     exact⟨j+1,v',(by simpa using k1),k2.elim (λe=>.inl (by omega)) (λe=>.inr (by omega)),k3⟩
 induction ps with
 | nil =>
  intro vs X i ha hn ho hL
  have hL0:=hn rfl
  subst hL0
  refine⟨λ_=>.dead,λ_=>undef,(λk hk=>by cases hk),λσ E _ _ _ _=>⟨λp hp=>by simp[z9v]at hp,λr row hr=>by simp[z9v,z1i]at hr⟩⟩
 | cons p ps ih =>
  intro vs X i ha hn ho hL
  cases vs with
  | nil=>exact ha.elim
  | cons v vs =>
   obtain⟨t,agg,io⟩:=p
   obtain⟨h1,h2⟩:=ha
   cases io
   ·obtain⟨f,rvf,k1,k2⟩:=ih (i:=i+1) h2 (λhq=>hn (by simpa[z82]using hq)) ho hL
    refine⟨f,rvf,k1,λσ E e1 e2 e3 e4=>?_⟩
    obtain⟨g1,g2⟩:=k2 σ E e1 e2 e3 e4
    refine⟨λp hp=>?_,g2⟩
    rcases List.mem_cons.1 hp with rfl | hp
    ·exact⟨0,v,rfl,.inl rfl,ro (p:=⟨t,agg,false⟩) h1 e2⟩
    ·obtain⟨j,v',k1,k2,k3⟩:=g1 p hp
     exact⟨j+1,v',(by simpa using k1),k2.elim (λe=>.inl (by omega)) (λe=>.inr (by omega)),k3⟩
   ·obtain⟨cs,hcv,hown⟩:=h1
    have hown:Own w t L cs X.1:=hown
    obtain⟨f,rvf,k1,k2⟩:=z6b (100000+i) (j:=0) hown hL
    obtain⟨r1,r2⟩:=ros (i:=i+1) ho h2
    have hrows:(z9v (⟨t,agg,true⟩::ps) X i).2=(z22 (100000+i) t X.1 0).2.1:=rfl
    refine⟨f,rvf,λk hk=>?_,λσ E e1 e2 e3 e4=>?_⟩
    ·obtain⟨i',_,_,hf⟩:=k1 k hk
     rcases hf with hf | hf<;>rw[hf]<;>simp
    ·rw[hrows]at e4
     have hmem:∀p∈(z22 (100000+i) t X.1 0).2.1,z1i (z22 (100000+i) t X.1 0).2.1 p.1=some p.2:=zbi _ _ _ _
     obtain⟨g1,g2⟩:=k2 σ E e1 (λp hp=>by rw[e3]) (λp hp=>e4 _ _ (hmem p hp))
     refine⟨λp hp=>?_,λr row hr=>?_⟩
     ·rcases List.mem_cons.1 hp with rfl | hp
      ·exact⟨0,v,rfl,.inl rfl,zav hcv g1⟩
      rcases List.mem_cons.1 hp with rfl | hp
      ·exact⟨0,v,rfl,.inr rfl,zav hcv g1⟩
      ·obtain⟨j,v',k1,k2,k3⟩:=r2 σ E e2 p hp
       exact⟨j+1,v',(by simpa using k1),k2.elim (λe=>.inl (by omega)) (λe=>.inr (by omega)),k3⟩
     ·rw[hrows]at hr
      exact g2 (r,row) (z34 hr)
def zfi{sl:List (Nat×SV)}{σ0:St}{v:Value}{t:Nat}(h:∀p∈sl,p.1=t->z3q σ0 E w p.2 v):z3q σ0 E w (z66 sl t) v:=by
 unfold z66
 split
 ·rename_i s hs
  exact h _ (z34 hs) rfl
 ·exact(show z1s σ0 E w .undef v from True.intro)
def rvF(ts:Array Value):ResultVar->Sem Value
 | .tmp t=>pure (ts.getD t undef)
 | .cell x t=>do loadVar t (<-asAddr (ts.getD x undef))
def zoo(fn:Func)(ts:Array Value):results fn ts=(do let vs <-fn.results.mapM (rvF ts);pure (if h:vs.size=1 then vs[0]else .tuple vs)):=by
 unfold results
 have:(λx:ResultVar=>match x with
  | .tmp t=>pure (ts.getD t undef)
  | .cell x t=>do loadVar t (<-asAddr (ts.getD x undef)))=rvF ts:=by
  funext x
  cases x<;>rfl
 rw[<-this]
 rfl
def zal(hT:TOk P T)(h:R w0 lab0 oo n σ E a w):∀{rv:List ResultVar} {ss:List SV},zam T σ rv=some ss ->
  ∃vs:List Value,z1p (z3q σ E w) ss vs/\(rv.mapM (rvF a.tmps)).run P w=.ok vs w:=by
 intro rv
 induction rv with
 | nil =>
  intro ss hr
  injection hr with hr
  subst hr
  exact⟨[],trivial,by simp⟩
 | cons r rv ih =>
  intro ss hr
  cases r with
  | tmp t =>
   simp only[zam]at hr
   split at hr
   ·rename_i l hl
    injection hr with hr
    subst hr
    obtain⟨vs,h1,h3⟩:=ih hl
    refine⟨a.eval (.tmp t)::vs,⟨z1u h (.tmp t),h1⟩, ?_⟩
    have h0:(rvF a.tmps (.tmp t)).run P w=.ok (a.eval (.tmp t)) w:=rfl
    rw[List.mapM_cons,Sem.run_bind,h0]
    show((do let bs <-rv.mapM (rvF a.tmps);pure (a.eval (.tmp t)::bs)):Sem (List Value)).run P w=_
    rw[Sem.run_bind,h3]
    rfl
   ·cases hr
  | cell x ty =>
   simp only[zam]at hr
   split at hr
   ·rename_i c i l hc hi hl
    split at hr
    ·rename_i s hs
     injection hr with hr
     subst hr
     obtain⟨vs,h1,h3⟩:=ih hl
     have hx:=z1u h (.tmp x)
     rw[hc]at hx
     obtain⟨v,g1,g2⟩:=z8p hT h hi hs hx
     have g1:=g1 w (Ext.refl w)
     have hx2:a.eval (.tmp x)=a.tmps.getD x undef:=rfl
     rw[hx2]at g1
     refine⟨v::vs,⟨g2,h1⟩, ?_⟩
     have h0:(rvF a.tmps (.cell x ty)).run P w=.ok v w:=by
      have ha:∃ad,a.tmps.getD x undef=.pointer (some ad):=by
       obtain⟨cs,hl',_⟩:∃cs,zkw σ c i.zero.length=some cs/\True:=by
        unfold zkv at hs
        split at hs
        ·rename_i cs hcs;exact⟨cs,hcs,trivial⟩
        ·cases hs
       obtain⟨ad,vs',f,e,_⟩:=za7 h hl' (show z1s σ E w c (a.tmps.getD x undef)from hx)
       exact⟨_,e⟩
      obtain⟨ad,ha⟩:=ha
      show((do loadVar ty (<-asAddr (a.tmps.getD x undef)):Sem Value)).run P w=_
      rw[ha]at g1 ⊢
      exact g1
     rw[List.mapM_cons,Sem.run_bind,h0]
     show((do let bs <-rv.mapM (rvF a.tmps);pure (v::bs)):Sem (List Value)).run P w=_
     rw[Sem.run_bind,h3]
     rfl
    ·cases hr
   ·cases hr
def z7b{fn:Func}{vs:List Value}(h:(fn.results.toList.mapM (rvF a.tmps)).run P w=.ok vs w):∃v,(results fn a.tmps).run P w=.ok v w/\RetV vs v:=by
 have h2:(fn.results.mapM (rvF a.tmps)).run P w=.ok vs.toArray w:=by
  rw[show fn.results=fn.results.toList.toArray from by simp,List.mapM_toArray]
  simp[h]
 rw[zoo,Sem.run_bind,h2]
 match vs with
 | []=>exact⟨.tuple #[],by simp,rfl⟩
 | [u]=>exact⟨u,by simp,rfl⟩
 | u::u'::vs=>exact⟨.tuple (u::u'::vs).toArray,by simp,rfl⟩
def nilIf_of(h:R w0 lab0 oo n σ E a w){io:Bool}{t:Ty}{cs:List z1b}{us:List Value}{y:t.den}(hz:io=true->nilC σ.row cs=true)(hp:z5y σ.row t cs=some y)(hc:z1p (z1s σ E w) cs us):NilIf io t us y:=by
 cases t with
 | sl e t =>
  intro hio hl
  have hz:=hz hio
  rcases z9l (show z88 σ.row e t cs=some y from hp)with⟨rfl,rfl⟩ | ⟨r,row,rfl,hr,rfl,hd,rfl,rfl⟩
  ·obtain⟨u,rfl,hu⟩:=z1w hc
   obtain rfl:u=_:=hu
   rfl
  ·obtain⟨u,rfl,hu⟩:=z1w hc
   obtain⟨rfl,_⟩:=hu
   obtain⟨css,_,_,_,h4⟩:=h.rows r row hr
   have hl:row.xs.length=0:=hl
   simp only[nilC,hr,hl]at hz
   rw[h4 (by simpa using hz) hl]
 | int k=>trivial
 | bool=>trivial
 | str=>trivial
 | err=>trivial
 | fnc g=>trivial
 | pair a b=>trivial
def z7c(h:R w0 lab0 oo n σ E a w):∀{rs:List PT} {ss:List SV} {vs:List Value} {Y:Dat rs},zbb σ.row rs ss=some Y->zrk σ.row rs ss->z1p (z3q σ E w) ss vs->(z16 (z4q rs ss)).Nodup ->
  ∃Lr,zmq w rs vs Y Lr/\Lr.Nodup/\∀k∈Lr,∃q∈z16 (z4q rs ss),z60 E.lab q k
 | [],[],[],Y,_,_,_,_=>⟨[],rfl,List.nodup_nil,λk hk=>by cases hk⟩
 | p::ps,s::ss,v::vs,Y,hp,hz,hs,hn=>by
  simp only[zbb]at hp
  split at hp
  ·rename_i cs hcs
   obtain⟨h1,h2⟩:=z2s hp
   obtain⟨us,k1,k2⟩:=z4s hcs hs.1
   have hcells:z4q (p::ps) (s::ss)=cs++z4q ps ss:=by simp[z4q,hcs]
   rw[hcells,z3e]at hn ⊢
   obtain⟨n1,n2,n3⟩:=List.nodup_append.1 hn
   obtain⟨L1,o1,o2,o3⟩:=z3t h h1 k2 n1
   obtain⟨L2,g1,g2,g3⟩:=z7c h h2 hz.2 hs.2 n2
   refine⟨L1++L2,⟨us,L1,L2,rfl,k1,o1,nilIf_of h (λhio=>hz.1 hio cs hcs) h1 k2,g1⟩,List.nodup_append.2 ⟨o2,g2,λx hx y hy e=>?_⟩,λk hk=>?_⟩
   ·subst e
    obtain⟨q,q1,q2⟩:=o3 x hx
    obtain⟨q',q1',q2'⟩:=g3 x hy
    exact n3 q q1 q' q1' (z5a q2 q2')
   ·rcases List.mem_append.1 hk with hk | hk
    ·obtain⟨q,q1,q2⟩:=o3 k hk
     exact⟨q,List.mem_append_left _ q1,q2⟩
    ·obtain⟨q,q1,q2⟩:=g3 k hk
     exact⟨q,List.mem_append_right _ q1,q2⟩
  ·cases hp
 | [],[],_::_,_,_,_,hs,_=>hs.elim
 | [],_::_,_,_,hp,_,_,_=>by cases hp
 | _::_,[],_,_,hp,_,_,_=>by cases hp
 | _::_,_::_,[],_,_,_,hs,_=>hs.elim
def ze2(h:R w0 lab0 oo n σ E a w):∀{ps:List PT} {i:Nat} {vs:List Value} {y:IoT ps},zs2 σ ps i=some y->vs.length=ps.length->(∀j v,vs[j]? = some v->oo (100000+(i+j))=v)->(z16 (ze3 σ ps i)).Nodup ->
  ∃L',z8s w L' ps vs y/\L'.Nodup/\∀k∈L',∃q∈z16 (ze3 σ ps i),z60 E.lab q k
 | [],i,vs,y,_,_,_,_=>⟨[],rfl,List.nodup_nil,λk hk=>by cases hk⟩
 | ⟨t,agg,false⟩::ps,i,v::vs,y,hr,hl,hv,hn=>by
  obtain⟨L',g1,g2,g3⟩:=ze2 h (ps:=ps) (i:=i+1) (vs:=vs) (y:=y) hr (by simpa using hl) (λj v' hj=>by
   have:=hv (j+1) v' (by simpa using hj)
   rwa [show i+1+j=i+(j+1)from by omega]) hn
  exact⟨L',g1,g2,g3⟩
 | ⟨t,agg,true⟩::ps,i,v::vs,y,hr,hl,hv,hn=>by
  simp only[zs2]at hr
  simp only[ze3]at hn ⊢
  split at hr
  ·rename_i cs hcs
   rw[hcs]at hn
   simp only at hn ⊢
   have hs:=h.slots (100000+i)
   have hval:z5r oo a (100000+i)=v:=by
    unfold z5r
    rw[if_neg (by omega)]
    exact hv 0 v rfl
   rw[hval]at hs
   obtain⟨us,k1,k2⟩:=z4s hcs hs
   obtain⟨L,o1,o2,o3⟩:=z3t h hr k2 hn
   exact⟨L,⟨us,k1,o1⟩,o2,o3⟩
  ·cases hr
 | _::_,_,[],_,_,hl,_,_=>by simp at hl
def z50.len{L:List Nat}:∀{ps:List PT} {vs:List Value} {X:Dat ps},z50 w L ps vs X->vs.length=ps.length
 | [],[],_,_=>rfl
 | p::ps,v::vs,X,h=>by simp[z50.len h.2]
 | [],_::_,_,h=>h.elim
 | _::_,[],_,h=>h.elim
def Ty.bd:(t:Ty)->t.den->Prop
 | .sl _ t,xs=>xs.length<=maxLen/\∀x∈xs,t.bd x
 | .pair a b,x=>a.bd x.1/\b.bd x.2
 | .int _,_=>True
 | .bool,_=>True
 | .str,_=>True
 | .err,_=>True
 | .fnc _,_=>True
def zo9{α β:Type}{Q:α->β->Prop}{p:β->Prop}(hp:∀a b,Q a b->p b):∀{as:List α} {bs:List β},z1p Q as bs->∀b∈bs,p b
 | [],[],_,_,hb=>by cases hb
 | _::_,_::_,h,b,hb=>by
  rcases List.mem_cons.1 hb with rfl | hb
  ·exact hp _ _ h.1
  ·exact zo9 hp h.2 b hb
 | [],_::_,h,_,_=>h.elim
 | _::_,[],h,_,_=>h.elim
def Rd.bd{S:Nat->Prop}:∀{t:Ty} {cs:List Value} {x:t.den},Rd w S t cs x->t.bd x
 | .int _,_,_,_=>trivial
 | .bool,_,_,_=>trivial
 | .str,_,_,_=>trivial
 | .err,_,_,_=>trivial
 | .fnc _,_,_,_=>trivial
 | .pair a b,_,_,h=>by
  obtain⟨c1,c2,_,h1,h2⟩:=h
  exact⟨h1.bd,h2.bd⟩
 | .sl e t,_,xs,h=>by
  obtain⟨A,n,c,_,h1,h2,h3,h4⟩:=h
  refine⟨by omega,λx hx=>?_⟩
  rcases h4 with rfl | ⟨ad,css,_,_,h5,_⟩
  ·rw[List.eq_nil_of_length_eq_zero h1]at hx
   cases hx
  ·exact zo9 (p:=λx=>t.bd x) (λ_ _ hr=>hr.bd) h5 x hx
def Own.bd:∀{t:Ty} {L:List Nat} {cs:List Value} {x:t.den},Own w t L cs x->t.bd x:=λh=>(h.rd (S:=λ_=>True) λ_ _=>trivial).bd
def zq8:(ps:List PT)->Dat ps->Prop
 | [],_=>True
 | p::ps,X=>p.t.bd X.1/\zq8 ps X.2
def z50.bd{L:List Nat}:∀{ps:List PT} {vs:List Value} {X:Dat ps},z50 w L ps vs X->zq8 ps X
 | [],[],_,_=>trivial
 | p::ps,v::vs,X,h=>by
  refine⟨?_,h.2.bd⟩
  obtain⟨cs,_,h1⟩:=h.1
  cases hio:p.io
  ·rw[hio]at h1;exact Rd.bd h1
  ·rw[hio]at h1;exact Own.bd h1
 | [],_::_,_,h=>h.elim
 | _::_,[],_,h=>h.elim
theorem zhu [Inv P] {f : Nat} {fn : Func} {c : Code} {sig : Sig} {pre : Option (Dat sig.ps → Bool)} {val : Dat sig.ps → IoT sig.ps × Dat sig.rs} {pl : za9} {je : Option z01} (hf : P.funcs[f]? = some fn) (hb : fn.body = some c) (hname : (fn.name == "runtime.NumGoroutine") = false)
  (hm:P.follows .mixedOrders=true) (hT:TOk P T) (hΓ:GOk P Γ) (hc:z5q fn.ntmps c=true) (hn:Nat.ble sig.ps.length fn.ntmps=true) (hn2:Nat.ble fn.ntmps 100000=true) (hone:z69 sig.ps=true)
  (hG:∀X,zq8 sig.ps X->z4f pre X=true->∃N,z0w Γ T B N c pl (z2e sig.ps X) (z1f je (finK T sig fn.results.toList))=some (val X)):z0l P f ⟨sig,pre,val⟩:=by
 intro w args L X y Y ha hno hL hlt hg hI hBL
 have hg:cond (z4f pre X) (some (val X)) none=some (y,Y):=hg
 obtain⟨N,hr⟩:∃N,z0w Γ T B N c pl (z2e sig.ps X) (z1f je (finK T sig fn.results.toList))=some (y,Y):=by
  cases hp:z4f pre X
  ·rw[hp]at hg;cases hg
  ·rw[hp]at hg
   rw[<-hg]
   exact hG X ha.bd hp
 have hn:=Nat.le_of_ble_eq_true hn
 have hn2:=Nat.le_of_ble_eq_true hn2
 have hlen:args.size=sig.ps.length:=by
  have:=z50.len ha
  simpa using this
 refine .inl ⟨?_, ?_⟩
 ·have h1 : ¬ fn.name = "runtime.NumGoroutine" := by simpa using hname
  have h2:¬ fn.body=none:=by rw[hb];simp
  simp[callFunc,hf,h1,h2]
 obtain⟨f0,rvf,k1,k2⟩:=start_ok (i:=0) ha hno hone hL
 classical
 let lab0:Nat->Lab:=λk=>if k∈L then f0 k else .st
 let E:Env:=⟨lab0,rvf,λ_=>0⟩
 let oo:Nat->Value:=λt=>args.getD (t-100000) undef
 have hlab1:∀k,k∈L->E.lab k=f0 k:=λk hk=>if_pos hk
 have hlab2:∀k,k∉L->E.lab k=.st:=λk hk=>if_neg hk
 obtain⟨g1,g2⟩:=k2 (z2e sig.ps X) E hlab1 hlab2 rfl (λr row h=>h)
 have hsz:(args++Array.replicate (fn.ntmps-args.size) undef).size=fn.ntmps:=by
  rw[Array.size_append,Array.size_replicate]
  omega
 have hR:R w lab0 oo fn.ntmps (z2e sig.ps X) E { tmps:=args++Array.replicate (fn.ntmps-args.size) undef,defers:=[] } w:=by
  refine⟨hn2,hsz,rfl,λt=>?_,λb te cs hb=>?_,λr row hr=>g2 r row hr,⟨rfl,rfl,rfl,Nat.le_refl _,λk hk hl=>⟨hl,rfl⟩⟩⟩
  ·show z3q _ E w (z66 (z9v sig.ps X 0).1 t) _
   refine zfi λp hp e=>?_
   obtain⟨j,v,j1,j2,j3⟩:=g1 p hp
   have hj:j<args.size:=by
    have:=(List.getElem?_eq_some_iff.1 j1).1
    simpa using this
   have hval:z5r oo { tmps:=args++Array.replicate (fn.ntmps-args.size) undef,defers:=[] } t=v:=by
    subst e
    unfold z5r
    rcases j2 with j2 | j2
    ·rw[if_pos (by omega),j2]
     simp only[Nat.zero_add,Array.getD_eq_getD_getElem?]
     rw[Array.getElem?_append_left hj]
     have:args[j]? = some v:=by simpa using j1
     rw[this];rfl
    ·rw[if_neg (by omega),j2]
     show args.getD (100000+(0+j)-100000) undef=v
     rw[show 100000+(0+j)-100000=j from by omega,Array.getD_eq_getD_getElem?]
     have:args[j]? = some v:=by simpa using j1
     rw[this];rfl
   rw[hval]
   exact j3
  ·cases hb
 have hend:∀σ' E' a' w',znk T sig fn.results.toList σ'=some (y,Y)->R w lab0 oo fn.ntmps σ' E' a' w'->a'.defers=[]/\∃v,(results fn a'.tmps).run P w'=.ok v w' /\
   ∃vs L' Lr,Ending.returned v=Ending.returned v/\zut w sig args.toList L y Y v w' vs L' Lr:=by
  intro σ' E' a' w' hfin h'
  refine⟨h'.defers, ?_⟩
  unfold znk at hfin
  split at hfin
  ·rename_i ss hss
   cases hq:z47 (z16 (z4q sig.rs ss++ze3 σ' sig.ps 0))
   ·rw[hq]at hfin;cases hfin
   rw[hq]at hfin
   obtain⟨hz,hfin⟩:=z8b (show zq6 σ'.row sig.rs ss _=some (y,Y)from hfin)
   obtain⟨p1,p2⟩:=z2s (z:=(y,Y)) hfin
   have hnd:=z3a hq
   rw[z3e]at hnd
   obtain⟨n1,n2,n3⟩:=List.nodup_append.1 hnd
   obtain⟨vs,v1,v2⟩:=zal hT h' hss
   obtain⟨v,r1,r2⟩:=z7b v2
   obtain⟨Lr,l1,l2,l3⟩:=z7c h' p2 hz v1 n1
   obtain⟨L',m1,m2,m3⟩:=ze2 h' (vs:=args.toList) p1 (z50.len ha) (λj u hu=>by
    show args.getD (100000+(0+j)-100000) undef=u
    rw[show 100000+(0+j)-100000=j from by omega,Array.getD_eq_getD_getElem?]
    have:args[j]? = some u:=by simpa using hu
    rw[this];rfl) n2
   have hold:∀k q,z60 E'.lab q k->k∈L\/w.heap.size<=k:=by
    intro k q hk
    by_cases h1:k∈L
    ·exact .inl h1
    ·refine .inr (Nat.le_of_not_lt λhlt=>?_)
     have:=(h'.same.old k hlt (hlab2 k h1)).1
     rcases hk with hk | hk<;>rw[this]at hk<;>cases hk
   refine⟨v,r1,vs,L',Lr,rfl,r2,l1,m1,List.nodup_append.2 ⟨l2,m2,λx hx z hz e=>?_⟩,λk hk=>?_,λk hk=>?_,h'.same.os,h'.same.tape,h'.same.output,h'.same.size,λk hk hkL=>(h'.same.old k hk (hlab2 k hkL)).2⟩
   ·subst e
    obtain⟨q,q1,q2⟩:=l3 x hx
    obtain⟨q',q1',q2'⟩:=m3 x hz
    exact n3 q q1 q' q1' (z5a q2 q2')
   ·obtain⟨q,q1,q2⟩:=l3 k hk
    exact hold k q q2
   ·obtain⟨q,q1,q2⟩:=m3 k hk
    exact hold k q q2
  ·cases hfin
 refine calls_of_wp hf hb (z3h hT (hΓ.at hI λk hk=>hlab2 k λhl=>hBL k hl hk) hm c pl hc hR hr ?_ (zd1.join ?_ _))
 ·intro ch a a' w' hq
  obtain⟨_,v,vs,L',Lr,he,_⟩:=hq
  cases he
 ·intro e σ' E' a' w' hr' h'
  cases e with
  | nrm =>
   obtain⟨d1,v,d2,vs,L',Lr,d3,d4⟩:=hend σ' E' a' w' hr' h'
   exact⟨d1,v,d2,v,vs,L',Lr,rfl,d4⟩
  | ret =>
   obtain⟨d1,v,d2,vs,L',Lr,d3,d4⟩:=hend σ' E' a' w' hr' h'
   exact⟨d1,v,d2,v,vs,L',Lr,rfl,d4⟩
  | exit i=>cases hr'
end
def z3w:(ps:List PT)->Dat ps->Nat->Nat->List (Nat×SV)×List (Nat×Row)
 | [],_,_,_=>([],[])
 | ⟨t,agg,false⟩::ps,X,i,j=>((i,mkSV agg (z4k t X.1 none))::(z3w ps X.2 (i+1) j).1,(z3w ps X.2 (i+1) j).2)
 | ⟨t,agg,true⟩::ps,X,i,j=>match z22 100000 t X.1 j with
  | (cs,rows,j1)=>((i,mkSV agg cs)::(z3w ps X.2 (i+1) j1).1,rows++(z3w ps X.2 (i+1) j1).2)
def rfEnd(σ:St):Rf->Option (List z1b)
 | none=>some []
 | some p=>match σ.box 100000 with
  | some (te,cs)=>cond (Nat.beq te p.1) (some cs) none
  | none=>none
def zfo(σ:St):Rf->Bool
 | none=>true
 | some _=>match σ.slot 100000 with
  | .c (.box 100000 0)=>true
  | _=>false
def zhf(T:Tab)(rf:Rf)(rs:List PT)(rv:List ResultVar)(σ:St):Option (RfD rf×Dat rs) :=
 match zam T σ rv,rfEnd σ rf with
 | some ss,some cs=>cond (zfo σ rf&&z47 (z16 (z4q rs ss++cs))) (zq6 σ.row rs ss (z7x (rfPack σ.row rf cs) (zbb σ.row rs ss))) none
 | _,_=>none
section
variable {P : Program} {σ σ' : St} {E E' : Env} {w w' : World} {w0 : World} {lab0 : Nat → Lab} {oo : Nat → Value} {n : Nat} {a : Act} {T : Tab} {Γ : Gm} {B : Nat → Option z01} {N : Nat}
def z74.len{S:Nat->Prop}:∀{ps:List PT} {vs:List Value} {X:Dat ps} {L:List Nat},z74 w S ps vs X L->vs.length=ps.length
 | [],[],_,_,_=>rfl
 | p::ps,v::vs,X,L,h=>by
  obtain⟨_,_,_,_,_,_,h⟩:=h
  simp[z74.len h]
 | [],_::_,_,_,h=>h.elim
 | _::_,[],_,_,h=>h.elim
def z74.bd{S:Nat->Prop}:∀{ps:List PT} {vs:List Value} {X:Dat ps} {L:List Nat},z74 w S ps vs X L->zq8 ps X
 | [],[],_,_,_=>trivial
 | p::ps,v::vs,X,L,h=>by
  obtain⟨cs,L1,L2,_,_,h1,h2⟩:=h
  refine⟨?_,h2.bd⟩
  cases hio:p.io
  ·rw[hio]at h1;exact Rd.bd h1.2
  ·rw[hio]at h1;exact Own.bd h1
 | [],_::_,_,_,h=>h.elim
 | _::_,[],_,_,h=>h.elim
def z9u{ps:List PT}:∀{X:Dat ps} {i j:Nat},∀p∈(z3w ps X i j).2,∃q,j<=q/\p.1=z19 100000 q:=by
 induction ps with
 | nil=>intro X i j p hp;simp[z3w]at hp
 | cons p0 ps ih =>
  intro X i j p hp
  obtain⟨t,agg,io⟩:=p0
  cases io
  ·exact ih (X:=X.2) p hp
  ·simp only[z3w,List.mem_append]at hp
   rcases hp with hp | hp
   ·obtain⟨q,q1,_,q2⟩:=(z3f 100000).2 p hp
    exact⟨q,q1,q2⟩
   ·obtain⟨q,q1,q2⟩:=ih (X:=X.2) p hp
    exact⟨q,Nat.le_trans (z3f 100000).1 q1,q2⟩
def zn9{l1 l2:List (Nat×Row)}{j1:Nat}(h1:∀p∈l1,z1i l1 p.1=some p.2)(h2:∀p∈l2,z1i l2 p.1=some p.2)(m1:∀p∈l1,∃q,q<j1/\p.1=z19 100000 q)(m2:∀p∈l2,∃q,j1<=q/\p.1=z19 100000 q):∀p∈l1++l2,z1i (l1++l2) p.1=some p.2:=by
 intro p hp
 rw[z8c]
 rcases List.mem_append.1 hp with hp | hp
 ·rw[h1 p hp]
 ·cases hl:z1i l1 p.1 with
  | none=>exact h2 p hp
  | some v =>
   obtain⟨q,q1,q2⟩:=m1 _ (z34 hl)
   obtain⟨q',q3,q4⟩:=m2 p hp
   have:=z4t (q2.symm.trans q4)
   omega
def zh5{t:Ty}{y:t.den}{j:Nat}:∀p∈(z22 100000 t y j).2.1,∃q,q<(z22 100000 t y j).2.2/\p.1=z19 100000 q:=λp hp=>by
 obtain⟨q,_,q1,q2⟩:=(z3f 100000).2 p hp
 exact⟨q,q1,q2⟩
def zbj{ps:List PT}:∀{X:Dat ps} {i j:Nat},∀p∈(z3w ps X i j).2,z1i (z3w ps X i j).2 p.1=some p.2:=by
 induction ps with
 | nil=>intro X i j p hp;simp[z3w]at hp
 | cons p0 ps ih =>
  intro X i j
  obtain⟨t,agg,io⟩:=p0
  cases io
  ·exact ih (X:=X.2)
  ·exact zn9 (zbi 100000 t X.1 j) (ih (X:=X.2)) zh5 z9u
def zai{S:Nat->Prop}:∀{ps:List PT} {vs:List Value} {X:Dat ps} {L:List Nat} {i j:Nat},z74 w S ps vs X L->L.Nodup ->
  ∃(f:Nat->Lab) (rvf:Nat->Value),(∀k∈L,∃q,f k=.row (z19 100000 q)\/f k=.inn (z19 100000 q)) /\
   ∀(σ:St) (E:Env),(∀k∈L,E.lab k=f k)->(∀k,S k->E.lab k=.st)->(∀p∈(z3w ps X i j).2,E.rv p.1=rvf p.1)->(∀p∈(z3w ps X i j).2,σ.row p.1=some p.2) ->
    (∀p∈(z3w ps X i j).1,∃m v,vs[m]? = some v/\p.1=i+m/\z3q σ E w p.2 v)/\∀p∈(z3w ps X i j).2,z2r w E.lab p.1 p.2 (E.rv p.1):=by
 intro ps
 induction ps with
 | nil =>
  intro vs X L i j ha hn
  cases vs with
  | cons _ _=>exact ha.elim
  | nil =>
   obtain rfl:L=[]:=ha
   exact⟨λ_=>.st,λ_=>undef,(λk hk=>by cases hk),λσ E _ _ _ _=>⟨λp hp=>by simp[z3w]at hp,λp hp=>by simp[z3w]at hp⟩⟩
 | cons p0 ps ih =>
  intro vs X L i j ha hn
  cases vs with
  | nil=>exact ha.elim
  | cons v vs =>
   obtain⟨cs,L1,L2,rfl,hcv,h1,h2⟩:=ha
   obtain⟨n1,n2,n3⟩:=List.nodup_append.1 hn
   obtain⟨t,agg,io⟩:=p0
   cases io
   ·obtain⟨rfl,hrd⟩:=h1
    obtain⟨f,rvf,k1,k2⟩:=ih (i:=i+1) (j:=j) h2 n2
    refine⟨f,rvf,k1,λσ E e1 e2 e3 e4=>?_⟩
    obtain⟨g1,g2⟩:=k2 σ E e1 e2 e3 e4
    refine⟨λp hp=>?_,g2⟩
    rcases List.mem_cons.1 hp with rfl | hp
    ·exact⟨0,v,rfl,rfl,zav hcv (z5f (p:=none) (hrd.mono λk hk=>e2 k hk))⟩
    ·obtain⟨m,v',q1,q2,q3⟩:=g1 p hp
     exact⟨m+1,v',by simpa using q1,by omega,q3⟩
   ·have hown:Own w t L1 cs X.1:=h1
    obtain⟨f1,v1,a1,b1⟩:=z6b 100000 (j:=j) hown n1
    obtain⟨f2,v2,a2,b2⟩:=ih (i:=i+1) (j:=(z22 100000 t X.1 j).2.2) h2 n2
    have m1:∀p∈(z22 100000 t X.1 j).2.1,∃q,q<(z22 100000 t X.1 j).2.2/\p.1=z19 100000 q:=zh5
    have m2:∀p∈(z3w ps X.2 (i+1) (z22 100000 t X.1 j).2.2).2,∃q,(z22 100000 t X.1 j).2.2<=q/\p.1=z19 100000 q:=z9u
    refine⟨λk=>if k∈L1 then f1 k else f2 k,λq=>if ∃p∈(z22 100000 t X.1 j).2.1,p.1=q then v1 q else v2 q,λk hk=>?_,λσ E e1 e2 e3 e4=>?_⟩
    ·by_cases hk1:k∈L1
     ·obtain⟨q,_,_,hq⟩:=a1 k hk1
      exact⟨q,by simpa[hk1]using hq⟩
     ·obtain⟨q,hq⟩:=a2 k ((List.mem_append.1 hk).resolve_left hk1)
      exact⟨q,by simpa[hk1]using hq⟩
    ·have hm:(z3w (⟨t,agg,true⟩::ps) X i j)=((i,mkSV agg (z22 100000 t X.1 j).1)::(z3w ps X.2 (i+1) (z22 100000 t X.1 j).2.2).1,(z22 100000 t X.1 j).2.1++(z3w ps X.2 (i+1) (z22 100000 t X.1 j).2.2).2):=rfl
     rw[hm]at e3 e4 ⊢
     obtain⟨g1,g2⟩:=b1 σ E (λk hk=>(e1 k (List.mem_append_left _ hk)).trans (if_pos hk)) (λp hp=>(e3 p (List.mem_append_left _ hp)).trans (if_pos ⟨p,hp,rfl⟩)) (λp hp=>e4 p (List.mem_append_left _ hp))
     obtain⟨g3,g4⟩:=b2 σ E (λk hk=>(e1 k (List.mem_append_right _ hk)).trans (if_neg λh'=>n3 k h' k hk rfl)) e2 (λp hp=>(e3 p (List.mem_append_right _ hp)).trans (if_neg λ⟨p',hp',e⟩=>by
      obtain⟨q,q1,q2⟩:=m1 p' hp'
      obtain⟨q',q3,q4⟩:=m2 p hp
      have:=z4t (q2.symm.trans (e.trans q4))
      omega)) (λp hp=>e4 p (List.mem_append_right _ hp))
     refine⟨λp hp=>?_,λp hp=>?_⟩
     ·rcases List.mem_cons.1 hp with rfl | hp
      ·exact⟨0,v,rfl,rfl,zav hcv g1⟩
      ·obtain⟨m,v',q1,q2,q3⟩:=g3 p hp
       exact⟨m+1,v',by simpa using q1,by omega,q3⟩
     ·rcases List.mem_append.1 hp with hp | hp
      ·exact g2 p hp
      ·exact g4 p hp
def z8g{args:Array Value}{m:Nat}{v:Value}(h:args.toList[m]? = some v):args.getD m undef=v:=by
 rw[Array.getD_eq_getD_getElem?]
 have:args[m]? = some v:=by simpa using h
 rw[this];rfl
end
def z1v:Gm:=⟨λ_=>none,λ_=>none,λ_=>none,λ_=>none⟩
def GOk.nil{P:Program}[Inv P]:GOk P z1v:=⟨λf en h=>(by cases h),λf en h=>(by cases h),λf en h=>(by cases h),λf en h=>(by cases h)⟩
def z3s(Γ:Gm)(f:Nat)(en:z2j):Gm:=⟨λk=>cond (Nat.beq k f) (some en) (Γ.g k),Γ.m,Γ.v,Γ.n⟩
def addV(Γ:Gm)(f:Nat)(en:z42):Gm:=⟨Γ.g,Γ.m,λk=>cond (Nat.beq k f) (some en) (Γ.v k),Γ.n⟩
def addN(Γ:Gm)(f:Nat)(en:z8t):Gm:=⟨Γ.g,Γ.m,Γ.v,λk=>cond (Nat.beq k f) (some en) (Γ.n k)⟩
def flatB(rs:List PT):Bool:=rs.all λp=>p.agg||Nat.beq p.t.nc 1
def zbk{rs:List PT}(hf:flatB rs=true):∀p∈rs,p.agg=false->p.t.nc=1:=λp hp ha=>by
 have:=List.all_eq_true.1 hf p hp
 rw[ha]at this
 exact Nat.eq_of_beq_eq_true (by simpa using this)
def GOk.add{P:Program}[Inv P]{Γ:Gm}(h:GOk P Γ){f:Nat}{en:z2j}(he:z0l P f en)(hf:flatB en.sig.rs=true):GOk P (z3s Γ f en):=by
 refine⟨λk en' hk=>?_,h.m,h.v,h.n⟩
 simp only[z3s]at hk
 cases hb:Nat.beq k f
 ·rw[hb]at hk;exact h.g k en' hk
 ·rw[hb]at hk
  injection hk with hk
  subst hk
  obtain rfl:=Nat.eq_of_beq_eq_true hb
  exact⟨he,zbk hf⟩
def GOk.addV{P:Program}[Inv P]{Γ:Gm}(h:GOk P Γ){f:Nat}{en:z42}(he:z24 P f en)(hf:flatB en.rs=true):GOk P (addV Γ f en):=by
 refine⟨h.g,h.m,λk en' hk=>?_,h.n⟩
 simp only[Fw.addV]at hk
 cases hb:Nat.beq k f
 ·rw[hb]at hk;exact h.v k en' hk
 ·rw[hb]at hk
  injection hk with hk
  subst hk
  obtain rfl:=Nat.eq_of_beq_eq_true hb
  exact⟨he,zbk hf⟩
def GOk.addN{P:Program}[Inv P]{Γ:Gm}(h:GOk P Γ){f:Nat}{en:z8t}(he:z6r P f en):GOk P (addN Γ f en):=by
 refine⟨h.g,h.m,h.v,λk en' hk=>?_⟩
 simp only[Fw.addN]at hk
 cases hb:Nat.beq k f
 ·rw[hb]at hk;exact h.n k en' hk
 ·rw[hb]at hk
  injection hk with hk
  subst hk
  obtain rfl:=Nat.eq_of_beq_eq_true hb
  exact he
def zga:Code->List Nat->Code
 | c,[]=>c
 | .seq a _,0::p=>zga a p
 | .seq _ b,_::p=>zga b p
 | .cond _ a _,0::p=>zga a p
 | .cond _ _ b,_::p=>zga b p
 | .block _ c,_::p=>zga c p
 | .loop c,_::p=>zga c p
 | c,_=>c
def z1x(f:Func):Code:=match f.body with | some c=>c | none=>.skip
def w64(n:Int):Int:=IntKind.i64.wrap n
def w8(n:Int):Int:=IntKind.u8.wrap n
def inB(n:Int)(m:Nat):Bool:=decide (0<=n)&&decide (n<(m:Int))
end Go.Fw
namespace Go.Fw
open Go.RowKit
def zp4:(l:List (Nat×Ty))->List Value->FxD l->List z1b
 | [],_,_=>[]
 | p::l,v::vs,x=>.bor v p.1 p.2 x.1::zp4 l vs x.2
 | _::_,[],_=>[]
def ioIx:List PT->Nat->List Nat
 | [],_=>[]
 | p::ps,i=>cond p.io (i::ioIx ps (i+1)) (ioIx ps (i+1))
def pinSl(l:List (Nat×SV)):List Nat->List (Nat×SV)
 | []=>[]
 | i::is=>(100000+i,z66 l i)::pinSl l is
def znc(ps:List PT)(X:Dat ps):List (Nat×SV):=(0,.c (.box 100000 0))::(100000,.c (.box 100000 0))::((z3w ps X 1 0).1++pinSl (z3w ps X 1 0).1 (ioIx ps 1))
def z33(k:z9a)(ps:List PT)(lit:List Value)(X:(FxD k.fx×k.t.den)×Dat ps):St :=
 z1h (znc ps X.2) [(100000,(k.te,zp4 k.fx lit X.1.1++z4k k.t X.1.2 none))] (z3w ps X.2 1 0).2
def zru:List z1b->Option (List Value)
 | []=>some []
 | .bor v _ _ _::cs=>match zru cs with
  | some l=>some (v::l)
  | none=>none
 | _=>none
def zu6(σ:St):(back:Bool)->(ps:List PT)->Option (zby back ps)
 | true,ps=>zs2 σ ps 1
 | false,_=>some ()
def zu7(σ:St):Bool->List PT->List z1b
 | true,ps=>ze3 σ ps 1
 | false,_=>[]
def zhd(T:Tab)(k:z9a)(ps:List PT)(back:Bool)(rs:List PT)(rv:List ResultVar)(σ:St):Option (List Value×(k.t.den×(zby back ps×Dat rs))) :=
 match zam T σ rv,rfEnd σ (some (k.te,k.t))with
 | some ss,some cs=>cond (zfo σ (some (k.te,k.t))&&(z47 (z16 (z4q rs ss++zu7 σ back ps))&&(z16 (cs.drop k.fx.length)).isEmpty))
  (zq6 σ.row rs ss (z7x (zru (cs.take k.fx.length)) (z7x (z5y σ.row k.t (cs.drop k.fx.length)) (z7x (zu6 σ back ps) (zbb σ.row rs ss))))) none
 | _,_=>none
def finKV(T:Tab)(k:z9a)(ps:List PT)(back:Bool)(rs:List PT)(rv:List ResultVar):Ex->St->Option (List Value×(k.t.den×(zby back ps×Dat rs)))
 | .nrm,σ=>zhd T k ps back rs rv σ
 | .ret,σ=>zhd T k ps back rs rv σ
 | .exit _,_=>none
def FxB:(l:List (Nat×Ty))->FxD l->Prop
 | [],_=>True
 | p::l,x=>(Ty.sl p.1 p.2).bd x.1/\FxB l x.2
section
variable {P : Program} {σ σ' : St} {E E' : Env} {w w' : World} {w0 : World} {lab0 : Nat → Lab} {oo : Nat → Value} {n : Nat} {a : Act} {T : Tab} {Γ : Gm} {B : Nat → Option z01} {N : Nat}
def zup.bd{S:Nat->Prop}:∀{l:List (Nat×Ty)} {vs:List Value} {x:FxD l},zup w S l vs x->FxB l x
 | [],[],_,_=>trivial
 | p::l,v::vs,x,h=>⟨Rd.bd (t:=.sl p.1 p.2) h.1,h.2.bd⟩
 | [],_::_,_,h=>h.elim
 | _::_,[],_,h=>h.elim
def zji:∀{l:List (Nat×Ty)} {vs:List Value} {x:FxD l},zup w (λk=>E.lab k=.st) l vs x->z1p (z1s σ E w) (zp4 l vs x) vs
 | [],[],_,_=>trivial
 | p::l,v::vs,x,h=>⟨⟨rfl,h.1⟩,zji h.2⟩
 | [],_::_,_,h=>h.elim
 | _::_,[],_,h=>h.elim
def ze0:∀{cs:List z1b} {l us:List Value},zru cs=some l->z1p (z1s σ E w) cs us->us=l
 | [],l,[],h,_=>by
  injection h with h
 | [],l,_::_,h,hc=>hc.elim
 | c::cs,l,[],h,hc=>hc.elim
 | c::cs,l,u::us,h,hc=>by
  cases c with
  | bor v e t xs =>
   simp only[zru]at h
   split at h
   ·rename_i l' hl
    injection h with h
    subst h
    rw[ze0 hl hc.2,show u=v from hc.1.1]
   ·cases h
  | _=>cases h
def zix{l:List (Nat×SV)}:∀{is:List Nat} {p:Nat×SV},p∈pinSl l is->∃i∈is,p=(100000+i,z66 l i)
 | i::is,p,h=>by
  rcases List.mem_cons.1 h with rfl | h
  ·exact⟨i,List.mem_cons_self,rfl⟩
  ·obtain⟨j,h1,h2⟩:=zix h
   exact⟨j,List.mem_cons_of_mem _ h1,h2⟩
structure StartV(w:World)(k:z9a)(ps:List PT)(args:Array Value)(lit:List Value)(X:(FxD k.fx×k.t.den)×Dat ps)(g:Nat)(L:List Nat)(E:Env):Prop where
 out:∀k,k∉g::L->E.lab k=.st
 slots:∀t s,z1i (znc ps X.2) t=some s->z3q (z33 k ps lit X) E w s (if t<100000 then args.getD t undef else args.getD (t-100000) undef)
 boxes:∀b te cs,(z33 k ps lit X).box b=some (te,cs)->z9c (z33 k ps lit X) E w b te cs
 rows:∀r row,(z33 k ps lit X).row r=some row->z2r w E.lab r row (E.rv r)
def zok{k:z9a}{ps:List PT}{args:Array Value}{lit:List Value}{X:(FxD k.fx×k.t.den)×Dat ps}{g:Nat}{L:List Nat}(ha:ArgsV w (λk=>k∉g::L) k ps args.toList X lit g L)(hn:(g::L).Nodup)(hlen:ps.length+1<=100000)(hsm:Nat.blt k.te z29=true):∃E,StartV w k ps args lit X g L E:=by
 classical
 obtain⟨v0,vs0,hal,⟨hv0,arr,cm,m1,m2,m3,m4,m5⟩,ha⟩:=ha
 obtain⟨ng,hnL⟩:=List.nodup_cons.1 hn
 obtain⟨f2,v2,a2,b2⟩:=zai (i:=1) (j:=0) ha hnL
 have hl:=ha.len
 let E:Env:=⟨λk=>if k=g then .box 100000 else if k∈L then f2 k else .st,v2,λ_=>g⟩
 have lg:E.lab g=.box 100000:=if_pos rfl
 have l2:∀k∈L,E.lab k=f2 k:=λk hk=>(if_neg λ(e:k=g)=>ng (by rw[<-e];exact hk)).trans (if_pos hk)
 have lo:∀k,k∉g::L->E.lab k=.st:=λk hk=>(if_neg λe=>hk (by simp[e])).trans (if_neg λh'=>hk (by simp[h']))
 obtain⟨g3,g4⟩:=b2 (z33 k ps lit X) E l2 lo (λq hq=>rfl) (λq hq=>zbj q hq)
 have hbox:(z33 k ps lit X).box 100000=some (k.te,zp4 k.fx lit X.1.1++z4k k.t X.1.2 none):=rfl
 have hflat:z1p (z1s (z33 k ps lit X) E w) (z4k k.t X.1.2 none) cm:=z68 m5
 have hcs:0<(zp4 k.fx lit X.1.1++z4k k.t X.1.2 none).length:=by
  have e1:=hflat.len
  have e2:=m5.len
  have:=k.t.nc_pos
  rw[List.length_append]
  omega
 have h0:args.getD 0 undef=v0:=z8g (by rw[hal];rfl)
 have hptr:z3q (z33 k ps lit X) E w (.c (.box 100000 0)) v0:=⟨hv0,_,_,hbox,hcs⟩
 have hsl:∀t s,z1i (z3w ps X.2 1 0).1 t=some s->1<=t/\t<100000/\z3q (z33 k ps lit X) E w s (args.getD t undef):=λt s hs=>by
  obtain⟨m,v,q1,q2,q3⟩:=g3 _ (z34 hs)
  have hm':m<vs0.length:=(List.getElem?_eq_some_iff.1 q1).1
  simp only at q2
  refine⟨by omega,by omega, ?_⟩
  rw[show t=m+1 by omega,z8g (by rw[hal];simpa using q1)]
  exact q3
 refine⟨E,⟨lo,λt s hs=>?_,λb te cs hb=>?_,λr row hr=>g4 (r,row) (z34 hr)⟩⟩
 ·unfold znc at hs
  have hs2:z1i ([(0,.c (.box 100000 0)),(100000,.c (.box 100000 0))]++((z3w ps X.2 1 0).1++pinSl (z3w ps X.2 1 0).1 (ioIx ps 1))) t=some s:=hs
  rw[z8c]at hs2
  split at hs2
  ·rename_i s' hs'
   injection hs2 with hs2
   subst hs2
   rcases List.mem_cons.1 (z34 hs')with e | hm
   ·injection e with e1 e2
    subst e1 e2
    rw[if_pos (by omega),h0]
    exact hptr
   rcases List.mem_cons.1 hm with e | hm
   ·injection e with e1 e2
    subst e1 e2
    rw[if_neg (by omega),Nat.sub_self,h0]
    exact hptr
   ·cases hm
  ·rw[z8c]at hs2
   split at hs2
   ·rename_i s' hs'
    injection hs2 with hs2
    subst hs2
    obtain⟨q1,q2,q3⟩:=hsl t _ hs'
    rw[if_pos q2]
    exact q3
   ·obtain⟨i,_,e⟩:=zix (z34 hs2)
    injection e with e1 e2
    subst e1 e2
    rw[if_neg (by omega),show 100000+i-100000=i by omega]
    unfold z66
    split
    ·rename_i s' hs'
     exact(hsl i _ hs').2.2
    ·show True
     trivial
 ·have hb':z1i [(100000,(k.te,zp4 k.fx lit X.1.1++z4k k.t X.1.2 none))] b=some (te,cs):=hb
  have:=z34 hb'
  simp only[List.mem_singleton,Prod.mk.injEq]at this
  obtain⟨rfl,rfl,rfl⟩:=this
  refine⟨arr,.inl ⟨by simpa using hsm,m1⟩,lg, ?_,m2⟩
  rw[m3]
  exact z1p.app (zji (m4.mono lo)) hflat
def back_end(h:R w0 lab0 oo n σ E a w):∀{back:Bool} {ps:List PT} {vs:List Value} {y:zby back ps},zu6 σ back ps=some y->vs.length=ps.length->(∀j v,vs[j]? = some v->oo (100000+(1+j))=v)->(z16 (zu7 σ back ps)).Nodup ->
  ∃Lb,zog w Lb back ps vs y/\Lb.Nodup/\∀q∈Lb,∃r∈z16 (zu7 σ back ps),z60 E.lab r q
 | false,ps,vs,y,_,_,_,_=>⟨[],rfl,List.nodup_nil,λq hq=>by cases hq⟩
 | true,ps,vs,y,hr,hl,hv,hn=>ze2 h (i:=1) (vs:=vs) hr hl hv hn
theorem zf6 [Inv P] {f : Nat} {fn : Func} {c : Code} {k : z9a} {ps rs : List PT} {back : Bool} {pre : Option ((FxD k.fx × k.t.den) × Dat ps → Bool)} {val : (FxD k.fx × k.t.den) × Dat ps → k.t.den × (zby back ps × Dat rs)} {pl : za9} {je : Option z01} (hf : P.funcs[f]? = some fn) (hb : fn.body = some c) (hname : (fn.name == "runtime.NumGoroutine") = false)
  (hm:P.follows .mixedOrders=true) (hT:TOk P T) (hΓ:GOk P Γ) (hc:z5q fn.ntmps c=true) (hn:Nat.ble (ps.length+1) fn.ntmps=true) (hn2:Nat.ble fn.ntmps 100000=true)
  (hG:∀lit X,lit.length=k.fx.length->FxB k.fx X.1.1->zq8 ps X.2->z4f pre X=true->∃N,z0w Γ T B N c pl (z33 k ps lit X) (z1f je (finKV T k ps back rs fn.results.toList))=some (lit,val X)) (hsm:Nat.blt k.te z29=true:=by rfl):z24 P f ⟨k,ps,back,rs,pre,val⟩:=by
 intro w args L g lit X ha hL hlt hpre hI hBL
 have ha0:=ha
 obtain⟨v0,vs0,hal,⟨hv0,arr0,cm0,m1,m2,m3,m4,m5⟩,hag⟩:=ha0
 obtain⟨N,hr⟩:=hG lit X m4.len m4.bd hag.bd hpre
 have hn:=Nat.le_of_ble_eq_true hn
 have hn2:=Nat.le_of_ble_eq_true hn2
 have hlen:args.size=ps.length+1:=by
  have hl0:vs0.length=ps.length:=hag.len
  have e:=congrArg List.length hal
  simp at e
  omega
 refine .inl ⟨?_, ?_⟩
 ·have h1 : ¬ fn.name = "runtime.NumGoroutine" := by simpa using hname
  have h2:¬ fn.body=none:=by rw[hb];simp
  simp[callFunc,hf,h1,h2]
 obtain⟨E,st⟩:=zok ha hL (show ps.length+1<=100000 by omega) hsm
 let oo:Nat->Value:=λt=>args.getD (t-100000) undef
 have hsz:(args++Array.replicate (fn.ntmps-args.size) undef).size=fn.ntmps:=by
  rw[Array.size_append,Array.size_replicate]
  omega
 have hund:∀t,args.size<=t->(args++Array.replicate (fn.ntmps-args.size) undef).getD t undef=undef:=by
  intro t ht
  rw[Array.getD_eq_getD_getElem?,Array.getElem?_append_right ht]
  by_cases h:t-args.size<fn.ntmps-args.size
  ·simp[Array.getElem?_replicate,h]
  ·simp[Array.getElem?_replicate,h]
 have hR:R w E.lab oo fn.ntmps (z33 k ps lit X) E { tmps:=args++Array.replicate (fn.ntmps-args.size) undef,defers:=[] } w:=by
  refine⟨hn2,hsz,rfl,λt=>?_,st.boxes,st.rows,⟨rfl,rfl,rfl,Nat.le_refl _,λk hk hl=>⟨hl,rfl⟩⟩⟩
  have hval:z5r oo { tmps:=args++Array.replicate (fn.ntmps-args.size) undef,defers:=[] } t=if t<100000 then args.getD t undef else args.getD (t-100000) undef:=by
   unfold z5r
   by_cases ht:t<100000
   ·rw[if_pos ht,if_pos ht]
    by_cases hlt:t<args.size
    ·simp only[Array.getD_eq_getD_getElem?]
     rw[Array.getElem?_append_left hlt]
    ·rw[hund t (by omega),Array.getD_eq_getD_getElem?,Array.getElem?_eq_none (by omega)]
     rfl
   ·rw[if_neg ht,if_neg ht]
  rw[hval]
  show z3q (z33 k ps lit X) E w (z66 (znc ps X.2) t) _
  unfold z66
  split
  ·rename_i s hs
   exact st.slots t s hs
  ·show True
   trivial
 have hend:∀σ' E' a' w',zhd T k ps back rs fn.results.toList σ'=some (lit,val X)->R w E.lab oo fn.ntmps σ' E' a' w'->a'.defers=[]/\∃v,(results fn a'.tmps).run P w'=.ok v w' /\
   ∃vs Lb Lr,Ending.returned v=Ending.returned v/\zuq w ⟨k,ps,back,rs,pre,val⟩ args.toList lit g L (val X) v w' vs Lb Lr:=by
  intro σ' E' a' w' hfin h'
  refine⟨h'.defers, ?_⟩
  unfold zhd at hfin
  split at hfin
  ·rename_i ss cs hss hrf
   cases hq:(zfo σ' (some (k.te,k.t))&&(z47 (z16 (z4q rs ss++zu7 σ' back ps))&&(z16 (cs.drop k.fx.length)).isEmpty))
   ·rw[hq]at hfin;cases hfin
   rw[hq]at hfin
   simp only[Bool.and_eq_true,List.isEmpty_iff]at hq
   obtain⟨hkept,hnd,hnone⟩:=hq
   obtain⟨hz,hfin⟩:=z8b (show zq6 σ'.row rs ss _=some (lit,val X)from hfin)
   obtain⟨p0,p123⟩:=z2s (z:=(lit,val X)) hfin
   obtain⟨p1,p23⟩:=z2s (z:=val X) p123
   obtain⟨p2,p3⟩:=z2s (z:=(val X).2) p23
   have hnd:=z3a hnd
   rw[z3e]at hnd
   obtain⟨n1,n2,n3⟩:=List.nodup_append.1 hnd
   obtain⟨vs,v1,v2⟩:=zal hT h' hss
   obtain⟨v,r1,r2⟩:=z7b v2
   obtain⟨Lr,l1,l2,l3⟩:=z7c h' p3 hz v1 n1
   simp only[rfEnd]at hrf
   split at hrf
   ·rename_i te cs' hbx
    cases hte:Nat.beq te k.te
    ·rw[hte]at hrf;cases hrf
    rw[hte]at hrf
    injection hrf with hrf
    subst hrf
    obtain rfl:=Nat.eq_of_beq_eq_true hte
    obtain⟨arr,k1,k2,k3,k4⟩:=h'.boxes 100000 _ _ hbx
    have k1:=k1.cells (by simpa using hsm)
    have hs0:z3q σ' E' w' (σ'.slot 100000) (z5r oo a' 100000):=h'.slots 100000
    simp only[zfo]at hkept
    split at hkept
    ·rename_i hsl
     rw[hsl]at hs0
     obtain⟨hp,_⟩:=(show z1s σ' E' w' (.box 100000 0) _ from hs0)
     have hu:z5r oo a' 100000=v0:=by
      unfold z5r
      rw[if_neg (by omega)]
      exact z8g (by rw[hal];rfl)
     rw[hu,hv0]at hp
     injection hp with hp
     injection hp with hp
     injection hp with hp
     rw[<-hp]at k1 k2
     have e0:arr.toList.take k.fx.length=lit:=ze0 p0 (k3.take k.fx.length)
     obtain⟨L1,o1,o2,o3⟩:=z3t h' p1 (k3.drop k.fx.length) (by rw[hnone];exact List.nodup_nil)
     have hL1:L1=[]:=by
      cases L1 with
      | nil=>rfl
      | cons x xs =>
       obtain⟨q,q1,_⟩:=o3 x List.mem_cons_self
       rw[hnone]at q1
       cases q1
     subst hL1
     obtain⟨Lb,b1,b2,b3⟩:∃Lb,zog w' Lb back ps args.toList.tail (val X).2.1/\Lb.Nodup/\∀q∈Lb,∃r∈z16 (zu7 σ' back ps),z60 E'.lab r q:=by
      rw[hal]
      exact back_end (vs:=vs0) h' p2 hag.len (λj u hu=>by
       show args.getD (100000+(1+j)-100000) undef=u
       rw[show 100000+(1+j)-100000=j+1 from by omega]
       exact z8g (by rw[hal];simpa using hu)) n2
     have hold:∀q r,z60 E'.lab r q->q∈L\/w.heap.size<=q:=by
      intro q r hk
      by_cases h1:q∈g::L
      ·rcases List.mem_cons.1 h1 with rfl | h1
       ·rcases hk with hk | hk<;>rw[k2]at hk<;>cases hk
       ·exact .inl h1
      ·refine .inr (Nat.le_of_not_lt λhlt=>?_)
       have:=(h'.same.old q hlt (st.out q h1)).1
       rcases hk with hk | hk<;>rw[this]at hk<;>cases hk
     refine⟨v,r1,vs,Lb,Lr,rfl,r2,l1,⟨arr,_,k1,k4, ?_,o1⟩,b1,List.nodup_append.2 ⟨l2,b2,λx hx z hz e=>?_⟩,λq hq=>?_,h'.same.os,h'.same.tape,h'.same.output,h'.same.size,λq hq hqL=>(h'.same.old q hq (st.out q hqL)).2⟩
     ·rw[<-e0]
      exact(List.take_append_drop _ _).symm
     ·subst e
      obtain⟨q,q1,q2⟩:=l3 x hx
      obtain⟨q',q1',q2'⟩:=b3 x hz
      exact n3 q q1 q' q1' (z5a q2 q2')
     ·rcases List.mem_append.1 hq with hq | hq
      ·obtain⟨r,q1,q2⟩:=l3 q hq
       exact hold q r q2
      ·obtain⟨r,q1,q2⟩:=b3 q hq
       exact hold q r q2
    ·cases hkept
   ·cases hrf
  ·cases hfin
 refine calls_of_wp hf hb (z3h hT (hΓ.at hI λk hk=>st.out k λhl=>hBL k hl hk) hm c pl hc hR hr ?_ (zd1.join ?_ _))
 ·intro ch a a' w' hq
  obtain⟨_,v,vs,L',Lr,he,_⟩:=hq
  cases he
 ·intro e σ' E' a' w' hr' h'
  cases e with
  | nrm =>
   obtain⟨d1,v,d2,vs,L',Lr,d3,d4⟩:=hend σ' E' a' w' hr' h'
   exact⟨d1,v,d2,v,vs,L',Lr,rfl,d4⟩
  | ret =>
   obtain⟨d1,v,d2,vs,L',Lr,d3,d4⟩:=hend σ' E' a' w' hr' h'
   exact⟨d1,v,d2,v,vs,L',Lr,rfl,d4⟩
  | exit i=>cases hr'
def z9t(e:Nat)(t0:Ty)(ps:List PT)(v0:Value)(X:List t0.den×Dat ps):St:=z1h ((0,.c (.bor v0 e t0 X.1))::(z3w ps X.2 1 0).1) [] []
def zhe(T:Tab)(k:z9a)(rv:List ResultVar)(σ:St):Option (List Value×k.t.den) :=
 match zam T σ rv with
 | some [.c (.box b 0)]=>match σ.box b with
  | some (te,cs)=>cond (Nat.beq te k.te&&(z16 (cs.drop k.fx.length)).isEmpty) (z7x (zru (cs.take k.fx.length)) (z5y σ.row k.t (cs.drop k.fx.length))) none
  | none=>none
 | _=>none
def finKN(T:Tab)(k:z9a)(rv:List ResultVar):Ex->St->Option (List Value×k.t.den)
 | .nrm,σ=>zhe T k rv σ
 | .ret,σ=>zhe T k rv σ
 | .exit _,_=>none
theorem zf7 [Inv P] {f : Nat} {fn : Func} {c : Code} {te e : Nat} {t0 t : Ty} {ps : List PT} {pre : Option (Dat (⟨.sl e t0, false, false⟩ :: ps) → Bool)} {val : Dat (⟨.sl e t0, false, false⟩ :: ps) → t.den} {pl : za9} {je : Option z01} (hf : P.funcs[f]? = some fn) (hb : fn.body = some c) (hname : (fn.name == "runtime.NumGoroutine") = false)
  (hm:P.follows .mixedOrders=true) (hT:TOk P T) (hΓ:GOk P Γ) (hc:z5q fn.ntmps c=true) (hn:Nat.ble (ps.length+1) fn.ntmps=true) (hn2:Nat.ble fn.ntmps 100000=true) (hno:z82 ps=true)
  (hG:∀v0 X,zq8 (⟨.sl e t0,false,false⟩::ps) X->z4f pre X=true->∃N,z0w Γ T B N c pl (z9t e t0 ps v0 X) (z1f je (finKN T ⟨te,[(e,t0)],t⟩ fn.results.toList))=some ([v0],val X)) (hsm:Nat.blt te z29=true:=by rfl):z6r P f ⟨⟨te,[(e,t0)],t⟩,⟨.sl e t0,false,false⟩::ps,pre,val⟩:=by
 intro w args X ha hpre hI
 have ha:z74 w (λ_=>True) (⟨.sl e t0,false,false⟩::ps) args.toList X []:=ha
 have hbd:=ha.bd
 match hal:args.toList,ha with
 | [],ha=>exact ha.elim
 | v0::vs0,ha =>
 obtain⟨cs0,L1,L2,hLL,hcv,hrd,ha⟩:=ha
 have hcv:cs0=[v0]:=hcv
 subst hcv
 obtain⟨rfl,hrd⟩:L1=[]/\Rd w (λ_=>True) (.sl e t0) [v0] X.1:=hrd
 have hL2:L2=[]:=by simpa using hLL.symm
 subst hL2
 obtain⟨N,hr⟩:=hG v0 X hbd hpre
 have hn:=Nat.le_of_ble_eq_true hn
 have hn2:=Nat.le_of_ble_eq_true hn2
 have hl:=ha.len
 have hlen:args.size=ps.length+1:=by
  have e:=congrArg List.length hal
  simp at e
  omega
 refine .inl ⟨?_, ?_⟩
 ·have h1 : ¬ fn.name = "runtime.NumGoroutine" := by simpa using hname
  have h2:¬ fn.body=none:=by rw[hb];simp
  simp[callFunc,hf,h1,h2]
 obtain⟨f2,v2,a2,b2⟩:=zai (i:=1) (j:=0) ha List.nodup_nil
 let E:Env:=⟨λ_=>.st,v2,λ_=>0⟩
 have hrows:(z3w ps X.2 1 0).2=[]:=by
  have:∀{ps:List PT} {X:Dat ps} {i j:Nat},z82 ps=true->(z3w ps X i j).2=[]:=by
   intro ps
   induction ps with
   | nil=>intro X i j _;rfl
   | cons p ps ih =>
    intro X i j h
    obtain⟨t,agg,io⟩:=p
    simp only[z82,List.all_cons,Bool.and_eq_true,Bool.not_eq_true']at h
    obtain⟨hio,h⟩:=h
    subst hio
    exact ih h
  exact this hno
 obtain⟨g3,_⟩:=b2 (z9t e t0 ps v0 X) E (λk hk=>by cases hk) (λ_ _=>rfl) (λp hp=>rfl) (λp hp=>by rw[hrows]at hp;cases hp)
 let oo:Nat->Value:=λt=>undef
 have hsz:(args++Array.replicate (fn.ntmps-args.size) undef).size=fn.ntmps:=by
  rw[Array.size_append,Array.size_replicate]
  omega
 have hget:∀m v,args.toList[m]? = some v->(args++Array.replicate (fn.ntmps-args.size) undef).getD m undef=v:=λm v h=>by
  have hlt:m<args.size:=by
   have:=(List.getElem?_eq_some_iff.1 h).1
   simpa using this
  rw[Array.getD_eq_getD_getElem?,Array.getElem?_append_left hlt]
  have:args[m]? = some v:=by simpa using h
  rw[this];rfl
 have hR:R w E.lab oo fn.ntmps (z9t e t0 ps v0 X) E { tmps:=args++Array.replicate (fn.ntmps-args.size) undef,defers:=[] } w:=by
  refine⟨hn2,hsz,rfl,λt=>?_,λb te cs hb=>(by cases hb),λr row hr=>(by cases hr),⟨rfl,rfl,rfl,Nat.le_refl _,λk hk hl=>⟨hl,rfl⟩⟩⟩
  show z3q (z9t e t0 ps v0 X) E w (z66 ((0,.c (.bor v0 e t0 X.1))::(z3w ps X.2 1 0).1) t) _
  refine zfi λp hp ep=>?_
  have hv:∀m v,args.toList[m]? = some v->t=m->z5r oo { tmps:=args++Array.replicate (fn.ntmps-args.size) undef,defers:=[] } t=v:=λm v h1 h2=>by
   have hlt:m<args.size:=by
    have:=(List.getElem?_eq_some_iff.1 h1).1
    simpa using this
   unfold z5r
   rw[if_pos (by omega),h2]
   exact hget m v h1
  rcases List.mem_cons.1 hp with rfl | hp
  ·rw[hv 0 v0 (by rw[hal];rfl) ep.symm]
   exact(show z1s (z9t e t0 ps v0 X) E w (.bor v0 e t0 X.1) v0 from⟨rfl,hrd.mono λ_ _=>rfl⟩)
  ·obtain⟨m,v,q1,q2,q3⟩:=g3 p hp
   rw[hv (m+1) v (by rw[hal];simpa using q1) (by omega)]
   exact q3
 have hend:∀σ' E' a' w',zhe T ⟨te,[(e,t0)],t⟩ fn.results.toList σ'=some ([v0],val X)->R w E.lab oo fn.ntmps σ' E' a' w'->a'.defers=[]/\∃v,(results fn a'.tmps).run P w'=.ok v w' /\
   ∃g,Ending.returned v=Ending.returned v/\zur w ⟨⟨te,[(e,t0)],t⟩,⟨.sl e t0,false,false⟩::ps,pre,val⟩ (v0::vs0) (val X) v w' g:=by
  intro σ' E' a' w' hfin h'
  refine⟨h'.defers, ?_⟩
  unfold zhe at hfin
  split at hfin
  ·rename_i b hss
   split at hfin
   ·rename_i te' cs hbx
    simp only at hfin
    cases hq:(Nat.beq te' te&&(z16 (cs.drop ([(e,t0)]:List (Nat×Ty)).length)).isEmpty)
    ·rw[hq]at hfin;cases hfin
    rw[hq]at hfin
    simp only[Bool.and_eq_true,List.isEmpty_iff]at hq
    obtain⟨hte,hnone⟩:=hq
    obtain rfl:=Nat.eq_of_beq_eq_true hte
    obtain⟨p0,p1⟩:=z2s (z:=([v0],val X)) hfin
    obtain⟨vs,v1,v2⟩:=zal hT h' hss
    obtain⟨v,r1,r2⟩:=z7b v2
    match vs,v1 with
    | [],v1=>exact v1.elim
    | _::_::_,v1=>exact v1.2.elim
    | [u],v1 =>
    obtain rfl:v=u:=r2
    obtain⟨hp,_⟩:=(show z1s σ' E' w' (.box b 0) v from v1.1)
    obtain⟨arr,k1,k2,k3,k4⟩:=h'.boxes b _ _ hbx
    have k1:=k1.cells (by simpa using hsm)
    have e0:arr.toList.take ([(e,t0)]:List (Nat×Ty)).length=[v0]:=ze0 p0 (k3.take _)
    obtain⟨L1,o1,o2,o3⟩:=z3t h' p1 (k3.drop _) (by rw[hnone];exact List.nodup_nil)
    have hL1:L1=[]:=by
     cases L1 with
     | nil=>rfl
     | cons x xs =>
      obtain⟨q,q1,_⟩:=o3 x List.mem_cons_self
      rw[hnone]at q1
      cases q1
    subst hL1
    refine⟨v,r1,E'.bb b,rfl,hp,Nat.le_of_not_lt λhlt=>?_,⟨arr,_,k1,k4, ?_,o1⟩,h'.same.os,h'.same.tape,h'.same.output,h'.same.size,λq hq=>(h'.same.old q hq rfl).2⟩
    ·have:=(h'.same.old _ hlt rfl).1
     rw[k2]at this
     cases this
    ·show arr.toList=(v0::vs0).take 1++_
     rw[show(v0::vs0).take 1=[v0]from rfl,<-e0]
     exact(List.take_append_drop _ _).symm
   ·cases hfin
  ·cases hfin
 refine calls_of_wp hf hb (z3h hT (hΓ.at hI λk hk=>rfl) hm c pl hc hR hr ?_ (zd1.join ?_ _))
 ·intro ch a a' w' hq
  obtain⟨_,v,g,he,_⟩:=hq
  cases he
 ·intro ex σ' E' a' w' hr' h'
  cases ex with
  | nrm =>
   obtain⟨d1,v,d2,g,d3,d4⟩:=hend σ' E' a' w' hr' h'
   exact⟨d1,v,d2,v,g,rfl,d4⟩
  | ret =>
   obtain⟨d1,v,d2,g,d3,d4⟩:=hend σ' E' a' w' hr' h'
   exact⟨d1,v,d2,v,g,rfl,d4⟩
  | exit i=>cases hr'
end
end Go.Fw
namespace Go.Fw
open Go.RowKit
abbrev KT(ρ:Type):Type:=Ex->St->Option ρ
section
variable {ρ : Type} {Γ : Gm} {T : Tab} {B : Nat → Option z01} {N : Nat} {c a b : Code} {p pa pb : za9} {σ : St} {K : KT ρ}
def zqa{x:Operand}{t:Bool}{A A' W:Option ρ}(hc:c=.cond x a b)(hp:p=.mk none none pa pb)(hx:ev σ x=.c (.bool t))
  (h1:z0w Γ T B N a pa σ K=A) (h2:z0w Γ T B N b pb σ K=A') (e:cond t A A'=W):z0w Γ T B N c p σ K=W:=by
 subst hc hp h1 h2
 rw[<-e]
 show(match ev σ x with | .c (.bool t)=>cond t (z0w Γ T B N a pa σ K) (z0w Γ T B N b pb σ K) | _=>none)=_
 rw[hx]
def zms{id:Nat}{lm:z01}{Z W:Option ρ}(hc:c=.block id a)(hp:p=.mk (some lm) none pa .n)
  (h1:z0w Γ T B N a pa σ (z1f (some lm) (zkp id K))=Z) (e:Z=W):z0w Γ T B N c p σ K=W:=by
 subst hc hp e
 exact h1
def zq9{cl:z01}{σ':St}{Z W:Option ρ}(hc:c=.loop a)(hp:p=.mk none (some cl) pa .n)(hs:zbr cl σ=some σ')
  (h1:z3r (λσ K=>z0w Γ T B N a pa σ K) cl N σ' K=Z) (e:Z=W):z0w Γ T B N c p σ K=W:=by
 subst hc hp e
 show((zbr cl σ).bind λσ0=>z3r (λσ K=>z0w Γ T B N a pa σ K) cl N σ0 K)=_
 rw[hs]
 exact h1
end
abbrev I2(α:Type):Type:=Int->Int->α
abbrev I3(α:Type):Type:=Int->Int->Int->α
abbrev I4(α:Type):Type:=Int->Int->Int->Int->α
abbrev I5(α:Type):Type:=Int->Int->Int->Int->Int->α
abbrev I6(α:Type):Type:=Int->Int->Int->Int->Int->Int->α
abbrev I7(α:Type):Type:=Int->Int->Int->Int->Int->Int->Int->α
abbrev I8(α:Type):Type:=Int->Int->Int->Int->Int->Int->Int->Int->α
def z2o:Nat->Code->Nat->Code
 | 0,c,_=>c
 | F+1,c,n=>cond (Nat.ble n 1) c (match c with
  | .seq a b=>cond (Nat.beq (n%2) 0) (z2o F a (n / 2)) (z2o F b (n / 2))
  | .cond _ a b=>cond (Nat.beq (n%2) 0) (z2o F a (n / 2)) (z2o F b (n / 2))
  | .block _ c=>z2o F c (n / 2)
  | .loop c=>z2o F c (n / 2)
  | c=>c)
abbrev yi(n:Int):z1b:=.int .i64 n
abbrev xi(n:Int):SV:=.c (.int .i64 n)
abbrev xo(n:Nat):SV:=.c (.own n)
abbrev xb(n:Nat):SV:=.c (.box n 0)
abbrev xB(b:Bool):SV:=.c (.bool b)
abbrev tI:Ty:=.int .i64
abbrev LI:Type:=List Int
abbrev LL:Type:=List (List Int)
abbrev MT:Type:=Int×Int×List Int
def fx2{α0 α1 β:Type}{f g:α0->α1->β}(h:∀x0 x1,f x0 x1=g x0 x1):f=g:=funext λx0=>funext λx1=>h x0 x1
def fx3{α0 α1 α2 β:Type}{f g:α0->α1->α2->β}(h:∀x0 x1 x2,f x0 x1 x2=g x0 x1 x2):f=g:=funext λx0=>funext λx1=>funext λx2=>h x0 x1 x2
def fx4{α0 α1 α2 α3 β:Type}{f g:α0->α1->α2->α3->β}(h:∀x0 x1 x2 x3,f x0 x1 x2 x3=g x0 x1 x2 x3):f=g:=funext λx0=>funext λx1=>funext λx2=>funext λx3=>h x0 x1 x2 x3
def fx5{α0 α1 α2 α3 α4 β:Type}{f g:α0->α1->α2->α3->α4->β}(h:∀x0 x1 x2 x3 x4,f x0 x1 x2 x3 x4=g x0 x1 x2 x3 x4):f=g:=funext λx0=>funext λx1=>funext λx2=>funext λx3=>funext λx4=>h x0 x1 x2 x3 x4
def fx6{α0 α1 α2 α3 α4 α5 β:Type}{f g:α0->α1->α2->α3->α4->α5->β}(h:∀x0 x1 x2 x3 x4 x5,f x0 x1 x2 x3 x4 x5=g x0 x1 x2 x3 x4 x5):f=g:=funext λx0=>funext λx1=>funext λx2=>funext λx3=>funext λx4=>funext λx5=>h x0 x1 x2 x3 x4 x5
def fx7{α0 α1 α2 α3 α4 α5 α6 β:Type}{f g:α0->α1->α2->α3->α4->α5->α6->β}(h:∀x0 x1 x2 x3 x4 x5 x6,f x0 x1 x2 x3 x4 x5 x6=g x0 x1 x2 x3 x4 x5 x6):f=g:=funext λx0=>funext λx1=>funext λx2=>funext λx3=>funext λx4=>funext λx5=>funext λx6=>h x0 x1 x2 x3 x4 x5 x6
def fx8{α0 α1 α2 α3 α4 α5 α6 α7 β:Type}{f g:α0->α1->α2->α3->α4->α5->α6->α7->β}(h:∀x0 x1 x2 x3 x4 x5 x6 x7,f x0 x1 x2 x3 x4 x5 x6 x7=g x0 x1 x2 x3 x4 x5 x6 x7):f=g:=funext λx0=>funext λx1=>funext λx2=>funext λx3=>funext λx4=>funext λx5=>funext λx6=>funext λx7=>h x0 x1 x2 x3 x4 x5 x6 x7
def fx9{α0 α1 α2 α3 α4 α5 α6 α7 α8 β:Type}{f g:α0->α1->α2->α3->α4->α5->α6->α7->α8->β}(h:∀x0 x1 x2 x3 x4 x5 x6 x7 x8,f x0 x1 x2 x3 x4 x5 x6 x7 x8=g x0 x1 x2 x3 x4 x5 x6 x7 x8):f=g:=funext λx0=>funext λx1=>funext λx2=>funext λx3=>funext λx4=>funext λx5=>funext λx6=>funext λx7=>funext λx8=>h x0 x1 x2 x3 x4 x5 x6 x7 x8
def zf1{α0 α1 α2 α3 α4 α5 α6 α7 α8 α9 β:Type}{f g:α0->α1->α2->α3->α4->α5->α6->α7->α8->α9->β}(h:∀x0 x1 x2 x3 x4 x5 x6 x7 x8 x9,f x0 x1 x2 x3 x4 x5 x6 x7 x8 x9=g x0 x1 x2 x3 x4 x5 x6 x7 x8 x9):f=g:=funext λx0=>funext λx1=>funext λx2=>funext λx3=>funext λx4=>funext λx5=>funext λx6=>funext λx7=>funext λx8=>funext λx9=>h x0 x1 x2 x3 x4 x5 x6 x7 x8 x9
def zq7{α0 α1 α2 α3 α4 α5 α6 α7 α8 α9 α10 β:Type}{f g:α0->α1->α2->α3->α4->α5->α6->α7->α8->α9->α10->β}(h:∀x0 x1 x2 x3 x4 x5 x6 x7 x8 x9 x10,f x0 x1 x2 x3 x4 x5 x6 x7 x8 x9 x10=g x0 x1 x2 x3 x4 x5 x6 x7 x8 x9 x10):f=g:=funext λx0=>funext λx1=>funext λx2=>funext λx3=>funext λx4=>funext λx5=>funext λx6=>funext λx7=>funext λx8=>funext λx9=>funext λx10=>h x0 x1 x2 x3 x4 x5 x6 x7 x8 x9 x10
def fx12{α0 α1 α2 α3 α4 α5 α6 α7 α8 α9 α10 α11 β:Type}{f g:α0->α1->α2->α3->α4->α5->α6->α7->α8->α9->α10->α11->β}(h:∀x0 x1 x2 x3 x4 x5 x6 x7 x8 x9 x10 x11,f x0 x1 x2 x3 x4 x5 x6 x7 x8 x9 x10 x11=g x0 x1 x2 x3 x4 x5 x6 x7 x8 x9 x10 x11):f=g:=funext λx0=>funext λx1=>funext λx2=>funext λx3=>funext λx4=>funext λx5=>funext λx6=>funext λx7=>funext λx8=>funext λx9=>funext λx10=>funext λx11=>h x0 x1 x2 x3 x4 x5 x6 x7 x8 x9 x10 x11
def fx13{α0 α1 α2 α3 α4 α5 α6 α7 α8 α9 α10 α11 α12 β:Type}{f g:α0->α1->α2->α3->α4->α5->α6->α7->α8->α9->α10->α11->α12->β}(h:∀x0 x1 x2 x3 x4 x5 x6 x7 x8 x9 x10 x11 x12,f x0 x1 x2 x3 x4 x5 x6 x7 x8 x9 x10 x11 x12=g x0 x1 x2 x3 x4 x5 x6 x7 x8 x9 x10 x11 x12):f=g:=funext λx0=>funext λx1=>funext λx2=>funext λx3=>funext λx4=>funext λx5=>funext λx6=>funext λx7=>funext λx8=>funext λx9=>funext λx10=>funext λx11=>funext λx12=>h x0 x1 x2 x3 x4 x5 x6 x7 x8 x9 x10 x11 x12
def fx14{α0 α1 α2 α3 α4 α5 α6 α7 α8 α9 α10 α11 α12 α13 β:Type}{f g:α0->α1->α2->α3->α4->α5->α6->α7->α8->α9->α10->α11->α12->α13->β}(h:∀x0 x1 x2 x3 x4 x5 x6 x7 x8 x9 x10 x11 x12 x13,f x0 x1 x2 x3 x4 x5 x6 x7 x8 x9 x10 x11 x12 x13=g x0 x1 x2 x3 x4 x5 x6 x7 x8 x9 x10 x11 x12 x13):f=g:=funext λx0=>funext λx1=>funext λx2=>funext λx3=>funext λx4=>funext λx5=>funext λx6=>funext λx7=>funext λx8=>funext λx9=>funext λx10=>funext λx11=>funext λx12=>funext λx13=>h x0 x1 x2 x3 x4 x5 x6 x7 x8 x9 x10 x11 x12 x13
def fx15{α0 α1 α2 α3 α4 α5 α6 α7 α8 α9 α10 α11 α12 α13 α14 β:Type}{f g:α0->α1->α2->α3->α4->α5->α6->α7->α8->α9->α10->α11->α12->α13->α14->β}(h:∀x0 x1 x2 x3 x4 x5 x6 x7 x8 x9 x10 x11 x12 x13 x14,f x0 x1 x2 x3 x4 x5 x6 x7 x8 x9 x10 x11 x12 x13 x14=g x0 x1 x2 x3 x4 x5 x6 x7 x8 x9 x10 x11 x12 x13 x14):f=g:=funext λx0=>funext λx1=>funext λx2=>funext λx3=>funext λx4=>funext λx5=>funext λx6=>funext λx7=>funext λx8=>funext λx9=>funext λx10=>funext λx11=>funext λx12=>funext λx13=>funext λx14=>h x0 x1 x2 x3 x4 x5 x6 x7 x8 x9 x10 x11 x12 x13 x14
def fx16{α0 α1 α2 α3 α4 α5 α6 α7 α8 α9 α10 α11 α12 α13 α14 α15 β:Type}{f g:α0->α1->α2->α3->α4->α5->α6->α7->α8->α9->α10->α11->α12->α13->α14->α15->β}(h:∀x0 x1 x2 x3 x4 x5 x6 x7 x8 x9 x10 x11 x12 x13 x14 x15,f x0 x1 x2 x3 x4 x5 x6 x7 x8 x9 x10 x11 x12 x13 x14 x15=g x0 x1 x2 x3 x4 x5 x6 x7 x8 x9 x10 x11 x12 x13 x14 x15):f=g:=funext λx0=>funext λx1=>funext λx2=>funext λx3=>funext λx4=>funext λx5=>funext λx6=>funext λx7=>funext λx8=>funext λx9=>funext λx10=>funext λx11=>funext λx12=>funext λx13=>funext λx14=>funext λx15=>h x0 x1 x2 x3 x4 x5 x6 x7 x8 x9 x10 x11 x12 x13 x14 x15
end Go.Fw
