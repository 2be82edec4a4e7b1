/- The framework: what a symbolic run of the model's code tells, proved sound. Nothing is assumed. -/
import Derived.Test.YtkjnhmjfdfiklaaGreatDoorFwb
set_option linter.defProp false
set_option linter.unusedVariables false
set_option linter.unusedSectionVars false
set_option linter.unusedSimpArgs false
namespace Go.Fw
open Go.RowKit
structure Gm where
 g:Nat->Option z24
 m:Nat->Option z7c
 v:Nat->Option z9q
 n:Nat->Option z9r
 s:Nat->Option zb8
def zcl:Op->Option (Operand×Operand×Operand)
 | .pick c x y=>some (c,x,y)
 | _=>none
def zjr:Op->Option (Nat×List Operand)
 | .call { callee:=.value (.func f),args:=args,argTypes:=_ }=>some (f,args.toList)
 | _=>none
def zeo(σ:St):Op->Option (Nat×List Operand)
 | .call { callee:=.value x,args:=args,argTypes:=_ }=>match ev σ x with
  | .c (.fn f [])=>some (f,args.toList)
  | _=>none
 | _=>none
noncomputable def zub{ρ:Type}(a b:Option ρ):Option ρ:=by classical exact if a=b then a else none
@[reducible] noncomputable def bo{ρ:Type}(a:Option ρ):Option ρ:=zub a a
def zkx{ρ:Type}{a b:Option ρ}{r:ρ}(h:zub a b=some r):a=some r/\b=some r:=by
 unfold zub at h
 split at h
 ·rename_i e
  exact⟨h,e▸h⟩
 ·cases h
def z8w{ρ:Type}(a:Option ρ):zub a a=a:=by
 unfold zub
 exact if_pos rfl
noncomputable def zsb{ρ:Type}(step:Nat->Option ρ):List Nat->Option ρ
 | []=>none
 | [i]=>step i
 | i::j::is=>zub (step i) (zsb step (j::is))
def zef{ρ:Type}{step:Nat->Option ρ}{r:ρ}:∀{is:List Nat},zsb step is=some r->∀i∈is,step i=some r
 | [],h,_,_=>by cases h
 | [i],h,j,hj=>by
  obtain rfl:=List.mem_singleton.1 hj
  exact h
 | i::j::is,h,k,hk=>by
  obtain⟨h1,h2⟩:=zkx h
  rcases List.mem_cons.1 hk with rfl | hk
  ·exact h1
  ·exact zef h2 k hk
def eqOp:BinOp->Bool
 | .eql=>true
 | .neq=>true
 | _=>false
def zrj(T:Tab)(σ:St):Op->Bool
 | .binOp op t x y _=>eqOp op&&(match T t,ev σ x,ev σ y with
  | some ti,.c (.sn _ _ _ _),.c .nil=>ti.el.isSome
  | some ti,.c (.own r),.c .nil=>ti.el.isSome&&(match σ.row r with
   | some row=>!row.nilE
   | none=>false)
  | _,_,_=>false)
 | _=>false
structure zcz where
 d:Nat
 r:Nat
 i:Int
 f:Nat
 el:Option (Nat×Int)
def znj(T:Tab)(σ:St)(o:Oper):Option zcz:=match o.guard,o.op,o.dst with
 | none,.load t x,some d=>match ev σ x with
  | .c (.elt r i f)=>match σ.row r,T t with
   | some row,some ti=>cond (row.deep&&(ti.el.isSome&&!ti.agg)) (some ⟨d,r,i,f,none⟩) none
   | _,_=>none
  | _=>none
 | _,_,_=>none
inductive PinM where
 | no
 | still (p:zcz)
 | sub (p:zcz) (f:Nat) (args:List Operand)
 | put (p:zcz) (e:Nat) (k:Int) (t:Nat) (x:Operand)
def zpg(d:Nat):Option Operand->Bool
 | some (.tmp e)=>Nat.beq e d&&Nat.blt d 100000
 | _=>false
def z54(d:Nat):Option Nat->Bool
 | some e=>!(Nat.beq e d)
 | none=>true
def elPin(T:Tab)(σ:St)(p:zcz)(op:Op)(dst:Option Nat):Option zcz:=match op,dst with
 | .indexAddr t (.tmp d) i,some e=>cond (Nat.beq d p.d&&(Nat.blt d 100000&&!(Nat.beq e d))) (match ev σ (.tmp d),ev σ i,T t with
  | .c (.sn _ _ _ _),.c (.int _ k),some ti=>match ti.el with
   | some el=>match T el,σ.row p.r with
    | some ei,some row=>cond (Nat.beq ei.zero.length 1) (match zan row.t (row.xs.getD p.i.toNat row.t.dflt) p.f with
     | some ⟨(_,.int _),_⟩=>some ⟨p.d,p.r,p.i,p.f,some (e,k)⟩
     | _=>none) none
    | _,_=>none
   | none=>none
  | _,_,_=>none) none
 | _,_=>none
def znb(p:zcz)(op:Op)(dst:Option Nat):Option (Nat×Int×Nat×Operand):=match op,dst,p.el with
 | .store t (.tmp e') x,none,some (e,k)=>cond (Nat.beq e' e&&(Nat.blt e 100000&&Nat.blt p.d 100000)) (some (e,k,t,x)) none
 | _,_,_=>none
def z8i(p:zcz)(dst:Option Nat):Bool:=match p.el with
 | some (e,_)=>z54 e dst
 | none=>true
def lk(N:Nat)(b:Bool):Bool:=match N with
 | 0=>b
 | _+1=>b
def z2c(N:Nat)(b:Bool):lk N b=b:=by cases N<;>rfl
def lkC(N:Nat):z11->z11
 | .bool b=>.bool (lk N b)
 | c=>c
def lkSV(N:Nat):SV->SV
 | .c x=>.c (lkC N x)
 | .agg l=>.agg l
 | .tup l=>.tup (l.map λp=>(p.1,p.2.map (lkC N)))
def lkC_eq(N:Nat)(c:z11):lkC N c=c:=by cases c<;>simp[lkC,z2c]
def zru(N:Nat)(s:SV):lkSV N s=s:=by
 have h:lkC N=id:=funext (lkC_eq N)
 cases s<;>simp[lkSV,lkC_eq,h]
def zrv(N:Nat)(op:Op)(c:Bool):Bool:=match op with
 | .binOp .quo _ _ _ _=>lk N c
 | .binOp .rem _ _ _ _=>lk N c
 | .binOp .shl _ _ _ _=>lk N c
 | .binOp .shr _ _ _ _=>lk N c
 | .indexAddr _ _ _=>lk N c
 | .index _ _ _=>lk N c
 | .slice _ _ _ _ _=>lk N c
 | _=>c
def zrt(N:Nat)(op:Op)(s:SV):SV:=match op with
 | .binOp _ _ _ _ _=>lkSV N s
 | .lookup _ _ _ _=>lkSV N s
 | _=>s
def zh3(N:Nat)(op:Op)(c:Bool):zrv N op c=c:=by
 unfold zrv
 split<;>first | rfl | exact z2c N c
def zh2(N:Nat)(op:Op)(s:SV):zrt N op s=s:=by
 unfold zrt
 split<;>first | rfl | exact zru N s
def zj3{α:Type}(N:Nat)(p:Option (α->Bool))(X:α):Bool:=match p with
 | none=>true
 | some f=>lk N (f X)
def z97{α:Type}(N:Nat)(p:Option (α->Bool))(X:α):zj3 N p X=z3s p X:=by
 unfold zj3 z3s
 split
 ·rfl
 ·exact z2c N _
def zfz(N:Nat)(d:Option Nat)(σ:St):St:=match d with
 | some d=>σ.put d (lkSV N (σ.slot d))
 | none=>σ
def zay(N:Nat)(d:Option Nat)(σ:St):zfz N d σ=σ:=by
 cases d with
 | none=>rfl
 | some d =>
  unfold zfz
  simp only[zru]
  unfold St.put
  congr 1
  funext t
  unfold upd
  cases hb:Nat.beq t d
  ·rfl
  ·rw[Nat.eq_of_beq_eq_true hb];rfl
def Out.kL{ρ:Type}(N:Nat):Out->(St->Option ρ)->Option ρ
 | .fail,_=>none
 | .ok σ,K=>K σ
 | .chk c o,K=>cond (lk N c) (o.kL N K) none
 | .br b o1 o2,K=>cond b (o1.kL N K) (o2.kL N K)
 | .call x f,K=>x.bind λb=>(f b).kL N K
def Out.kL_eq{ρ:Type}(N:Nat)(K:St->Option ρ):∀o:Out,o.kL N K=o.k K
 | .fail=>rfl
 | .ok σ=>rfl
 | .chk c o=>by simp only[Out.kL,Out.k,z2c,Out.kL_eq N K o]
 | .br b o1 o2=>by simp only[Out.kL,Out.k,Out.kL_eq N K o1,Out.kL_eq N K o2]
 | .call x f=>by
  simp only[Out.kL,Out.k]
  congr 1
  funext b
  exact Out.kL_eq N K (f b)
section
variable {ρ : Type}
noncomputable def iDo(Γ:Gm)(T:Tab)(N:Nat)(o:Oper)(σ:St)(K:St->Option ρ):Option ρ :=
 match zcl o.op with
 | some (c,x,y)=>match ev σ c with
  | .c (.bool b)=>cond b (K (zib σ o.dst (ev σ x))) (K (zib σ o.dst (ev σ y)))
  | _=>none
 | none=>match zeo σ o.op with
  | some (f,args)=>match Γ.g f with
   | some en=>match zu9 en σ (args.map (ev σ))with
    | some X=>cond (zj3 N en.pre X) (match zmi en σ o.dst (args.map (ev σ)) (en.val X)with
     | some σ'=>K (zfz N o.dst σ')
     | none=>none) none
    | none=>none
   | none=>match Γ.m f with
    | some en=>match zmn en σ (args.map (ev σ))with
     | some (qs,X)=>cond (zj3 N en.pre X) (match zdj en σ o.dst (args.map (ev σ)) qs (en.val X)with
      | some σ'=>K (zfz N o.dst σ')
      | none=>none) none
     | none=>none
    | none=>match Γ.v f with
     | some en=>match zml en σ (args.map (ev σ))with
      | some (qs,X)=>cond (zj3 N en.pre X) (match zhz en σ o.dst (args.map (ev σ)) qs (en.val X)with
       | some σ'=>K (zfz N o.dst σ')
       | none=>none) none
      | none=>none
     | none=>match Γ.n f with
      | some en=>match zmm en σ (args.map (ev σ))with
       | some X=>cond (zj3 N en.pre X) (match zi1 en σ o.dst (args.map (ev σ)) (en.val X)with
        | some σ'=>K σ'
        | none=>none) none
       | none=>none
      | none=>match Γ.s f with
       | some en=>match z8h en.ps (args.map (ev σ))with
        | some X=>cond (zj3 N en.pre X) (match zi0 en σ o.dst (en.val X)with
         | some σ'=>K σ'
         | none=>none) none
        | none=>none
       | none=>none
  | none=>match z83 T σ o.op with
   | some (c,s)=>cond (zrj T σ o.op) (cond (lk N c) (K (zib σ o.dst s)) (zub (K (zib σ o.dst (.c (.bool true)))) (K (zib σ o.dst (.c (.bool false))))))
    (cond (zrv N o.op c) (K (zib σ o.dst (zrt N o.op s))) none)
   | none=>(aMem T σ o.dst o.op).kL N K
def gslot(ops:Array Oper)(j:Nat):Option Nat:=match ops[j]? with
 | some o=>o.dst
 | none=>none
def zee(ops:Array Oper)(o:Oper)(σ:St)(F:St->Option ρ)(K:St->Option ρ):Option ρ :=
 match o.guard with
 | none=>F σ
 | some (j,want)=>match gslot ops j with
  | some t=>match σ.slot t with
   | .c (.bool b)=>cond b
    (cond want (F (σ.put t (.c (.bool true)))) (K (zib (σ.put t (.c (.bool true))) o.dst (.tup []))))
    (cond want (K (zib (σ.put t (.c (.bool false))) o.dst (.tup []))) (F (σ.put t (.c (.bool false)))))
   | .tup _=>K (zib σ o.dst (.tup []))
   | _=>none
  | none=>none
def z42:Op->Bool
 | .move _=>true
 | .assign _=>true
 | .load _ _=>true
 | .indexAddr _ _ _=>true
 | .fieldAddr _ _ _=>true
 | .binOp _ _ _ _ _=>true
 | .unOp _ _ _=>true
 | .index _ _ _=>true
 | .call { callee:=.builtin .len,args:=_,argTypes:=_ }=>true
 | .call { callee:=.builtin .min,args:=_,argTypes:=_ }=>true
 | .call { callee:=.builtin .max,args:=_,argTypes:=_ }=>true
 | .convert _ _ _=>true
 | .extract _ _=>true
 | .nilCheck _=>true
 | _=>false
noncomputable def iSub(Γ:Gm)(N:Nat)(p:zcz)(f:Nat)(args:List Operand)(dst:Option Nat)(σ:St)(K:St->Option ρ):Option ρ :=
 match Γ.g f,σ.row p.r with
 | some en,some row=>match z9y row p.r p.i p.f σ.row en.sig.ps (args.map (ev σ))with
  | some X=>cond (zj3 N en.pre X) (match zij row p.i p.f en.sig.ps (en.val X).1 with
   | some x'=>match zep en σ dst [p.r] (upd σ.row p.r (some ⟨row.e,row.t,row.xs.set p.i.toNat x',row.deep,row.nilE⟩)) (en.val X).2 with
    | some σ'=>K (zfz N dst σ')
    | none=>none
   | none=>none) none
  | none=>none
 | _,_=>none
def znq(T:Tab)(p:zcz)(k:Int)(t:Nat)(x:Operand)(σ:St)(K:St->Option ρ):Option ρ :=
 match σ.row p.r,T t,ev σ x with
 | some row,some ti,.c (.int kk m)=>cond (Nat.beq ti.zero.length 1) (match zan row.t (row.xs.getD p.i.toNat row.t.dflt) p.f with
  | some ⟨(_,.int k'),ys⟩=>cond (ikEq kk k') (match zam row.t (row.xs.getD p.i.toNat row.t.dflt) p.f (.int k') (ys.set k.toNat m)with
   | some x'=>K ((z82 [p.r] σ).withRow (upd σ.row p.r (some ⟨row.e,row.t,row.xs.set p.i.toNat x',row.deep,row.nilE⟩)))
   | none=>none) none
  | _=>none) none
 | _,_,_=>none
def zgt(Γ:Gm)(T:Tab)(σ:St)(o:Oper)(pin:Option zcz):PinM:=match znj T σ o with
 | some p=>.still p
 | none=>match pin with
  | none=>.no
  | some p=>match o.guard with
   | some _=>.no
   | none=>match zeo σ o.op with
    | some (f,args)=>match Γ.g f with
     | some en=>cond (zpg p.d (za4 en.sig.ps args)&&z6a en.sig.ps) (.sub p f args) .no
     | none=>.no
    | none=>match elPin T σ p o.op o.dst with
     | some p'=>.still p'
     | none=>match znb p o.op o.dst with
      | some (e,k,t,x)=>.put p e k t x
      | none=>cond (z42 o.op&&(z54 p.d o.dst&&z8i p o.dst)) (.still p) .no
noncomputable def iOps(Γ:Gm)(T:Tab)(N:Nat)(ops:Array Oper):List Nat->Option zcz->St->(St->Option ρ)->Option ρ
 | [],_,σ,K=>K σ
 | i::zdw,pin,σ,K=>match ops[i]? with
  | some o=>match zgt Γ T σ o pin with
   | .no=>zee ops o σ (λσ=>iDo Γ T N o σ λσ'=>iOps Γ T N ops zdw none σ' K) λσ'=>iOps Γ T N ops zdw none σ' K
   | .still p=>match z83 T σ o.op with
    | some (c,s)=>cond (zrv N o.op c) (iOps Γ T N ops zdw (some p) (zib σ o.dst (zrt N o.op s)) K) none
    | none=>none
   | .sub p f args=>iSub Γ N p f args o.dst σ λσ'=>iOps Γ T N ops zdw none σ' K
   | .put p _ k t x=>znq T p k t x σ λσ'=>iOps Γ T N ops zdw none σ' K
  | none=>none
def iStill(T:Tab)(N:Nat)(o:Oper)(σ:St)(K:St->Option ρ):Option ρ :=
 match z83 T σ o.op with
 | some (c,s)=>cond (zlh o.op s) (cond (zrv N o.op c) (K (zib σ o.dst (zrt N o.op s))) none) none
 | none=>none
def zhe(f:Nat->Bool):List Nat->Option Nat
 | []=>none
 | i::l=>cond (f i) (some i) (zhe f l)
def zap(Γ:Gm)(o:Oper):Bool:=match zjr o.op with
 | some (f,_)=>match Γ.g f with
  | some en=>z7d en.sig.ps
  | none=>false
 | none=>match zcl o.op with
  | some _=>true
  | none=>match o.op with
   | .slice _ _ _ _ _=>true
   | .build _ _=>true
   | .makeSlice _ _ _=>true
   | .alloc _=>true
   | .box _ _=>true
   | .buildSlice _ _ _=>true
   | _=>z42 o.op
def zju(Γ:Gm)(ops:Array Oper)(j:Nat):Bool:=match ops[j]? with
 | some oj=>!(zdz oj.op)&&(List.range ops.size).any λi=>!(Nat.beq i j)&&(match ops[i]? with
  | some oi=>!(zap Γ oi)&&!(z5a ops 4 i j||z5a ops 4 j i)
  | none=>false)
 | none=>false
def zjv(Γ:Gm)(ops:Array Oper)(listed:Array Bool)(i:Nat):Bool:=match ops[i]? with
 | some o=>z42 o.op&&(Region.free .any ops listed i&&!(zju Γ ops i))
 | none=>false
def zls(T:Tab)(σ:St)(o:Oper)(pin:Option zcz):Option zcz:=match znj T σ o with
 | some p=>some p
 | none=>match pin,o.guard with
  | some p,none=>match elPin T σ p o.op o.dst with
   | some p'=>some p'
   | none=>cond (z54 p.d o.dst&&z8i p o.dst) (some p) none
  | _,_=>none
def putOf(o:Oper)(pin:Option zcz):Option (zcz×Nat×Int×Nat×Operand):=match pin,o.guard with
 | some p,none=>match znb p o.op o.dst with
  | some y=>some (p,y)
  | none=>none
 | _,_=>none
noncomputable def iAny(Γ:Gm)(T:Tab)(N:Nat)(ops:Array Oper):Nat->Array Bool->Option zcz->St->(St->Option ρ)->Option ρ
 | 0,listed,_,σ,K=>cond (Region.ready .any ops listed).isEmpty (K σ) none
 | fuel+1,listed,pin,σ,K=>match Region.ready .any ops listed with
  | []=>K σ
  | r::rs=>match zhe (zjv Γ ops listed) (r::rs)with
   | some i=>match ops[i]? with
    | some o=>zee ops o σ (λσ=>iStill T N o σ λσ'=>iAny Γ T N ops fuel (listed.setIfInBounds i true) (zls T σ o pin) σ' K) λσ'=>iAny Γ T N ops fuel (listed.setIfInBounds i true) none σ' K
    | none=>none
   | none=>zsb (λr=>match ops[r]? with
    | some o=>cond (zap Γ o||zf2 ops (zju Γ ops) r) (match putOf o pin with
     | some (p,_,k,t,x)=>cond (zf2 ops (zju Γ ops) r) (znq T p k t x σ λσ'=>iAny Γ T N ops fuel (listed.setIfInBounds r true) none σ' K) none
     | none=>zee ops o σ (λσ=>iDo Γ T N o σ λσ'=>iAny Γ T N ops fuel (listed.setIfInBounds r true) none σ' K) λσ'=>iAny Γ T N ops fuel (listed.setIfInBounds r true) none σ' K) none
    | none=>none) (r::rs)
noncomputable def zlv(Γ:Gm)(T:Tab)(N:Nat)(ops:Array Oper)(draw:Bool)(σ:St)(K:St->Option ρ):Option ρ :=
 cond draw (cond (Region.noSelect ops) (iAny Γ T N ops ops.size (Array.replicate ops.size false) none σ K) none) (iOps Γ T N ops (List.range ops.size) none σ K)
def zel(n:Nat)(ops:Array Oper):Bool:=ops.toList.all λo=>match o.dst with
 | some d=>Nat.blt d n
 | none=>true
end
structure GOk[DC](P:Program)[Inv P](Γ:Gm):Prop where
 g:∀f en,Γ.g f=some en->z0a P f en/\∀p∈en.sig.rs,p.agg=false->p.t.nc=1
 m:∀f en,Γ.m f=some en->z3f P f en/\∀p∈en.rs,p.agg=false->p.t.nc=1
 v:∀f en,Γ.v f=some en->z9e P f en/\∀p∈en.rs,p.agg=false->p.t.nc=1
 n:∀f en,Γ.n f=some en->z9f P f en
 s:∀f en,Γ.s f=some en->z6s P f en
structure GAt[DC](P:Program)(w0:World)(lab0:Nat->Lab)(Γ:Gm):Prop where
 g:∀f en,Γ.g f=some en->zew P w0 lab0 f en/\∀p∈en.sig.rs,p.agg=false->p.t.nc=1
 m:∀f en,Γ.m f=some en->zi8 P w0 lab0 f en/\∀p∈en.rs,p.agg=false->p.t.nc=1
 v:∀f en,Γ.v f=some en->zi5 P w0 lab0 f en/\∀p∈en.rs,p.agg=false->p.t.nc=1
 n:∀f en,Γ.n f=some en->zi7 P w0 lab0 f en
 s:∀f en,Γ.s f=some en->zi6 P w0 lab0 f en
def GOk.at[DC]{P:Program}[Inv P]{Γ:Gm}(h:GOk P Γ){w0:World}{lab0:Nat->Lab}(hI:Inv.I P w0)(hB:∀k,Inv.B P k->lab0 k=.st):GAt P w0 lab0 Γ :=
 ⟨λf en hf=>⟨(h.g f en hf).1.at hI hB,(h.g f en hf).2⟩,λf en hf=>⟨(h.m f en hf).1.at hI hB,(h.m f en hf).2⟩,λf en hf=>⟨(h.v f en hf).1.at hI hB,(h.v f en hf).2⟩,λf en hf=>(h.n f en hf).at hI hB,λf en hf=>(h.s f en hf).at hI hB⟩
section
variable {P : Program} {σ σ' : St} {E E' : Env} {w w' : World} {w0 : World} {lab0 : Nat → Lab} {oo : Nat → Value} {n : Nat} {a : Act} {T : Tab} {Γ : Gm} {ρ : Type} {ops : Array Oper} {N : Nat} [DC]
def z2x(h:zel n ops=true){i:Nat}{o:Oper}(ho:ops[i]? = some o):∀d,o.dst=some d->d<n:=by
 intro d hd
 have hm:o∈ops.toList:=by
  have:=Array.mem_of_getElem? ho
  simpa using this
 have:=List.all_eq_true.1 h o hm
 rw[hd]at this
 simpa using this
def zej(h:R w0 lab0 oo n σ E a w):∀args:List Operand,z1b (z3k σ E w) (args.map (ev σ)) (args.map a.eval)
 | []=>trivial
 | x::l=>⟨z1e h x,zej h l⟩
def za3{op:Op}{f:Nat}{args:List Operand}(h:zjr op=some (f,args)):∃arr ts,op=.call { callee:=.value (.func f),args:=arr,argTypes:=ts }/\arr.toList=args:=by
 unfold zjr at h
 split at h
 ·rename_i f' arr ts
  injection h with h
  injection h with e1 e2
  subst e1
  exact⟨arr,ts,rfl,e2⟩
 ·cases h
def z6p{op:Op}{f:Nat}{args:List Operand}(h:zeo σ op=some (f,args)):∃x arr ts,op=.call { callee:=.value x,args:=arr,argTypes:=ts }/\arr.toList=args/\ev σ x=.c (.fn f []):=by
 unfold zeo at h
 split at h
 ·rename_i x arr ts
  split at h
  ·rename_i f' hf
   injection h with h
   injection h with e1 e2
   subst e1
   exact⟨x,arr,ts,rfl,e2,hf⟩
  ·cases h
 ·cases h
def ev_fn(h:R w0 lab0 oo n σ E a w){x:Operand}{f:Nat}(hx:ev σ x=.c (.fn f [])):a.eval x=.func (.func f) #[] #[]:=by
 have:=z1e h x
 rw[hx]at this
 exact this.1
def zri(hT:TOk P T)(h:R w0 lab0 oo n σ E a w){o:Oper}(hn:zrj T σ o.op=true):∃b,(execOp a.eval o).run P w=.ok (.value (.bool b)) w:=by
 obtain⟨dst,op,oty,pos,after,guard⟩:=o
 simp only at hn
 unfold zrj at hn
 split at hn
 ·rename_i op t x y t'
  simp only[Bool.and_eq_true]at hn
  obtain⟨hop,hn⟩:=hn
  obtain⟨ti,A,m,c,ht,hel,hx,hy⟩:∃(ti:TI) (A:Option Addr) (m c:Nat),T t=some ti/\ti.el.isSome=true/\a.eval x=.slice A m c/\a.eval y=.slice none 0 0:=by
   split at hn
   ·rename_i ti _ _ _ _ ht hx hy
    have rx:=z1e h x
    have ry:=z1e h y
    rw[hx]at rx
    rw[hy]at ry
    obtain⟨A,m,d,e,_⟩:=rx.c_inv
    injection e with e
    exact⟨ti,A,m,d,ht,hn,e,ry.c_inv⟩
   ·rename_i ti r ht hx hy
    have rx:=z1e h x
    have ry:=z1e h y
    rw[hx]at rx
    rw[hy]at ry
    obtain⟨e,_,A,m,d,e'⟩:=rx.c_inv
    exact⟨ti,A,m,d,ht,(by simp only[Bool.and_eq_true]at hn;exact hn.1),e.trans (e▸e'),ry.c_inv⟩
   ·cases hn
  obtain⟨e,he⟩:=Option.isSome_iff_exists.1 hel
  have hu:=z3z hT ht he
  have heq:(Op.equal t (.slice A m c) (.slice none 0 0)).run P w=.ok A.isNone w:=by
   have key:∀d,(Op.equalIn (d+1) t (.slice A m c) (.slice none 0 0)).run P w=.ok A.isNone w:=λd=>by
    cases A<;>simp[Op.equalIn,run_underlying hu]
   exact key 9999
  have hguard:(eqGuard op t x y (.slice A m c) (.slice none 0 0)).run P w=.ok () w:=z7h (λu e=>by cases e) (λe=>by cases e)
  cases op<;>simp only[eqOp]at hop<;>try contradiction
  ·refine⟨A.isNone, ?_⟩
   simp only[execOp,hx,hy]
   rw[Sem.run_bind,Sem.run_bind,hguard]
   have:binOp .eql t (.slice A m c) (.slice none 0 0)=(do pure (.bool (<-Op.equal t (.slice A m c) (.slice none 0 0))):Sem Value):=rfl
   simp[this,heq]
  ·refine⟨!A.isNone, ?_⟩
   simp only[execOp,hx,hy]
   rw[Sem.run_bind,Sem.run_bind,hguard]
   have:binOp .neq t (.slice A m c) (.slice none 0 0)=(do pure (.bool (!(<-Op.equal t (.slice A m c) (.slice none 0 0)))):Sem Value):=rfl
   simp[this,heq]
 ·cases hn
def zjt(hT:TOk P T)(hΓ:GAt P w0 lab0 Γ)(h:R w0 lab0 oo n σ E a w){o:Oper}(hd:∀d,o.dst=some d->d<n){K:St->Option ρ}{r:ρ}(hr:iDo Γ T N o σ K=some r){next:Act->World->Prop}{Q:Exit->Act->World->Prop}
  (hK:∀σ' E' v w',K σ'=some r->R w0 lab0 oo n σ' E' (a.put o.dst v) w'->(zap Γ o=true->Ext w w')->next (a.put o.dst v) w'):o.wp P a w next Q:=by
 unfold iDo at hr
 split at hr
 ·rename_i c x y hp
  have hop:o.op=.pick c x y:=by
   obtain⟨dst,op,oty,pos,after,guard⟩:=o
   simp only at hp ⊢
   cases op<;>simp only[zcl]at hp<;>try contradiction
   injection hp with hp
   injection hp with e1 e2
   injection e2 with e2 e3
   rw[e1,e2,e3]
  split at hr
  ·rename_i b hb
   have hc:=z1e h c
   rw[hb]at hc
   have hc:a.eval c=.bool b:=hc
   have hrun:(execOp a.eval o).run P w=.ok (.value (if b then a.eval x else a.eval y)) w:=by
    simp[execOp,hop,hc,asBool]
   unfold Oper.wp
   rw[hrun]
   cases b
   ·exact hK _ E _ w hr (h.iput hd (z1e h y)) λ_=>Ext.refl w
   ·exact hK _ E _ w hr (h.iput hd (z1e h x)) λ_=>Ext.refl w
  ·cases hr
 ·rename_i hnp
  split at hr
  ·rename_i f args hcall
   split at hr
   ·rename_i en hen
    split at hr
    ·rename_i X hX
     rw[z97]at hr
     cases hpre:z3s en.pre X
     ·rw[hpre]at hr;cases hr
     rw[hpre]at hr
     simp only[cond_true,zay]at hr
     have hG:en.G X=some (en.val X):=by unfold z24.G;rw[hpre];rfl
     split at hr
     ·rename_i σ' hout
      obtain⟨hE,hfl⟩:=hΓ.g f en hen
      obtain⟨x0,arr,ts,hop,harr,hx0⟩:=z6p hcall
      have hev:a.eval x0=.func (.func f) #[] #[]:=(ev_fn h hx0)
      have hs:z1b (z3k σ E w) (args.map (ev σ)) (arr.map a.eval).toList:=by
       rw[Array.toList_map,harr]
       exact zej h args
      have hq:zap Γ o=true->z7d en.sig.ps=true:=by
       intro hq
       unfold zap at hq
       split at hq
       ·rename_i f' args' hcs
        obtain⟨arr',ts',hop',_⟩:=za3 hcs
        rw[hop]at hop'
        injection hop' with hop'
        injection hop' with e1 e2 e3
        injection e1 with e1
        subst e1
        have hx0:SV.c (.fn f' [])=.c (.fn f []):=hx0
        injection hx0 with hx0
        injection hx0 with hx0
        subst hx0
        rw[hen]at hq
        exact hq
       ·rw[hop]at hq
        simp[zcl,z42]at hq
      have hrun:(execOp a.eval o).run P w=(callFunc f (arr.map a.eval)).run P w:=by
       simp[execOp,hop,resolve,hev,Deferred.ofValue,invoke]
      unfold Oper.wp
      rw[hrun]
      rcases zq7 hE h hs hX hG hd hfl hout with⟨h1,h2⟩ | ⟨v,w',h1,v',E',he,h2,h3⟩
      ·rw[h1,Oper.upon_enter]
       refine h2.mono ?_
       rintro e w' ⟨v,E',rfl,h3,h4⟩
       exact hK σ' E' v w' hr h3 λhqq=>h4 (hq hqq)
      ·injection he with he
       subst he
       rw[h1]
       exact hK σ' E' v w' hr h2 λhqq=>h3 (hq hqq)
     ·cases hr
    ·cases hr
   ·rename_i hng
    split at hr
    ·rename_i en hen
     split at hr
     ·rename_i qs X hX
      rw[z97]at hr
      cases hpre:z3s en.pre X
      ·rw[hpre]at hr;cases hr
      rw[hpre]at hr
      simp only[cond_true,zay]at hr
      split at hr
      ·rename_i σ' hout
       obtain⟨hE,hfl⟩:=hΓ.m f en hen
       obtain⟨x0,arr,ts,hop,harr,hx0⟩:=z6p hcall
       have hev:a.eval x0=.func (.func f) #[] #[]:=(ev_fn h hx0)
       have hs:z1b (z3k σ E w) (args.map (ev σ)) (arr.map a.eval).toList:=by
        rw[Array.toList_map,harr]
        exact zej h args
       have hq:zap Γ o=true->False:=by
        intro hq
        unfold zap at hq
        split at hq
        ·rename_i f' args' hcs
         obtain⟨arr',ts',hop',_⟩:=za3 hcs
         rw[hop]at hop'
         injection hop' with hop'
         injection hop' with e1 e2 e3
         injection e1 with e1
         subst e1
         have hx0:SV.c (.fn f' [])=.c (.fn f []):=hx0
         injection hx0 with hx0
         injection hx0 with hx0
         subst hx0
         rw[hng]at hq
         cases hq
        ·rw[hop]at hq
         simp[zcl,z42]at hq
       have hrun:(execOp a.eval o).run P w=(callFunc f (arr.map a.eval)).run P w:=by
        simp[execOp,hop,resolve,hev,Deferred.ofValue,invoke]
       unfold Oper.wp
       rw[hrun]
       rcases zmk hE h hs hX hpre hd hfl hout with⟨h1,h2⟩ | ⟨v,w',h1,v',E',he,h2⟩
       ·rw[h1,Oper.upon_enter]
        refine h2.mono ?_
        rintro e w' ⟨v,E',rfl,h3⟩
        exact hK σ' E' v w' hr h3 λhqq=>(hq hqq).elim
       ·injection he with he
        subst he
        rw[h1]
        exact hK σ' E' v w' hr h2 λhqq=>(hq hqq).elim
      ·cases hr
     ·cases hr
    ·obtain⟨x0,arr,ts,hop,harr,hx0⟩:=z6p hcall
     have hev:a.eval x0=.func (.func f) #[] #[]:=(ev_fn h hx0)
     have hs:z1b (z3k σ E w) (args.map (ev σ)) (arr.map a.eval).toList:=by
      rw[Array.toList_map,harr]
      exact zej h args
     have hq:zap Γ o=true->False:=by
      intro hq
      unfold zap at hq
      split at hq
      ·rename_i f' args' hcs
       obtain⟨arr',ts',hop',_⟩:=za3 hcs
       rw[hop]at hop'
       injection hop' with hop'
       injection hop' with e1 e2 e3
       injection e1 with e1
       subst e1
       have hx0:SV.c (.fn f' [])=.c (.fn f []):=hx0
       injection hx0 with hx0
       injection hx0 with hx0
       subst hx0
       rw[hng]at hq
       cases hq
      ·rw[hop]at hq
       simp[zcl,z42]at hq
     have hrun:(execOp a.eval o).run P w=(callFunc f (arr.map a.eval)).run P w:=by
      simp[execOp,hop,resolve,hev,Deferred.ofValue,invoke]
     have fin:∀σ',K σ'=some r->(z3n P f (arr.map a.eval) w λe w'=>∃v E',e=.returned v/\R w0 lab0 oo n σ' E' (a.put o.dst v) w')->o.wp P a w next Q:=by
      intro σ' hr hcalls
      unfold Oper.wp
      rw[hrun]
      rcases hcalls with⟨h1,h2⟩ | ⟨v,w',h1,v',E',he,h2⟩
      ·rw[h1,Oper.upon_enter]
       refine h2.mono ?_
       rintro e w' ⟨v,E',rfl,h3⟩
       exact hK σ' E' v w' hr h3 λhqq=>(hq hqq).elim
      ·injection he with he
       subst he
       rw[h1]
       exact hK σ' E' v w' hr h2 λhqq=>(hq hqq).elim
     split at hr
     ·rename_i en hen
      split at hr
      ·rename_i qs X hX
       rw[z97]at hr
       cases hpre:z3s en.pre X
       ·rw[hpre]at hr;cases hr
       rw[hpre]at hr
       simp only[cond_true,zay]at hr
       split at hr
       ·rename_i σ' hout
        obtain⟨hE,hfl⟩:=hΓ.v f en hen
        exact fin σ' hr (zmg hE h hs hX hpre hd hfl hout)
       ·cases hr
      ·cases hr
     ·split at hr
      ·rename_i en hen
       split at hr
       ·rename_i X hX
        rw[z97]at hr
        cases hpre:z3s en.pre X
        ·rw[hpre]at hr;cases hr
        rw[hpre]at hr
        simp only[cond_true]at hr
        split at hr
        ·rename_i σ' hout
         exact fin σ' hr (zmj (hΓ.n f en hen) h hs hX hpre hd hout)
        ·cases hr
       ·cases hr
      ·split at hr
       ·rename_i en hen
        split at hr
        ·rename_i X hX
         rw[z97]at hr
         cases hpre:z3s en.pre X
         ·rw[hpre]at hr;cases hr
         rw[hpre]at hr
         simp only[cond_true]at hr
         split at hr
         ·rename_i σ' hout
          exact fin σ' hr (zmh (hΓ.s f en hen) h hs hX hpre hd hout)
         ·cases hr
        ·cases hr
       ·cases hr
  ·rename_i hnc
   split at hr
   ·rename_i c s hv
    rw[zh3,zh2,z2c]at hr
    cases c
    ·cases hne:zrj T σ o.op
     ·rw[hne]at hr;cases hr
     ·rw[hne]at hr
      obtain⟨q1,q2⟩:=zkx (show zub _ _=some r from hr)
      obtain⟨b,h1⟩:=zri hT h hne
      unfold Oper.wp
      rw[h1]
      cases b
      ·exact hK _ E _ w q2 (h.iput hd rfl) λ_=>Ext.refl w
      ·exact hK _ E _ w q1 (h.iput hd rfl) λ_=>Ext.refl w
    ·have hr:K (zib σ o.dst s)=some r:=by cases hne:zrj T σ o.op<;>(rw[hne]at hr;exact hr)
     obtain⟨v,h1,h2⟩:=z4x hT h hv rfl
     unfold Oper.wp
     rw[h1]
     exact hK _ E v w hr (h.iput hd h2) λ_=>Ext.refl w
   ·rename_i hv
    rw[Out.kL_eq]at hr
    obtain⟨σ',h1,h2⟩:=Out.k_run hr
    have hnq:zap Γ o=true->ze9 o.op=true:=by
     intro hq
     unfold aMem at h1
     split at h1
     all_goals first | (cases h1;done) | (rename_i he;rw[he];unfold zap at hq;rw[he]at hq;simp[zjr,zcl,z42,ze9]at hq ⊢;done) | (rename_i he _;rw[he];unfold zap at hq;rw[he]at hq;simp[zjr,zcl,z42,ze9]at hq ⊢;done)
    rcases zqb hT h hd h1 with⟨v,w',E',g1,gx,g2⟩ | ⟨w',E',g1,g2⟩
    ·unfold Oper.wp
     rw[g1]
     exact hK σ' E' v w' h2 g2 λhq=>gx (hnq hq)
    ·have hnm:ze9 o.op=false:=by
      cases hm:ze9 o.op
      ·rfl
      ·exfalso
       unfold ze9 at hm
       split at hm
       ·rename_i he
        unfold execOp at g1
        rw[he]at g1
        simp only at g1
        rw[Sem.run_bind]at g1
        cases hX:(Instr.makeSlice _ _ _).run P w<;>rw[hX]at g1<;>simp[Result.andThen]at g1
       ·rename_i he
        unfold execOp at g1
        rw[he]at g1
        simp only at g1
        rw[Sem.run_bind]at g1
        cases hX:(Instr.alloc _ _ _).run P w<;>rw[hX]at g1<;>simp[Result.andThen]at g1
       ·rename_i he
        unfold execOp at g1
        rw[he]at g1
        simp only at g1
        rw[Sem.run_bind]at g1
        cases hX:(Instr.box _ _).run P w<;>rw[hX]at g1<;>simp[Result.andThen]at g1
       ·rename_i he
        unfold execOp at g1
        rw[he]at g1
        simp only at g1
        rw[Sem.run_bind]at g1
        cases hX:(Instr.buildSlice _ _ _).run P w<;>rw[hX]at g1<;>simp[Result.andThen]at g1
       ·cases hm
     unfold Oper.wp
     rw[g1]
     exact hK σ' E' undef w' h2 g2 λhq=>by rw[hnm]at hnq;exact absurd (hnq hq) (by simp)
def R.seen(h:R w0 lab0 oo n σ E a w){t:Nat}(ht:t<n){b:Bool}(hb:σ.slot t=.c (.bool b)):R w0 lab0 oo n (σ.put t (.c (.bool b))) E a w/\a.tmps[t]? = some (.bool b):=by
 have hs:=h.slots t
 rw[hb]at hs
 have hbd:=h.bound
 have hv:z5b oo a t=.bool b:=hs
 unfold z5b at hv
 rw[if_pos (by omega)]at hv
 have hlt:t<a.tmps.size:=by rw[h.size];exact ht
 have hget:a.tmps[t]? = some (.bool b):=by
  rw[Array.getD_eq_getD_getElem?,Array.getElem?_eq_getElem hlt]at hv
  rw[Array.getElem?_eq_getElem hlt]
  exact congrArg some hv
 refine⟨?_,hget⟩
 have:=h.put (d:=t) (s:=.c (.bool b)) (v:=.bool b) ht rfl
 have e:a.put (some t) (.bool b)=a:=by
  unfold Act.put
  have:a.tmps.setIfInBounds t (.bool b)=a.tmps:=by
   apply Array.ext_getElem?
   intro i
   rw[Array.getElem?_setIfInBounds]
   by_cases e:t=i
   ·subst e;rw[if_pos rfl,if_pos hlt,hget]
   ·rw[if_neg e]
  simp only[this]
 rwa [e]at this
def z8n(h:R w0 lab0 oo n σ E a w)(hops:zel n ops=true){i:Nat}{o:Oper}(ho:ops[i]? = some o){F K:St->Option ρ}{r:ρ}(hr:zee ops o σ F K=some r){G:Prop}
  (hF:∀σ',R w0 lab0 oo n σ' E a w->F σ'=some r->Region.wanted o (yielded ops a.tmps)=true->G)
  (hK:∀σ',R w0 lab0 oo n σ' E (a.put o.dst undef) w->K σ'=some r->Region.wanted o (yielded ops a.tmps)=false->G):G:=by
 have hd:=z2x hops ho
 unfold zee at hr
 split at hr
 ·rename_i hg
  exact hF σ h hr (by simp[Region.wanted,hg])
 ·rename_i j want hg
  split at hr
  ·rename_i t ht
   have htn:t<n:=by
    unfold gslot at ht
    split at ht
    ·rename_i oj hoj
     exact z2x hops hoj t ht
    ·cases ht
   have hbind:(ops[j]?).bind (·.dst)=some t:=by
    unfold gslot at ht
    split at ht
    ·rename_i oj hoj
     rw[hoj];exact ht
    ·cases ht
   split at hr
   ·rename_i b hb
    obtain⟨h1,h2⟩:=h.seen htn hb
    have hy:yielded ops a.tmps j=some b:=by
     unfold yielded
     rw[hbind]
     simp[h2]
    have hw:Region.wanted o (yielded ops a.tmps)=(b == want):=by
     unfold Region.wanted
     rw[hg]
     simp only[hy]
     cases b<;>cases want<;>rfl
    cases b<;>cases want
    ·exact hF _ h1 hr (by rw[hw];rfl)
    ·exact hK _ (h1.iput (s:=.tup []) hd ⟨#[],rfl,trivial⟩) hr (by rw[hw];rfl)
    ·exact hK _ (h1.iput (s:=.tup []) hd ⟨#[],rfl,trivial⟩) hr (by rw[hw];rfl)
    ·exact hF _ h1 hr (by rw[hw];rfl)
   ·rename_i l hb
    have hs:=h.slots t
    rw[hb]at hs
    obtain⟨arr,hv,_⟩:=hs
    have hbd:=h.bound
    unfold z5b at hv
    rw[if_pos (by omega)]at hv
    have hlt:t<a.tmps.size:=by rw[h.size];exact htn
    have hy:yielded ops a.tmps j=none:=by
     unfold yielded
     rw[hbind]
     rw[Array.getD_eq_getD_getElem?,Array.getElem?_eq_getElem hlt]at hv
     have hv:a.tmps[t]=.tuple arr:=hv
     simp[Array.getElem?_eq_getElem hlt,hv]
    exact hK _ (h.iput (s:=.tup []) hd ⟨#[],rfl,trivial⟩) hr (by unfold Region.wanted;rw[hg];simp[hy])
   ·cases hr
  ·cases hr
def zh9(h:R w0 lab0 oo n σ E a w)(hops:zel n ops=true){i:Nat}{o:Oper}(ho:ops[i]? = some o){F K:St->Option ρ}{r:ρ}(hr:zee ops o σ F K=some r){G:Prop}
  (hF:∀σ',R w0 lab0 oo n σ' E a w->(o.guard=none->σ'=σ)->F σ'=some r->Region.wanted o (yielded ops a.tmps)=true->G)
  (hK:∀σ',R w0 lab0 oo n σ' E (a.put o.dst undef) w->K σ'=some r->Region.wanted o (yielded ops a.tmps)=false->G):G:=by
 cases hg:o.guard with
 | none =>
  unfold zee at hr
  rw[hg]at hr
  exact hF σ h (λ_=>rfl) hr (by simp[Region.wanted,hg])
 | some q=>exact z8n h hops ho hr (λσ' h' hF' hw=>hF σ' h' (λhn=>by rw[hg]at hn;cases hn) hF' hw) hK
def z92{i:Nat}{o:Oper}(ho:ops[i]? = some o){next:Act->World->Prop}{Q:Exit->Act->World->Prop}(hw:Region.wanted o (yielded ops a.tmps)=true)(h:o.wp P a w next Q):wpOp P ops Q i next a w:=by
 unfold wpOp
 rw[ho]
 simp only[hw,if_true]
 exact .inl h
def zie{i:Nat}{o:Oper}(ho:ops[i]? = some o){next:Act->World->Prop}{Q:Exit->Act->World->Prop}(hw:Region.wanted o (yielded ops a.tmps)=false)(h:next (a.put o.dst undef) w):wpOp P ops Q i next a w:=by
 unfold wpOp
 rw[ho]
 simp only[hw]
 exact h
def ElOk(a:Act)(p:zcz):Prop:=∀e k,p.el=some (e,k)->0<=k/\∃g m c,a.eval (.tmp p.d)=.slice (some ⟨g,0,none⟩) m c/\k<m/\a.eval (.tmp e)=.pointer (some ⟨g,k.toNat,none⟩)
def zca(σ:St)(E:Env)(a:Act)(w:World)(pin:Option zcz):Prop:=∀p,pin=some p->p.d<100000->(∃row,Pin σ E w p.r p.i p.f row (a.eval (.tmp p.d)))/\ElOk a p
def zjs{α β:Type}(g:α->β):∀(ps:List PT) (xs:List α) {x:α},za4 ps xs=some x->za4 ps (xs.map g)=some (g x)
 | [],[],_,h=>by cases h
 | [],_::_,_,h=>by cases h
 | _::_,[],_,h=>by cases h
 | p::ps,y::ys,x,h=>by
  simp only[za4,List.map_cons]at h ⊢
  cases hio:p.io
  ·rw[hio]at h
   exact zjs g ps ys h
  ·rw[hio]at h
   injection h with h
   subst h
   rfl
def zcj(hT:TOk P T)(h:R w0 lab0 oo n σ E a w){o:Oper}{p:zcz}(hp:znj T σ o=some p)(hd:∀d,o.dst=some d->d<n){c:Bool}{s:SV}(hv:z83 T σ o.op=some (c,s))(hc:c=true) :
  o.guard=none/\∃v,(execOp a.eval o).run P w=.ok (.value v) w/\z3k σ E w s v/\zca (zib σ o.dst s) E (a.put o.dst v) w (some p):=by
 obtain⟨v,h1,h2⟩:=z4x hT h hv hc
 have hbd:=h.bound
 obtain⟨dst,op,oty,pos,after,guard⟩:=o
 unfold znj at hp
 simp only at hp hd h1 ⊢
 split at hp
 ·rename_i t x d
  split at hp
  ·rename_i r i f hx
   split at hp
   ·rename_i row ti hrow ht
    cases hq:(row.deep&&(ti.el.isSome&&!ti.agg))
    ·rw[hq]at hp;cases hp
    rw[hq]at hp
    injection hp with hp
    subst hp
    simp only[Bool.and_eq_true,Bool.not_eq_true']at hq
    refine⟨rfl,v,h1,h2,λp hp hlt=>?_⟩
    injection hp with hp
    subst hp
    have hdn:=hd d rfl
    have rx:=z1e h x
    rw[hx]at rx
    obtain⟨row',g,m,c',e1,e2,e3,e4,e5,e6⟩:=rx.c_inv
    rw[hrow]at e1
    injection e1 with e1
    subst e1
    refine⟨⟨row,hrow,hq.1,e3,e4,g,m,c',e2, ?_⟩,λe k he=>by cases he⟩
    have hev:(a.put (some d) v).eval (.tmp d)=v:=by
     show(a.tmps.setIfInBounds d v).getD d undef=v
     rw[z9b _ _ _ _ (by rw[h.size];exact hdn),if_pos rfl]
    rw[hev]
    have hagg:=zu8 hT ht w
    rw[hq.2.2]at hagg
    simp only[execOp,e6]at h1
    obtain⟨u,hcl⟩:∃u,w.cell? ⟨g,i.toNat*row.t.nc+f,none⟩=some u:=by
     have hal:zl3 σ (.elt r i f) 1=some (((z4c row.t (row.xs.getD i.toNat row.t.dflt) (cond row.deep (some r) none)).drop f).take 1):=by
      simp only[zl3,hrow]
      rw[show Nat.ble (f+1) row.t.nc=true from Nat.ble_eq_true_of_le (by omega)]
      rfl
     obtain⟨ad,vs,f',k1,k2,k3,_⟩:=zag h hal rx.c_inv
     rw[e6]at k1
     injection k1 with k1
     injection k1 with k1
     exact⟨vs[f'],by rw[k1];exact k3 f' _ (List.getElem?_eq_getElem (by omega))⟩
    simp[Instr.loadAt,Instr.sureAddr,loadVar,hagg,hcl]at h1
    rw[hcl,h1]
   ·cases hp
  ·cases hp
 ·cases hp
def zpi(hT:TOk P T)(hΓ:GAt P w0 lab0 Γ)(h:R w0 lab0 oo n σ E a w){o:Oper}(hd:∀d,o.dst=some d->d<n){p:zcz}{f:Nat}{args:List Operand}(hcall:zeo σ o.op=some (f,args))
  {en:z24} (hen:Γ.g f=some en) (hio:zpg p.d (za4 en.sig.ps args)=true) (hone:z6a en.sig.ps=true) (hpin:zca σ E a w (some p)) {K:St->Option ρ} {r:ρ} (hr:iSub Γ N p f args o.dst σ K=some r) {next:Act->World->Prop} {Q:Exit->Act->World->Prop}
  (hK:∀σ' E' v w',K σ'=some r->R w0 lab0 oo n σ' E' (a.put o.dst v) w'->next (a.put o.dst v) w'):o.wp P a w next Q:=by
 obtain⟨x0,arr,ts,hop,harr,hx0⟩:=z6p hcall
 have hev:a.eval x0=.func (.func f) #[] #[]:=ev_fn h hx0
 obtain⟨x,hx,hxd⟩:∃x,za4 en.sig.ps args=some x/\x=.tmp p.d/\p.d<100000:=by
  unfold zpg at hio
  split at hio
  ·rename_i e he
   simp only[Bool.and_eq_true]at hio
   exact⟨_,he,by rw[Nat.eq_of_beq_eq_true hio.1],by simpa using hio.2⟩
  ·cases hio
 obtain⟨rfl,hlt⟩:=hxd
 obtain⟨⟨row,hp⟩,_⟩:=hpin p rfl hlt
 unfold iSub at hr
 rw[hen,hp.hrow]at hr
 simp only at hr
 split at hr
 ·rename_i X hX
  rw[z97]at hr
  cases hpre:z3s en.pre X
  ·rw[hpre]at hr;cases hr
  rw[hpre]at hr
  simp only[cond_true,zay]at hr
  have hG:en.G X=some (en.val X):=by unfold z24.G;rw[hpre];rfl
  split at hr
  ·rename_i x' hx'
   split at hr
   ·rename_i σ' hout
    obtain⟨hE,hfl⟩:=hΓ.g f en hen
    have hs:z1b (z3k σ E w) (args.map (ev σ)) (arr.map a.eval).toList:=by
     rw[Array.toList_map,harr]
     exact zej h args
    have hrun:(execOp a.eval o).run P w=(callFunc f (arr.map a.eval)).run P w:=by
     simp[execOp,hop,resolve,hev,Deferred.ofValue,invoke]
    have hvv:za4 en.sig.ps (arr.map a.eval).toList=some (a.eval (.tmp p.d)):=by
     rw[Array.toList_map,harr]
     exact zjs a.eval _ _ hx
    unfold Oper.wp
    rw[hrun]
    rcases zqu hE h hs hp hone hvv hX hG hx' hd hfl hout with⟨h1,h2⟩ | ⟨v,w',h1,v',E',he,h2⟩
    ·rw[h1,Oper.upon_enter]
     refine h2.mono ?_
     rintro e w' ⟨v,E',rfl,h3⟩
     exact hK σ' E' v w' hr h3
    ·injection he with he
     subst he
     rw[h1]
     exact hK σ' E' v w' hr h2
   ·cases hr
  ·cases hr
 ·cases hr
def zlr{e:Nat}{kk:IntKind}{L:List Nat}{g m c:Nat}{ys:List Int}(ho:Own w (.sl e (.int kk)) L [.slice (some ⟨g,0,none⟩) m c] ys){k:Nat}(hk:k<m)(x:Int) :
  ∃w',(storeCells ⟨g,k,none⟩ [.int kk x] 0).run P w=.ok () w'/\Own w' (.sl e (.int kk)) L [.slice (some ⟨g,0,none⟩) m c] (ys.set k x:List Int)/\g∈L/\(∀j,j≠g->w'.heap[j]? = w.heap[j]?)/\w'.heap.size=w.heap.size/\w'.os=w.os/\Tp w w'/\w'.output=w.output:=by
 obtain⟨v,css,Ls,hv,h1,rfl,h2⟩:=ho
 injection hv with hv
 subst hv
 have hm:m=ys.length:=by
  rcases h1.2 with⟨h0,_⟩ | ⟨_,_,_,e0,_⟩
  ·cases h0
  ·injection e0
 subst hm
 have key:∀{Ls:List (List Nat)} {css:List (List Value)} {ys:List Int},z3t (λl c y=>Own w (.int kk) l c y) Ls css ys->css.flatten=ys.map (λy=>Value.int kk y)/\css=ys.map (λy=>[Value.int kk y])/\Ls=ys.map (λ_=>[]):=by
  intro Ls
  induction Ls with
  | nil =>
   intro css ys h
   cases css with
   | nil=>cases ys with
    | nil=>exact⟨rfl,rfl,rfl⟩
    | cons _ _=>exact h.elim
   | cons _ _=>cases ys<;>exact h.elim
  | cons l Ls ih =>
   intro css ys h
   cases css with
   | nil=>cases ys<;>exact h.elim
   | cons cc css=>cases ys with
    | nil=>exact h.elim
    | cons y ys =>
     obtain⟨⟨rfl,rfl⟩,h⟩:=h
     obtain⟨i1,i2,i3⟩:=ih h
     exact⟨by simp[i1],by rw[i2];simp,by rw[i3];simp⟩
 obtain⟨j1,j2,j3⟩:=key h2
 have hsz:k+1<=ys.length*(Ty.int kk).nc:=by show k+1<=ys.length*1;omega
 obtain⟨w',hst,ho',hother,hsize,hos⟩:=ownsRow_over (P:=P) (w:=w) (us:=[.int kk x]) (o:=k) h1 hsz (λu hu=>by simp at hu;subst hu;rfl)
 refine⟨w',hst,⟨_,(ys.set k x).map (λy=>[Value.int kk y]),(ys.set k x).map (λ_=>[]),rfl, ?_, ?_, ?_⟩, ?_,hother,hsize,hos.1,hos.2.1,hos.2.2⟩
 ·show World.ownsRow w' 0 e 1 _ (ys.set k x).length _
  rw[List.length_set]
  have hfl:((ys.set k x).map (λy=>[Value.int kk y])).flatten=css.flatten.take k++[.int kk x]++css.flatten.drop (k+1):=by
   have:((ys.set k x).map (λy=>[Value.int kk y])).flatten=(ys.set k x).map (λy=>Value.int kk y):=by
    induction(ys.set k x)with
    | nil=>rfl
    | cons a l ih=>simp[ih]
   rw[this,j1,List.set_eq_take_append_cons_drop,if_pos hk]
   simp
  rw[hfl]
  exact ho'
 ·rw[j3]
  have:∀l:List Int,(l.map λ_=>([]:List Nat)).flatten=[]:=λl=>by induction l with
   | nil=>rfl
   | cons a l ih=>simp[ih]
  rw[this,this]
 ·have:∀l:List Int,z3t (λ(l:List Nat) (c:List Value) (y:Int)=>Own w' (.int kk) l c y) (l.map λ_=>[]) (l.map λy=>[Value.int kk y]) l:=by
   intro l
   induction l with
   | nil=>trivial
   | cons a l ih=>exact⟨⟨rfl,rfl⟩,ih⟩
  exact this _
 ·exact List.mem_append_left _ (by simp[Value.ownBlock])
def zcn(hT:TOk P T)(h:R w0 lab0 oo n σ E a w){o:Oper}{p:zcz}{e:Nat}{k:Int}{t:Nat}{x:Operand}(hput:znb p o.op o.dst=some (e,k,t,x))(hpin:zca σ E a w (some p)){K:St->Option ρ}{r:ρ}(hr:znq T p k t x σ K=some r){next:Act->World->Prop}{Q:Exit->Act->World->Prop}
  (hK:∀σ' E' v w',K σ'=some r->R w0 lab0 oo n σ' E' (a.put o.dst v) w'->next (a.put o.dst v) w'):o.wp P a w next Q:=by
 obtain⟨dst,op,oty,pos,after,guard⟩:=o
 simp only at hput hK ⊢
 unfold znb at hput
 split at hput
 ·rename_i t' e' x' e0 k0 hel
  cases hq:(Nat.beq e' e0&&(Nat.blt e0 100000&&Nat.blt p.d 100000))
  ·rw[hq]at hput;cases hput
  rw[hq]at hput
  simp only[cond_true,Option.some.injEq,Prod.mk.injEq]at hput
  obtain⟨rfl,rfl,rfl,rfl⟩:=hput
  simp only[Bool.and_eq_true]at hq
  obtain rfl:=Nat.eq_of_beq_eq_true hq.1
  obtain⟨⟨row,pp⟩,hE⟩:=hpin p rfl (by simpa using hq.2.2)
  obtain⟨hk0,g,m,c,hv,hkm,hptr⟩:=hE _ _ hel
  unfold znq at hr
  rw[pp.hrow]at hr
  simp only at hr
  split at hr
  ·rename_i row1 ti kk mm hr0 ht hx
   injection hr0 with hr0
   subst hr0
   cases hq2:Nat.beq ti.zero.length 1
   ·rw[hq2]at hr;cases hr
   rw[hq2]at hr
   have hsz1:=Nat.eq_of_beq_eq_true hq2
   simp only[cond_true]at hr
   split at hr
   ·rename_i es k' ys hg
    cases hq3:ikEq kk k'
    ·rw[hq3]at hr;cases hr
    rw[hq3]at hr
    obtain rfl:=zed hq3
    simp only[cond_true]at hr
    split at hr
    ·rename_i x1 hset
     obtain⟨L,o1,o2,o3,o4⟩:=zlo h pp hg
     rw[hv]at o1 o4
     obtain⟨w',g1,g2,g3,g4,g5,g6,g7,g8⟩:=zlr (P:=P) o1 (k:=k0.toNat) (by omega) mm
     have hxv:a.eval x'=.int kk mm:=by
      have:=z1e h x'
      rw[hx]at this
      exact this
     obtain⟨f1,W⟩:=o4 g2 hset o2 (λk hk=>.inl hk) (λk hk hkL=>g4 k λe=>hkL (e▸g3))
     have hrun:(execOp a.eval ⟨none,.store t' (.tmp e') x',oty,pos,after,guard⟩).run P w=.ok .skip w':=by
      have hs:=z7e hT ht (v:=.int kk mm) (by rw[hsz1];rfl) (g:=g) (o:=k0.toNat) (w:=w) (w':=w') g1
      simp[execOp,hptr,hxv,hs]
     unfold Oper.wp
     rw[hrun]
     classical
     let E':Env:=⟨λk=>if k∈L then f1 k else E.lab k,E.rv,E.bb⟩
     refine hK _ E' undef w' hr ?_
     show R w0 lab0 oo n _ E' a w'
     refine R.called (E':=E') (qs:=[p.r]) h (λj hj hsp=>?_) ⟨g6,g7,g8⟩ (by omega) rfl (λq row2 hrow=>?_) (λq row2 hrow=>?_)
     ·have hjL:j∉L:=λhl=>hsp p.r (by simp) (.inr (o3 j hl))
      exact⟨g4 j λe=>hjL (e▸g3),if_neg hjL⟩
     ·by_cases hm:q∈[p.r]
      ·obtain⟨ro,row',w1,w2,w3,w4,_⟩:=W.row q hm
       rw[hrow]at w1
       injection w1 with w1
       subst w1
       exact⟨row',w2,rfl,by rw[w3],by omega⟩
      ·exact⟨row2,by rw[W.other q hm];exact hrow,rfl,rfl,Nat.le_refl _⟩
     ·by_cases hm:q∈[p.r]
      ·obtain⟨ro,row',w1,w2,w3,w4,w5⟩:=W.row q hm
       rw[hrow]at w2
       injection w2 with w2
       subst w2
       exact .inr (w5 E'.lab (λk hk=>if_pos hk) (λk _ _ hk=>if_neg hk))
      ·rw[W.other q hm]at hrow
       exact .inl ⟨hm,hrow⟩
    ·cases hr
   ·cases hr
  ·cases hr
 ·cases hput
def zek(hT:TOk P T)(h:R w0 lab0 oo n σ E a w){o:Oper}{p p':zcz}(hp:elPin T σ p o.op o.dst=some p')(hd:∀d,o.dst=some d->d<n)(hpin:zca σ E a w (some p)){c:Bool}{s:SV}(hv:z83 T σ o.op=some (c,s))(hc:c=true) :
  ∃v,(execOp a.eval o).run P w=.ok (.value v) w/\z3k σ E w s v/\zca (zib σ o.dst s) E (a.put o.dst v) w (some p'):=by
 obtain⟨v,h1,h2⟩:=z4x hT h hv hc
 refine⟨v,h1,h2, ?_⟩
 obtain⟨dst,op,oty,pos,after,guard⟩:=o
 simp only at hp hd h1 hv ⊢
 unfold elPin at hp
 split at hp
 ·rename_i t d i e
  cases hq:(Nat.beq d p.d&&(Nat.blt d 100000&&!(Nat.beq e d)))
  ·rw[hq]at hp;cases hp
  rw[hq]at hp
  simp only[Bool.and_eq_true,Bool.not_eq_true']at hq
  obtain rfl:=Nat.eq_of_beq_eq_true hq.1
  have hdlt:p.d<100000:=by simpa using hq.2.1
  have hne:e≠p.d:=λhe=>by rw[he,Nat.beq_refl]at hq;cases hq.2.2
  simp only[cond_true]at hp
  split at hp
  ·rename_i e2 t2 xs q kk k ti hdc hic ht
   split at hp
   ·rename_i el hel
    split at hp
    ·rename_i ei row hei hrow
     cases hz:Nat.beq ei.zero.length 1
     ·rw[hz]at hp;cases hp
     rw[hz]at hp
     have hz1:=Nat.eq_of_beq_eq_true hz
     simp only[cond_true]at hp
     split at hp
     ·rename_i e3 k3 ys hg
      injection hp with hp
      subst hp
      obtain⟨⟨row',pp⟩,_⟩:=hpin p rfl hdlt
      have:row'=row:=by
       have:=pp.hrow
       rw[hrow]at this
       injection this with this
       exact this.symm
      subst this
      have hen:=hd e rfl
      have hevd:(a.put (some e) v).eval (.tmp p.d)=a.eval (.tmp p.d):=by
       show(a.tmps.setIfInBounds e v).getD p.d undef=a.tmps.getD p.d undef
       rw[z9b _ _ _ _ (by rw[h.size];exact hen),if_neg (Ne.symm hne)]
      have heve:(a.put (some e) v).eval (.tmp e)=v:=by
       show(a.tmps.setIfInBounds e v).getD e undef=v
       rw[z9b _ _ _ _ (by rw[h.size];exact hen),if_pos rfl]
      obtain⟨L,o1,_,_,_⟩:=zlo h pp hg
      obtain⟨v0,css,Ls,hvv,h3,_,_⟩:=o1
      injection hvv with hvv
      have rx:=z1e h (.tmp p.d)
      rw[hdc]at rx
      have ri:=z1e h i
      rw[hic]at ri
      have ri:a.eval i=.int kk k:=ri
      obtain⟨A,m,c2,ev1,ev2,_⟩:=(show z1f σ E w (.sn e2 t2 xs q) (a.eval (.tmp p.d))from rx)
      injection ev1 with ev1
      have hchk:0<=k/\k<(xs.length:Int):=by
       simp only[z83,ht,hdc,hic,hel,hei]at hv
       simp only[zc9,z11.weak,z6g]at hv
       cases hb:Nat.beq t2.nc ei.zero.length
       ·rw[hb]at hv;cases hv
       ·rw[hb]at hv
        simp only[cond_true,Option.some.injEq,Prod.mk.injEq]at hv
        rw[<-hv.1]at hc
        simpa using hc
      have hsl:∃g c3,a.eval (.tmp p.d)=.slice (some ⟨g,0,none⟩) m c3:=by
       rcases h3.2 with⟨h0,h00⟩ | ⟨g,cap,cur,e0,_⟩
       ·rw[<-hvv,ev1]at h0
        injection h0 with q1 q2 q3
        omega
       ·rw[<-hvv,ev1]at e0
        injection e0 with q1 q2 q3
        subst q1
        exact⟨g,c2,ev1⟩
      obtain⟨g,c3,hsl⟩:=hsl
      have hu:=z3z hT ht hel
      have hs:=z7t hT hei
      have hvp:v=.pointer (some ⟨g,k.toNat,none⟩):=by
       have hm:k<(m:Int):=by omega
       have:(execOp a.eval ⟨some e,.indexAddr t (.tmp p.d) i,oty,pos,after,guard⟩).run P w=.ok (.value (.pointer (some ((⟨g,0,none⟩:Addr).add (k.toNat*ei.zero.length))))) w:=by
        simp[execOp,hsl,ri,Instr.indexAt,run_underlying hu,asIntOf,hchk.1,hm,hs]
       rw[this]at h1
       injection h1 with h1
       injection h1 with h1
       rw[<-h1,add_lit,hz1]
       simp
      intro p1 hp1 hlt1
      injection hp1 with hp1
      subst hp1
      refine⟨⟨row', ?_⟩,λe1 k1 he1=>?_⟩
      ·show Pin _ E w p.r p.i p.f row' ((a.put (some e) v).eval (.tmp p.d))
       rw[hevd]
       exact⟨pp.hrow,pp.deep,pp.i0,pp.lt,pp.cell⟩
      ·injection he1 with he1
       injection he1 with he1 he2
       subst he1 he2
       refine⟨hchk.1,g,m,c3, ?_,by omega,by rw[heve];exact hvp⟩
       show(a.put (some e) v).eval (.tmp p.d)=_
       rw[hevd]
       exact hsl
     ·cases hp
    ·cases hp
   ·cases hp
  ·cases hp
 ·cases hp
def z65(hT:TOk P T)(hΓ:GAt P w0 lab0 Γ)(hops:zel n ops=true){Q:Exit->Act->World->Prop}{K:St->Option ρ}{r:ρ}
  (hK:∀σ' E' a' w',K σ'=some r->R w0 lab0 oo n σ' E' a' w'->Q .normal a' w') :
  ∀(is:List Nat) {pin:Option zcz} {σ:St} {E:Env} {a:Act} {w:World},R w0 lab0 oo n σ E a w->zca σ E a w pin->iOps Γ T N ops is pin σ K=some r->wpOps P ops Q is a w
 | [],pin,σ,E,a,w,h,_,hr=>hK σ E a w hr h
 | i::zdw,pin,σ,E,a,w,h,hpin,hr=>by
  have nopin:∀{σ:St} {E:Env} {a:Act} {w:World},zca σ E a w none:=λp hp=>by cases hp
  rw[wpOps_cons]
  simp only[iOps]at hr
  split at hr
  ·rename_i o ho
   split at hr
   ·refine z8n h hops ho hr (λσ' h' hF hw=>z92 ho hw ?_) (λσ' h' hr' hw=>zie ho hw (z65 hT hΓ hops hK zdw h' nopin hr'))
    exact zjt hT hΓ h' (z2x hops ho) hF λσ2 E2 v w2 hr2 h2 _=>z65 hT hΓ hops hK zdw h2 nopin hr2
   ·rename_i p hm
    split at hr
    ·rename_i c s hv
     rw[zh3,zh2]at hr
     cases c
     ·cases hr
     simp only[cond_true]at hr
     obtain⟨hg,v,h1,h2,h3⟩:o.guard=none/\∃v,(execOp a.eval o).run P w=.ok (.value v) w/\z3k σ E w s v/\zca (zib σ o.dst s) E (a.put o.dst v) w (some p):=by
      unfold zgt at hm
      split at hm
      ·rename_i p' hp'
       injection hm with hm
       subst hm
       exact zcj hT h hp' (z2x hops ho) hv rfl
      ·split at hm
       ·cases hm
       ·rename_i p' 
        split at hm
        ·cases hm
        ·rename_i hg
         split at hm
         ·split at hm
          ·rename_i en _
           cases hq:(zpg p'.d (za4 en.sig.ps _)&&z6a en.sig.ps)<;>rw[hq]at hm<;>cases hm
          ·cases hm
         ·split at hm
          ·rename_i p2 hel
           injection hm with hm
           subst hm
           obtain⟨v,h1,h2,h3⟩:=zek hT h hel (z2x hops ho) hpin hv rfl
           exact⟨hg,v,h1,h2,h3⟩
          split at hm
          ·cases hm
          cases hq:(z42 o.op&&(z54 p'.d o.dst&&z8i p' o.dst))
          ·rw[hq]at hm;cases hm
          rw[hq]at hm
          injection hm with hm
          subst hm
          simp only[Bool.and_eq_true]at hq
          obtain⟨v,h1,h2⟩:=z4x hT h hv rfl
          refine⟨hg,v,h1,h2,λp hp hlt=>?_⟩
          obtain⟨⟨row,k1,k2,k3,k4,k5⟩,hE⟩:=hpin p hp hlt
          injection hp with hp
          subst hp
          have keep:∀z,z54 z o.dst=true->(a.put o.dst v).eval (.tmp z)=a.eval (.tmp z):=by
           intro z hz
           cases hdst:o.dst with
           | none=>rfl
           | some e =>
            have he:=z2x hops ho e hdst
            rw[hdst]at hz
            show(a.tmps.setIfInBounds e v).getD z undef=a.tmps.getD z undef
            rw[z9b _ _ _ _ (by rw[h.size];exact he),if_neg]
            rintro rfl
            simp[z54]at hz
          refine⟨⟨row,⟨?_,k2,k3,k4, ?_⟩⟩,λe k he=>?_⟩
          rotate_left 2
          ·obtain⟨q1,g,m,c,q2,q3,q4⟩:=hE e k he
           refine⟨q1,g,m,c,by rw[keep _ hq.2.1];exact q2,q3, ?_⟩
           rw[keep _ (by have:=hq.2.2;unfold z8i at this;rw[he]at this;exact this)]
           exact q4
          ·cases hdst:o.dst<;>exact k1
          ·rw[keep _ hq.2.1]
           exact k5
     refine z92 ho (by simp[Region.wanted,hg]) ?_
     unfold Oper.wp
     rw[h1]
     exact z65 hT hΓ hops hK zdw (h.iput (z2x hops ho) h2) h3 hr
    ·cases hr
   ·rename_i p f args hm
    unfold zgt at hm
    split at hm
    ·cases hm
    ·split at hm
     ·cases hm
     ·rename_i p'
      split at hm
      ·cases hm
      ·rename_i hg
       split at hm
       ·rename_i f' args' hcall
        split at hm
        ·rename_i en hen
         cases hq:(zpg p'.d (za4 en.sig.ps args')&&z6a en.sig.ps)
         ·rw[hq]at hm;cases hm
         rw[hq]at hm
         injection hm with e1 e2 e3
         subst e1 e2 e3
         simp only[Bool.and_eq_true]at hq
         refine z92 ho (by simp[Region.wanted,hg]) ?_
         exact zpi hT hΓ h (z2x hops ho) hcall hen hq.1 hq.2 hpin hr λσ' E' v w' hr' h'=>z65 hT hΓ hops hK zdw h' nopin hr'
        ·cases hm
       ·split at hm
        ·cases hm
        split at hm
        ·cases hm
        ·cases hq:(z42 o.op&&(z54 p'.d o.dst&&z8i p' o.dst))<;>rw[hq]at hm<;>cases hm
   ·rename_i p e k t x hm
    unfold zgt at hm
    split at hm
    ·cases hm
    ·split at hm
     ·cases hm
     ·rename_i p'
      split at hm
      ·cases hm
      ·rename_i hg
       split at hm
       ·split at hm
        ·rename_i en _
         cases hq:(zpg p'.d (za4 en.sig.ps _)&&z6a en.sig.ps)<;>rw[hq]at hm<;>cases hm
        ·cases hm
       ·split at hm
        ·cases hm
        split at hm
        ·rename_i e1 k1 t1 x1 hput
         injection hm with q1 q2 q3 q4 q5
         subst q1 q2 q3 q4 q5
         refine z92 ho (by simp[Region.wanted,hg]) ?_
         exact zcn hT h hput hpin hr λσ' E' v w' hr' h'=>z65 hT hΓ hops hK zdw h' nopin hr'
        ·cases hq:(z42 o.op&&(z54 p'.d o.dst&&z8i p' o.dst))<;>rw[hq]at hm<;>cases hm
  ·cases hr
def NP(Q:Exit->Act->World->Prop):Prop:=∀c a a' w,Q (.panic c) a w->Q (.panic c) a' w
def z8p{f:Nat->Bool}{i:Nat}:∀{l:List Nat},zhe f l=some i->i∈l/\f i=true
 | [],h=>by cases h
 | j::l,h=>by
  simp only[zhe]at h
  cases hb:f j
  ·rw[hb]at h
   exact⟨List.mem_cons_of_mem _ (z8p h).1,(z8p h).2⟩
  ·rw[hb]at h
   injection h with h
   subst h
   exact⟨List.mem_cons_self,hb⟩
def zav(hT:TOk P T)(h:R w0 lab0 oo n σ E a w){o:Oper}{pin:Option zcz}(hd:∀d,o.dst=some d->d<n)(hpin:o.guard=none->zca σ E a w pin){c:Bool}{s:SV}(hv:z83 T σ o.op=some (c,s))(hc:c=true)
  {v:Value} (h1:(execOp a.eval o).run P w=.ok (.value v) w):zca (zib σ o.dst s) E (a.put o.dst v) w (zls T σ o pin):=by
 have nopin:∀{σ:St} {E:Env} {a:Act} {w:World},zca σ E a w none:=λp hp=>by cases hp
 have same:∀{v'},(execOp a.eval o).run P w=.ok (.value v') w->v'=v:=λ{v'} h2=>by
  rw[h1]at h2
  injection h2 with h2
  injection h2 with h2
  exact h2.symm
 unfold zls
 split
 ·rename_i p hp
  obtain⟨_,v',k1,_,k2⟩:=zcj hT h hp hd hv hc
  obtain rfl:=same k1
  exact k2
 ·split
  ·rename_i p hg
   have hpin:=hpin hg
   split
   ·rename_i p' hp'
    obtain⟨v',k1,_,k2⟩:=zek hT h hp' hd hpin hv hc
    obtain rfl:=same k1
    exact k2
   ·cases hq:(z54 p.d o.dst&&z8i p o.dst)
    ·exact nopin
    ·simp only[Bool.and_eq_true]at hq
     intro p' hp' hlt
     injection hp' with hp'
     subst hp'
     obtain⟨⟨row,k1,k2,k3,k4,k5⟩,hE⟩:=hpin p rfl hlt
     have keep:∀z,z54 z o.dst=true->(a.put o.dst v).eval (.tmp z)=a.eval (.tmp z):=by
      intro z hz
      cases hdst:o.dst with
      | none=>rfl
      | some e =>
       have he:=hd e hdst
       rw[hdst]at hz
       show(a.tmps.setIfInBounds e v).getD z undef=a.tmps.getD z undef
       rw[z9b _ _ _ _ (by rw[h.size];exact he),if_neg]
       rintro rfl
       simp[z54]at hz
     refine⟨⟨row,⟨?_,k2,k3,k4, ?_⟩⟩,λe k he=>?_⟩
     ·cases hdst:o.dst<;>exact k1
     ·rw[keep _ hq.1]
      exact k5
     ·obtain⟨q1,g,m,c,q2,q3,q4⟩:=hE e k he
      refine⟨q1,g,m,c,by rw[keep _ hq.1];exact q2,q3, ?_⟩
      rw[keep _ (by have:=hq.2;unfold z8i at this;rw[he]at this;exact this)]
      exact q4
  ·exact nopin
def z4w(hT:TOk P T)(hΓ:GAt P w0 lab0 Γ)(hops:zel n ops=true)(hsel:Region.noSelect ops=true){Q:Exit->Act->World->Prop}(hQ:NP Q){K:St->Option ρ}{r:ρ}
  (hK:∀σ' E' a' w',K σ'=some r->R w0 lab0 oo n σ' E' a' w'->Q .normal a' w') :
  ∀(fuel:Nat) (listed:Array Bool) {pin:Option zcz} {σ:St} {E:Env} {a:Act} {w:World},z6i ops listed->R w0 lab0 oo n σ E a w->zca σ E a w pin->iAny Γ T N ops fuel listed pin σ K=some r->z6j P ops (zju Γ ops) Q fuel listed a w
 | 0,listed,pin,σ,E,a,w,hcl,h,hpin,hr=>by
  simp only[iAny]at hr
  cases hq:(Region.ready .any ops listed).isEmpty
  ·rw[hq]at hr;cases hr
  ·rw[hq]at hr
   exact⟨by simpa using hq,hK σ E a w hr h⟩
 | fuel+1,listed,pin,σ,E,a,w,hcl,h,hpin,hr=>by
  have nopin:∀{σ:St} {E:Env} {a:Act} {w:World},zca σ E a w none:=λp hp=>by cases hp
  simp only[iAny]at hr
  split at hr
  ·rename_i hre
   exact zld hre (hK σ E a w hr h) _
  ·rename_i i0 rs hre
   split at hr
   ·rename_i i hi
    obtain⟨hmem,hfs⟩:=z8p hi
    rw[<-hre]at hmem
    split at hr
    ·rename_i o ho
     obtain⟨hfree,hH⟩:Region.free .any ops listed i=true/\zju Γ ops i=false:=by
      unfold zjv at hfs
      rw[ho]at hfs
      simp only[Bool.and_eq_true,Bool.not_eq_true']at hfs
      exact⟨hfs.2.1,hfs.2.2⟩
     refine zh9 h hops ho hr (λσ' h' hsame hF hw=>?_) (λσ' h' hr' hw=>?_)
     ·unfold iStill at hF
      split at hF
      ·rename_i c s hv
       rw[zh3,zh2]at hF
       cases hso:zlh o.op s
       ·rw[hso]at hF;cases hF
       ·rw[hso]at hF
        cases c
        ·cases hF
        ·cases hpo:zdz o.op
         ·obtain⟨v,h1,h2⟩:=zmo hT h' hv rfl hso
          exact zdl hH ho hpo hsel hcl hfree hmem (λc a' w' hq=>hQ c _ _ _ hq) (.inl ⟨hw,h1⟩) (z4w hT hΓ hops hsel hQ hK fuel _ (hcl.put hmem) (h'.iput (z2x hops ho) h2) (zav hT h' (z2x hops ho) (λhg=>by have:=hsame hg;subst this;exact hpin) hv rfl (h1 w (Ext.refl w))) hF)
         ·obtain⟨v,h1,h2⟩:=zun hT h' hv rfl hpo
          exact zcd ho hsel hfree hmem (λc a' w' hq=>hQ c _ _ _ hq) (.inl ⟨hw,λw' _=>h1 w'⟩) (z4w hT hΓ hops hsel hQ hK fuel _ (hcl.put hmem) (h'.iput (z2x hops ho) h2) (zav hT h' (z2x hops ho) (λhg=>by have:=hsame hg;subst this;exact hpin) hv rfl (h1 w)) hF)
      ·cases hF
     ·cases hpo:zdz o.op
      ·exact zdl hH ho hpo hsel hcl hfree hmem (λc a' w' hq=>hQ c _ _ _ hq) (.inr ⟨hw,rfl⟩) (z4w hT hΓ hops hsel hQ hK fuel _ (hcl.put hmem) h' nopin hr')
      ·exact zcd ho hsel hfree hmem (λc a' w' hq=>hQ c _ _ _ hq) (.inr ⟨hw,rfl⟩) (z4w hT hΓ hops hsel hQ hK fuel _ (hcl.put hmem) h' nopin hr')
    ·cases hr
   ·refine⟨(λhe=>by rw[hre]at he;cases he),λi hi=>?_⟩
    rw[hre]at hi
    have hr:=zef hr i hi
    split at hr
    ·rename_i o ho
     cases hq:(zap Γ o||zf2 ops (zju Γ ops) i)
     ·rw[hq]at hr;cases hr
     ·rw[hq]at hr
      simp only[cond_true]at hr
      have hext:∀{w'},(zap Γ o=true->Ext w w')->zf2 ops (zju Γ ops) i=false->Ext w w':=λh1 h2=>h1 (by simpa[h2]using hq)
      split at hr
      ·rename_i p e k t x hput
       cases hlb:zf2 ops (zju Γ ops) i
       ·rw[hlb]at hr;cases hr
       rw[hlb]at hr
       simp only[cond_true]at hr
       unfold putOf at hput
       split at hput
       ·rename_i p' hg
        split at hput
        ·rename_i y hy
         injection hput with hput
         injection hput with q1 q2
         subst q1 q2
         refine z92 ho (by simp[Region.wanted,hg]) ?_
         exact zcn hT h hy hpin hr λσ' E' v w' hr' h'=>⟨(λhlf=>by cases hlf),z4w hT hΓ hops hsel hQ hK fuel _ (hcl.put (by rw[hre];exact hi)) h' nopin hr'⟩
        ·cases hput
       ·cases hput
      refine z8n h hops ho hr (λσ' h' hF hw=>z92 ho hw ?_) (λσ' h' hr' hw=>zie ho hw ⟨λ_=>Ext.refl w,z4w hT hΓ hops hsel hQ hK fuel _ (hcl.put (by rw[hre];exact hi)) h' nopin hr'⟩)
      exact zjt hT hΓ h' (z2x hops ho) hF λσ2 E2 v w2 hr2 h2 h3=>⟨hext h3,z4w hT hΓ hops hsel hQ hK fuel _ (hcl.put (by rw[hre];exact hi)) h2 nopin hr2⟩
    ·cases hr
def zh8(hT:TOk P T)(hΓ:GAt P w0 lab0 Γ)(hm:P.follows .mixedOrders=true)(hops:zel n ops=true){Q:Exit->Act->World->Prop}(hQ:NP Q){K:St->Option ρ}{r:ρ}{id:Nat}{draw:Bool}
  (hK:∀σ' E' a' w',K σ'=some r->R w0 lab0 oo n σ' E' a' w'->Q .normal a' w') (h:R w0 lab0 oo n σ E a w) (hr:zlv Γ T N ops draw σ K=some r):(Code.region id ops draw).wp P Q a w:=by
 unfold zlv at hr
 cases draw
 ·exact wp_region (z65 hT hΓ hops hK _ h (λp hp=>by cases hp) hr)
 ·simp only[cond_true]at hr
  cases hsel:Region.noSelect ops
  ·rw[hsel]at hr;cases hr
  ·rw[hsel]at hr
   refine wp_region_any hm (zfe _ _ _ _ (z4w hT hΓ hops hsel hQ hK _ _ z6i.none (h.ext ?_) (λp hp=>by cases hp) hr))
   exact⟨rfl,⟨rfl,λ_=>Nat.le_succ _⟩,rfl,Nat.le_refl _,λ_ _=>rfl⟩
end
end Go.Fw
namespace Go.Fw
open Go.RowKit
def z17{α:Type}:List (Nat×α)->Nat->Option α
 | [],_=>none
 | (k,v)::l,t=>cond (Nat.beq t k) (some v) (z17 l t)
structure Loc where
 bx:Bool
 k:Nat
 i:Nat
structure NilD where
 loc:Loc
 nm:Nat
 e:Nat
 t:Ty
 deep:Bool
structure z00 where
 slots:List Nat
 boxes:List Nat
 nils:List NilD
 frz:List (Loc×Nat×Ty)
 rows:List (Loc×Nat)
def zen(σ:St)(l:Loc):Option z11 :=
 cond l.bx (match σ.box l.k with
  | some (_,cs)=>cs[l.i]?
  | none=>none)
 (match σ.slot l.k with
  | .c x=>cond (Nat.beq l.i 0) (some x) none
  | .agg cs=>cs[l.i]?
  | .tup _=>none)
def setAt(σ:St)(l:Loc)(c:z11):St :=
 cond l.bx (match σ.box l.k with
  | some (te,cs)=>⟨σ.slot,upd σ.box l.k (some (te,cs.set l.i c)),σ.row⟩
  | none=>σ)
 (match σ.slot l.k with
  | .c _=>σ.put l.k (.c c)
  | .agg cs=>σ.put l.k (.agg (cs.set l.i c))
  | .tup _=>σ)
def zme(σ:St)(d:NilD):Option St:=match zen σ d.loc with
 | some .nil=>match σ.row d.nm with
  | none=>some (setAt (σ.withRow (upd σ.row d.nm (some ⟨d.e,d.t,[],d.deep,true⟩))) d.loc (.own d.nm))
  | some _=>none
 | some (.own r)=>match σ.row r with
  | some row=>match zgn row d.deep with
   | some row'=>some { σ with row:=upd σ.row r (some row') }
   | none=>some σ
  | none=>some σ
 | _=>some σ
def zoc:List NilD->St->Option St
 | [],σ=>some σ
 | d::ds,σ=>match zme σ d with
  | some σ'=>zoc ds σ'
  | none=>none
def frz1(σ:St)(d:Loc×Nat×Ty):Option St:=match zen σ d.1 with
 | some (.own r)=>absorb r none σ
 | some .nil=>some (setAt σ d.1 (.sn d.2.1 d.2.2 [] none))
 | _=>some σ
def frzs:List (Loc×Nat×Ty)->St->Option St
 | [],σ=>some σ
 | d::ds,σ=>match frz1 σ d with
  | some σ'=>frzs ds σ'
  | none=>none
def mapOf(σ:St):List (Loc×Nat)->Option (List (Nat×Nat))
 | []=>some []
 | (l,q)::ls=>match zen σ l,mapOf σ ls with
  | some (.own r),some m=>some ((r,q)::m)
  | _,_=>none
def zqj(m:List (Nat×Nat))(f:Nat->z11)(r:Nat):z11:=match z17 m r with
 | some q=>f q
 | none=>.undef
def zl7(m:List (Nat×Nat))(bs:List Nat):z11->z11
 | .own r=>zqj m .own r
 | .part r lo n=>zqj m (λq=>.part q lo n) r
 | .elt r i f=>zqj m (λq=>.elt q i f) r
 | .sn e t xs (some r)=>zqj m (λq=>.sn e t xs (some q)) r
 | .full e t xs (some r)=>zqj m (λq=>.full e t xs (some q)) r
 | .selt t x (some r) f=>zqj m (λq=>.selt t x (some q) f) r
 | .box b f=>cond (z5m b bs) (.box b f) .undef
 | .mp b=>cond (z5m b bs) (.mp b) .undef
 | .fn f caps=>cond (caps.all λp=>z5m p.1 bs) (.fn f caps) .undef
 | c=>c
def zly(q:Nat):Bool:=Nat.ble 1000000000 q
def zdx(q:Nat)(row:Row):Row:=⟨row.e,row.t,row.xs,row.deep,zly q&&row.nilE⟩
def zi2(σ:St)(f:z11->z11):List Nat->Option (List (Nat×(Nat×List z11)))
 | []=>some []
 | b::bs=>match σ.box b,zi2 σ f bs with
  | some (te,cs),some l=>some ((b,(te,cs.map f))::l)
  | _,_=>none
def zfk(σ:St):List (Nat×Nat)->Option (List (Nat×Row))
 | []=>some []
 | (r,q)::m=>match σ.row r,zfk σ m with
  | some row,some l=>some ((q,zdx q row)::l)
  | _,_=>none
def z5v(sl:List (Nat×SV))(t:Nat):SV:=match z17 sl t with
 | some s=>s
 | none=>.c .undef
def z16(sl:List (Nat×SV))(bx:List (Nat×(Nat×List z11)))(rw:List (Nat×Row)):St:=⟨z5v sl,z17 bx,z17 rw⟩
def zdr(σ:St)(f:z11->z11):List Nat->List (Nat×SV)
 | []=>[]
 | t::ts=>(t,(σ.slot t).map f)::zdr σ f ts
def zc5(cl:z00)(σ:St):Option St:=match(zoc cl.nils σ).bind (frzs cl.frz)with
 | some σ1=>match mapOf σ1 cl.rows with
  | some m=>cond (z41 (m.map (·.1))&&z41 (m.map (·.2))) (match zi2 σ1 (zl7 m cl.boxes) cl.boxes,zfk σ1 m with
   | some bx,some rw=>some (z16 (zdr σ1 (zl7 m cl.boxes) cl.slots) bx rw)
   | _,_=>none) none
  | none=>none
 | none=>none
section
variable {P : Program} {σ σ' : St} {E E' : Env} {w w' : World} {w0 : World} {lab0 : Nat → Lab} {oo : Nat → Value} {n : Nat} {a : Act} [DC]
def R.reslot(h:R w0 lab0 oo n σ E a w){t:Nat}{s:SV}(hs:∀v,z3k σ E w (σ.slot t) v->z3k σ E w s v):R w0 lab0 oo n (σ.put t s) E a w:=by
 have m:z44 σ E w (σ.put t s) E w:=z44.same rfl rfl
 refine⟨h.bound,h.size,h.defers,λt'=>?_,λb te cs hb=>?_,h.rows,h.same⟩
 ·by_cases e:t'=t
  ·subst e
   show z3k _ _ _ (upd σ.slot t' s t') _
   rw[z0n]
   exact(hs _ (h.slots t')).move m
  ·show z3k _ _ _ (upd σ.slot t s t') _
   rw[z1h _ _ e]
   exact(h.slots t').move m
 ·obtain⟨arr,h1,h2,h3,h4⟩:=h.boxes b te cs hb
  exact⟨arr,h1,h2,h3.imp λ_ _ h=>h.move m,h4⟩
def R.rebox(h:R w0 lab0 oo n σ E a w){b te:Nat}{cs cs':List z11}(hb:σ.box b=some (te,cs))(hl:cs'.length=cs.length)(hs:∀vs,z1b (z1f σ E w) cs vs->z1b (z1f σ E w) cs' vs) :
  R w0 lab0 oo n ⟨σ.slot,upd σ.box b (some (te,cs')),σ.row⟩ E a w:=by
 have m:z44 σ E w ⟨σ.slot,upd σ.box b (some (te,cs')),σ.row⟩ E w:=by
  refine⟨λr row h=>⟨row,h,rfl,rfl,Nat.le_refl _⟩,λb' te' cs0 hb'=>?_,λ_ _ _ h1 h2=>⟨h1,h2⟩,λ_ _ _ _ h=>h⟩
  by_cases e:b'=b
  ·subst e
   rw[hb]at hb'
   injection hb' with hb'
   injection hb' with e1 e2
   subst e1 e2
   exact⟨te,cs',z0n _ _ _,rfl,hl⟩
  ·exact⟨te',cs0,(z1h _ _ e).trans hb',rfl,rfl⟩
 refine⟨h.bound,h.size,h.defers,λt'=>(h.slots t').move m,λb' te' cs0 hb'=>?_,h.rows,h.same⟩
 by_cases e:b'=b
 ·subst e
  have hb':upd σ.box b' (some (te,cs')) b'=some (te',cs0):=hb'
  rw[z0n]at hb'
  injection hb' with hb'
  injection hb' with e1 e2
  subst e1 e2
  obtain⟨arr,h1,h2,h3,h4⟩:=h.boxes b' te cs hb
  exact⟨arr,h1,h2,(hs _ h3).imp λ_ _ h=>h.move m,h4⟩
 ·have hb':upd σ.box b (some (te,cs')) b'=some (te',cs0):=hb'
  rw[z1h _ _ e]at hb'
  obtain⟨arr,h1,h2,h3,h4⟩:=h.boxes b' te' cs0 hb'
  exact⟨arr,h1,h2,h3.imp λ_ _ h=>h.move m,h4⟩
def z1b.reset{Q:z11->Value->Prop}{c c':z11}(hs:∀v,Q c v->Q c' v):∀{cs:List z11} {vs:List Value} {i:Nat},cs[i]? = some c->z1b Q cs vs->z1b Q (cs.set i c') vs
 | [],_,_,h,_=>by simp at h
 | x::cs,[],_,_,h=>h.elim
 | x::cs,v::vs,0,h,h2=>by
  simp at h
  subst h
  exact⟨hs _ h2.1,h2.2⟩
 | x::cs,v::vs,i+1,h,h2=>⟨h2.1,z1b.reset hs (by simpa using h) h2.2⟩
def R.resetAt(h:R w0 lab0 oo n σ E a w){l:Loc}{c c':z11}(hc:zen σ l=some c)(hs:∀v,z1f σ E w c v->z1f σ E w c' v):R w0 lab0 oo n (setAt σ l c') E a w:=by
 obtain⟨bx,k,i⟩:=l
 unfold zen at hc
 unfold setAt
 cases bx
 ·simp only[cond_false]at hc ⊢
  split at hc
  ·rename_i x hx
   cases hi:Nat.beq i 0
   ·rw[hi]at hc;cases hc
   ·rw[hi]at hc
    injection hc with hc
    subst hc
    exact h.reslot λv hv=>by rw[hx]at hv;exact hs v hv
  ·rename_i cs hx
   refine h.reslot λv hv=>?_
   rw[hx]at hv
   obtain⟨arr,e,hv⟩:=hv
   exact⟨arr,e,hv.reset hs hc⟩
  ·cases hc
 ·simp only[cond_true]at hc ⊢
  split at hc
  ·rename_i te cs hx
   exact h.rebox hx (by simp) λvs hv=>hv.reset hs hc
  ·cases hc
def zhx(h:R w0 lab0 oo n σ E a w){d:NilD}(hr:zme σ d=some σ'):∃E',R w0 lab0 oo n σ' E' a w:=by
 unfold zme at hr
 split at hr
 ·rename_i hc
  split at hr
  ·rename_i hfree
   injection hr with hr
   subst hr
   have G:=h.nilRow (r:=d.nm) (e:=d.e) (t:=d.t) (deep:=d.deep) hfree
   refine⟨_,R.resetAt (c:=.nil) G ?_ λv hv=>?_⟩
   ·exact hc
   ·obtain rfl:v=_:=hv
    exact⟨(z0n _ _ _).symm,by show(upd σ.row d.nm _ d.nm).isSome=true;rw[z0n];rfl,none,0,0,rfl⟩
  ·cases hr
 ·split at hr
  ·rename_i row hrow
   split at hr
   ·rename_i row' hsh
    injection hr with hr
    subst hr
    exact⟨E,(h.shal hrow hsh).2.2.2⟩
   ·injection hr with hr
    subst hr
    exact⟨E,h⟩
  ·injection hr with hr
   subst hr
   exact⟨E,h⟩
 ·injection hr with hr
  subst hr
  exact⟨E,h⟩
def zcw:∀{ds:List NilD} {σ σ':St} {E:Env},R w0 lab0 oo n σ E a w->zoc ds σ=some σ'->∃E',R w0 lab0 oo n σ' E' a w
 | [],σ,σ',E,h,hr=>by
  injection hr with hr
  subst hr
  exact⟨E,h⟩
 | d::ds,σ,σ',E,h,hr=>by
  simp only[zoc]at hr
  split at hr
  ·rename_i σ1 h1
   obtain⟨E1,g1⟩:=zhx h h1
   exact zcw g1 hr
  ·cases hr
def zpj(h:R w0 lab0 oo n σ E a w){d:Loc×Nat×Ty}(hr:frz1 σ d=some σ'):∃E',R w0 lab0 oo n σ' E' a w:=by
 unfold frz1 at hr
 split at hr
 ·rename_i r hc
  obtain⟨lab',g,_⟩:=R.absorbs (p:=none) (qs:=[r]) (σ':=σ') h (by simp[Fw.absorbs,hr]) (λ_ h=>by cases h)
  exact⟨_,g⟩
 ·rename_i hc
  injection hr with hr
  subst hr
  exact⟨E,h.resetAt hc λv hv=>by
   obtain rfl:v=_:=hv
   exact⟨none,0,0,rfl,rfl,Nat.le_refl _,Nat.zero_le _,.inl rfl⟩⟩
 ·injection hr with hr
  subst hr
  exact⟨E,h⟩
def zg1:∀{ds:List (Loc×Nat×Ty)} {σ σ':St} {E:Env},R w0 lab0 oo n σ E a w->frzs ds σ=some σ'->∃E',R w0 lab0 oo n σ' E' a w
 | [],σ,σ',E,h,hr=>by
  injection hr with hr
  subst hr
  exact⟨E,h⟩
 | d::ds,σ,σ',E,h,hr=>by
  simp only[frzs]at hr
  split at hr
  ·rename_i σ1 h1
   obtain⟨E1,g1⟩:=zpj h h1
   exact zg1 g1 hr
  ·cases hr
def zfn(m:List (Nat×Nat)):Lab->Lab
 | .row r=>match z17 m r with
  | some q=>.row q
  | none=>.dead
 | .inn r=>match z17 m r with
  | some q=>.inn q
  | none=>.dead
 | l=>l
def zna{m:List (Nat×Nat)}{p p':Option Nat}(h:(p=none/\p'=none)\/∃r q,p=some r/\p'=some q/\z17 m r=some q):zfn m (z2w p)=z2w p':=by
 rcases h with⟨rfl,rfl⟩ | ⟨r,q,rfl,rfl,h⟩
 ·rfl
 ·simp[z2w,zfn,h]
def R.ren(h:R w0 lab0 oo n σ E a w){m:List (Nat×Nat)}{bs:List Nat}(hslot:∀t,σ'.slot t=(σ.slot t).map (zl7 m bs)\/σ'.slot t=.c .undef)
  (hbox:∀b te cs,σ'.box b=some (te,cs)->∃cs0,σ.box b=some (te,cs0)/\cs=cs0.map (zl7 m bs))
  (hbox':∀b te cs,z5m b bs=true->σ.box b=some (te,cs)->σ'.box b=some (te,cs.map (zl7 m bs)))
  (hrow:∀q row',σ'.row q=some row'->∃r row,z17 m r=some q/\σ.row r=some row/\row'=zdx q row)
  (hrow':∀r q row,z17 m r=some q->σ.row r=some row->σ'.row q=some (zdx q row))
  (inj:∀r r' q,z17 m r=some q->z17 m r'=some q->r=r'):∃E',R w0 lab0 oo n σ' E' a w:=by
 classical
 let E':Env:=⟨λk=>zfn m (E.lab k),λq=>if hq:∃r,z17 m r=some q then E.rv hq.choose else undef,E.bb⟩
 have hrv:∀r q,z17 m r=some q->E'.rv q=E.rv r:=by
  intro r q hq
  have hex:∃r,z17 m r=some q:=⟨r,hq⟩
  show(if hq:∃r,z17 m r=some q then E.rv hq.choose else undef)=_
  rw[dif_pos hex,inj _ _ _ hex.choose_spec hq]
 have hlab:∀k,E'.lab k=zfn m (E.lab k):=λk=>rfl
 have rd:∀{p p':Option Nat} {t:Ty} {cs:List Value} {x:t.den},((p=none/\p'=none)\/∃r q,p=some r/\p'=some q/\z17 m r=some q)->Rd w (λk=>E.lab k=z2w p) t cs x->Rd w (λk=>E'.lab k=z2w p') t cs x:=by
  intro p p' t cs x hp hr
  refine hr.mono λk hk=>?_
  rw[hlab,hk]
  exact zna hp
 have selt:∀{p p':Option Nat} {t:Ty} {x:t.den} {f:Nat} {v:Value},((p=none/\p'=none)\/∃r q,p=some r/\p'=some q/\z17 m r=some q)->z1f σ E w (.selt t x p f) v->z1f σ' E' w (.selt t x p' f) v:=by
  intro p p' t x f v hp hr
  obtain⟨ad,cs,h1,h2,h3,h4,h5⟩:=hr
  exact⟨ad,cs,h1,h2,by rw[hlab,h3];exact zna hp,rd hp h4,h5⟩
 have hc:∀c v,z1f σ E w c v->z1f σ' E' w (zl7 m bs c) v:=by
  intro c v hv
  cases c with
  | undef=>trivial
  | int _ _=>exact hv
  | bool _=>exact hv
  | str _=>exact hv
  | err _=>exact hv
  | bor v0 e t xs=>exact⟨hv.1,rd (p:=none) (p':=none) (.inl ⟨rfl,rfl⟩) hv.2⟩
  | nil=>exact hv
  | sn e t xs p =>
   cases p with
   | none=>exact rd (p:=none) (p':=none) (.inl ⟨rfl,rfl⟩) hv
   | some r =>
    simp only[zl7,zqj]
    split
    ·rename_i q hq
     exact rd (p:=some r) (p':=some q) (.inr ⟨r,q,rfl,rfl,hq⟩) hv
    ·trivial
  | full e t xs p =>
   cases p with
   | none=>exact⟨rd (p:=none) (p':=none) (.inl ⟨rfl,rfl⟩) hv.1,hv.2⟩
   | some r =>
    simp only[zl7,zqj]
    split
    ·rename_i q hq
     exact⟨rd (p:=some r) (p':=some q) (.inr ⟨r,q,rfl,rfl,hq⟩) hv.1,hv.2⟩
    ·trivial
  | own r =>
   simp only[zl7,zqj]
   split
   ·rename_i q hq
    obtain⟨rfl,h1,h2⟩:=hv
    obtain⟨row,hr⟩:=Option.isSome_iff_exists.1 h1
    exact⟨(hrv r q hq).symm,by rw[hrow' r q row hq hr];rfl,h2⟩
   ·trivial
  | part r lo n =>
   simp only[zl7,zqj]
   split
   ·rename_i q hq
    obtain⟨row,A,c,h1,h2,h3,h4,h5,h6,h7,h8⟩:=hv
    refine⟨zdx q row,A,c,hrow' r q row hq h1,h2,h3,h4,h5,h6,h7,λhn=>?_⟩
    rw[hrv r q hq]
    exact h8 hn
   ·trivial
  | box b f =>
   simp only[zl7]
   cases hb:z5m b bs
   ·trivial
   ·obtain⟨rfl,te,cs,h1,h2⟩:=hv
    exact⟨rfl,te,_,hbox' b te cs hb h1,by simpa using h2⟩
  | mp b =>
   simp only[zl7]
   cases hb:z5m b bs
   ·trivial
   ·obtain⟨rfl,te,cs,h1⟩:=hv
    exact⟨rfl,te,_,hbox' b te cs hb h1⟩
  | mset t xs=>exact hv
  | elt r i f =>
   simp only[zl7,zqj]
   split
   ·rename_i q hq
    obtain⟨row,g,n,c,h1,h2,h3,h4,h5,h6⟩:=hv
    exact⟨zdx q row,g,n,c,hrow' r q row hq h1,by rw[hrv r q hq];exact h2,h3,h4,h5,h6⟩
   ·trivial
  | selt t x p f =>
   cases p with
   | none=>exact selt (p:=none) (p':=none) (.inl ⟨rfl,rfl⟩) hv
   | some r =>
    simp only[zl7,zqj]
    split
    ·rename_i q hq
     exact selt (p:=some r) (p':=some q) (.inr ⟨r,q,rfl,rfl,hq⟩) hv
    ·trivial
  | fn f caps =>
   simp only[zl7]
   cases hb:caps.all λp=>z5m p.1 bs
   ·trivial
   ·obtain⟨rfl,hv⟩:=hv
    refine⟨rfl,λp hp=>?_⟩
    obtain⟨te,cs,h1,h2⟩:=hv p hp
    exact⟨te,_,hbox' p.1 te cs (List.all_eq_true.1 hb p hp) h1,by simpa using h2⟩
 refine⟨E',h.bound,h.size,h.defers,λt=>?_,λb te cs hb=>?_,λq row' hq=>?_, ?_⟩
 ·rcases hslot t with e | e
  ·rw[e];exact(h.slots t).mapl hc
  ·rw[e]
   show z3k σ' E' w (.c .undef) (z5b oo a t)
   exact True.intro
 ·obtain⟨cs0,h1,rfl⟩:=hbox b te cs hb
  obtain⟨arr,k1,k2,k3,k4⟩:=h.boxes b te cs0 h1
  exact⟨arr,k1,by rw[hlab,k2];rfl,k3.mapl hc,k4⟩
 ·obtain⟨r,row,h1,h2,rfl⟩:=hrow q row' hq
  obtain⟨css,k1,k2,k3,k4⟩:=h.rows r row h2
  rw[hrv r q h1]
  refine⟨css,k1,λk hk=>by rw[hlab,k2 k hk];simp[zfn,h1], ?_,λh=>k4 (Bool.and_eq_true_iff.1 h).2⟩
  show cond row.deep _ _
  cases hd:row.deep
  ·rw[hd]at k3
   exact z1b.imp (λc y hy=>Rd.mono (λk hk=>(by rw[hlab,hk];rfl)) hy) (show z1b (λc y=>Rd w (λk=>E.lab k=.st) row.t c y) css row.xs from k3)
  ·rw[hd]at k3
   obtain⟨Ls,j1,j2,j3⟩:=k3
   exact⟨Ls,j1,j2,λk hk=>by rw[hlab,j3 k hk];simp[zfn,h1]⟩
 ·refine⟨h.same.os,h.same.tape,h.same.output,h.same.size,λk hk hl=>?_,λk hk hl=>?_⟩
  ·obtain⟨g1,g2⟩:=h.same.old k hk hl
   exact⟨by rw[hlab,g1];rfl,g2⟩
  ·obtain⟨g1,g2⟩:=h.same.gone k hk hl
   exact⟨by rw[hlab,g1];rfl,g2⟩
def zc7{a b:Nat}:Nat.beq a b=true↔a=b:=⟨Nat.eq_of_beq_eq_true,λe=>by subst e;exact Nat.beq_refl a⟩
def z2v{α:Type}:∀{l:List (Nat×α)} {t:Nat} {v:α},z17 l t=some v->(t,v)∈l
 | [],_,_,h=>by cases h
 | (k,u)::l,t,v,h=>by
  simp only[z17]at h
  cases hb:Nat.beq t k
  ·rw[hb]at h
   exact List.mem_cons_of_mem _ (z2v h)
  ·rw[hb]at h
   injection h with h
   rw[<-h,zc7.1 hb]
   exact List.mem_cons_self
def zcf{f:z11->z11}(t:Nat):∀ts:List Nat,z17 (zdr σ f ts) t=some ((σ.slot t).map f)\/z17 (zdr σ f ts) t=none
 | []=>.inr rfl
 | t'::ts=>by
  simp only[zdr,z17]
  cases hb:Nat.beq t t'
  ·exact zcf t ts
  ·rw[zc7.1 hb];exact .inl rfl
def z8v{f:z11->z11}(b:Nat):∀{bs:List Nat} {l:List (Nat×(Nat×List z11))},zi2 σ f bs=some l ->
  (∀te cs,z17 l b=some (te,cs)->∃cs0,σ.box b=some (te,cs0)/\cs=cs0.map f)/\(∀te cs,z5m b bs=true->σ.box b=some (te,cs)->z17 l b=some (te,cs.map f))
 | [],l,h=>by
  injection h with h
  subst h
  exact⟨(λte cs h=>by cases h),λte cs h=>by cases h⟩
 | b'::bs,l,h=>by
  simp only[zi2]at h
  split at h
  ·rename_i te cs l' hb hl
   injection h with h
   subst h
   obtain⟨g1,g2⟩:=z8v b hl
   simp only[z17,z5m]
   cases hq:Nat.beq b b'
   ·exact⟨g1,λte cs hm=>g2 te cs (by simpa using hm)⟩
   ·obtain rfl:=zc7.1 hq
    refine⟨λte' cs' h'=>?_,λte' cs' _ h'=>?_⟩
    ·simp only[cond_true,Option.some.injEq,Prod.mk.injEq]at h'
     obtain⟨rfl,rfl⟩:=h'
     exact⟨cs,hb,rfl⟩
    ·rw[hb]at h'
     injection h' with h'
     injection h' with e1 e2
     rw[e1,e2]
     rfl
  ·cases h
def zdt(q:Nat):∀{m:List (Nat×Nat)} {l:List (Nat×Row)},zfk σ m=some l->∀row',z17 l q=some row'->∃r row,(r,q)∈m/\σ.row r=some row/\row'=zdx q row
 | [],l,h,row',h'=>by
  injection h with h
  subst h
  cases h'
 | (r,q')::m,l,h,row',h'=>by
  simp only[zfk]at h
  split at h
  ·rename_i row l' hr hl
   injection h with h
   subst h
   simp only[z17]at h'
   cases hb:Nat.beq q q'
   ·rw[hb]at h'
    obtain⟨r',row2,k1,k2,k3⟩:=zdt q hl row' h'
    exact⟨r',row2,List.mem_cons_of_mem _ k1,k2,k3⟩
   ·rw[hb]at h'
    injection h' with h'
    obtain rfl:=zc7.1 hb
    exact⟨r,row,List.mem_cons_self,hr,h'.symm⟩
  ·cases h
def zfj{r q:Nat}{row:Row}(hrow:σ.row r=some row):∀{m:List (Nat×Nat)} {l:List (Nat×Row)},zfk σ m=some l->(m.map (·.2)).Nodup->(r,q)∈m->z17 l q=some (zdx q row)
 | [],l,h,_,hm=>by cases hm
 | (r',q')::m,l,h,hn,hm=>by
  simp only[zfk]at h
  split at h
  ·rename_i row' l' hr hl
   injection h with h
   subst h
   simp only[z17]
   simp only[List.map_cons,List.nodup_cons]at hn
   rcases List.mem_cons.1 hm with e | hm
   ·injection e with e1 e2
    subst e1 e2
    rw[hr]at hrow
    injection hrow with hrow
    rw[Nat.beq_refl,hrow]
    rfl
   ·have hne:Nat.beq q q'=false:=by
     cases hb:Nat.beq q q'
     ·rfl
     ·exact absurd (List.mem_map.2 ⟨(r,q),hm,zc7.1 hb⟩) hn.1
    rw[hne]
    exact zfj hrow hl hn.2 hm
  ·cases h
def zrh{m:List (Nat×Nat)}(h:(m.map (·.2)).Nodup){r r' q:Nat}(h1:(r,q)∈m)(h2:(r',q)∈m):r=r':=by
 induction m with
 | nil=>cases h1
 | cons p m ih =>
  simp only[List.map_cons,List.nodup_cons]at h
  rcases List.mem_cons.1 h1 with e | h1
  ·rcases List.mem_cons.1 h2 with e' | h2
   ·rw[<-e]at e'
    injection e' with e' _
    exact e'.symm
   ·exact absurd (List.mem_map.2 ⟨_,h2,by rw[<-e]⟩) h.1
  ·rcases List.mem_cons.1 h2 with e' | h2
   ·exact absurd (List.mem_map.2 ⟨_,h1,by rw[<-e']⟩) h.1
   ·exact ih h.2 h1 h2
def lookL_ex{m:List (Nat×Nat)}{r q:Nat}(h:(r,q)∈m)(hn:(m.map (·.1)).Nodup):z17 m r=some q:=by
 induction m with
 | nil=>cases h
 | cons p m ih =>
  obtain⟨k,u⟩:=p
  simp only[List.map_cons,List.nodup_cons]at hn
  simp only[z17]
  rcases List.mem_cons.1 h with e | h
  ·injection e with e1 e2
   subst e1 e2
   rw[Nat.beq_refl];rfl
  ·cases hb:Nat.beq r k
   ·exact ih h hn.2
   ·exact absurd (List.mem_map.2 ⟨_,h,zc7.1 hb⟩) hn.1
def zad(h:R w0 lab0 oo n σ E a w){cl:z00}(hr:zc5 cl σ=some σ'):∃E',R w0 lab0 oo n σ' E' a w:=by
 unfold zc5 at hr
 split at hr
 ·rename_i σ1 h1
  obtain⟨σ2,h1,h2⟩:=Option.bind_eq_some_iff.1 h1
  obtain⟨E2,G2⟩:=zcw h h1
  obtain⟨E1,G⟩:=zg1 G2 h2
  split at hr
  ·rename_i m hm
   cases hq:(z41 (m.map (·.1))&&z41 (m.map (·.2)))
   ·rw[hq]at hr;cases hr
   ·rw[hq]at hr
    simp only[Bool.and_eq_true]at hq
    simp only[cond_true]at hr
    have n1:=z30 hq.1
    have n2:=z30 hq.2
    split at hr
    ·rename_i bx rw' hbx hrw
     injection hr with hr
     subst hr
     refine G.ren (m:=m) (bs:=cl.boxes) (λt=>?_) (λb te cs hb=>?_) (λb te cs hm hb=>?_) (λq row' hq=>?_) (λr q row hl hrow=>?_) (λr r' q hl hl'=>?_)
     ·show z5v _ t=_\/z5v _ t=_
      unfold z5v
      rcases zcf (σ:=σ1) (f:=zl7 m cl.boxes) t cl.slots with e | e
      ·rw[e];exact .inl rfl
      ·rw[e];exact .inr rfl
     ·exact(z8v b hbx).1 te cs hb
     ·exact(z8v b hbx).2 te cs hm hb
     ·obtain⟨r,row,k1,k2,k3⟩:=zdt q hrw row' hq
      exact⟨r,row,lookL_ex k1 n1,k2,k3⟩
     ·exact zfj hrow hrw n2 (z2v hl)
     ·exact zrh n2 (z2v hl) (z2v hl')
    ·cases hr
  ·cases hr
 ·cases hr
end
end Go.Fw
namespace Go.Fw
open Go.RowKit
inductive Ex where
 | nrm
 | exit (id:Nat)
 | ret
def exOf:Ex->Exit
 | .nrm=>.normal
 | .exit id=>.exit id
 | .ret=>.ret
inductive z9p where
 | n
 | mk (join:Option z00) (lp:Option z00) (a b:z9p)
def z9p.fst:z9p->z9p
 | .n=>.n
 | .mk _ _ a _=>a
def z9p.snd:z9p->z9p
 | .n=>.n
 | .mk _ _ _ b=>b
def z9p.join:z9p->Option z00
 | .n=>none
 | .mk j _ _ _=>j
def z9p.lp:z9p->Option z00
 | .n=>none
 | .mk _ l _ _=>l
def zod:Option z00->St->Option St
 | none,σ=>some σ
 | some cl,σ=>zc5 cl σ
def pro1C(σ:St)(l:Loc):Bool:=match zen σ l with
 | some (.own r)=>match σ.row r with
  | some row=>row.nilE||Nat.blt 0 row.xs.length
  | none=>true
 | _=>true
def pro1(σ:St)(l:Loc):St:=match zen σ l with
 | some (.own r)=>match σ.row r with
  | some row=>⟨σ.slot,σ.box,upd σ.row r (some ⟨row.e,row.t,row.xs,row.deep,true⟩)⟩
  | none=>σ
 | _=>σ
def rowsC:Option z00->List (Loc×Nat)
 | none=>[]
 | some cl=>cl.rows
section
variable {ρ : Type}
def proK(F:St->Option ρ):List (Loc×Nat)->St->Option ρ
 | [],σ=>F σ
 | (l,q)::ls,σ=>cond (zly q) (cond (pro1C σ l) (proK F ls (pro1 σ l)) none) (proK F ls σ)
abbrev z14(j:Option z00)(K:Ex->St->Option ρ):Ex->St->Option ρ
 | .nrm,σ=>(zod j σ).bind (K .nrm)
 | .exit i,σ=>K (.exit i) σ
 | .ret,σ=>K .ret σ
abbrev z84(F:St->Option ρ)(K:Ex->St->Option ρ):Ex->St->Option ρ
 | .nrm,σ=>F σ
 | .exit i,σ=>K (.exit i) σ
 | .ret,σ=>K .ret σ
abbrev zky(id:Nat)(K:Ex->St->Option ρ):Ex->St->Option ρ
 | .nrm,σ=>K .nrm σ
 | .exit i,σ=>cond (Nat.beq i id) (K .nrm σ) (K (.exit i) σ)
 | .ret,σ=>K .ret σ
def z3o(f:St->(Ex->St->Option ρ)->Option ρ)(cl:z00):Nat->St->(Ex->St->Option ρ)->Option ρ
 | 0,_,_=>none
 | N+1,σ,K=>f σ (z14 (some cl) (z84 (λσ''=>z3o f cl N σ'' K) K))
noncomputable def z0p(Γ:Gm)(T:Tab)(B:Nat->Option z00)(N:Nat):Code->z9p->St->(Ex->St->Option ρ)->Option ρ
 | .skip,_,σ,K=>K .nrm σ
 | .label _,_,σ,K=>K .nrm σ
 | .region _ ops draw,_,σ,K=>zlv Γ T N ops draw σ (K .nrm)
 | .seq a b,pl,σ,K=>z0p Γ T B N a pl.fst σ (z14 pl.join (z84 (λσ'=>z0p Γ T B N b pl.snd σ' K) K))
 | .cond c a b,pl,σ,K=>match ev σ c with
  | .c (.bool t)=>cond t (z0p Γ T B N a pl.fst σ K) (z0p Γ T B N b pl.snd σ K)
  | _=>none
 | .block id c,pl,σ,K=>z0p Γ T B N c pl.fst σ (z14 pl.join (zky id K))
 | .loop c,pl,σ,K=>match pl.lp with
  | some cl=>match pl.join with
   | none=>(zc5 cl σ).bind λσ0=>z3o (λσ K=>z0p Γ T B N c pl.fst σ K) cl N σ0 K
   | some cl1=>(zc5 cl1 σ).bind λσ0=>z0p Γ T B N c pl.snd σ0 (z14 (some cl) (z84 (λσ''=>z3o (λσ K=>z0p Γ T B N c pl.fst σ K) cl N σ'' K) K))
  | none=>none
 | .exit id,_,σ,K=>(zod (B id) σ).bind (K (.exit id))
 | .ret,_,σ,K=>proK (λσ=>(zod (B 1000000) σ).bind (K .ret)) (rowsC (B 1000000)) σ
 | _,_,_,_=>none
end
def z57(n:Nat):Code->Bool
 | .region _ ops _=>zel n ops
 | .seq a b=>z57 n a&&z57 n b
 | .cond _ a b=>z57 n a&&z57 n b
 | .block _ c=>z57 n c
 | .loop c=>z57 n c
 | _=>true
section
variable {P : Program} {σ σ' : St} {E E' : Env} {w w' : World} {w0 : World} {lab0 : Nat → Lab} {oo : Nat → Value} {n : Nat} {a : Act} {T : Tab} {Γ : Gm} {ρ : Type} {B : Nat → Option z00} {N : Nat} [DC]
def least{p:Nat->Prop}(h:∃n,p n):∃n,p n/\∀m,p m->n<=m:=by
 classical
 obtain⟨n,hn⟩:=h
 induction n using Nat.strongRecOn with
 | _ n ih =>
  by_cases hex:∃m,m<n/\p m
  ·obtain⟨m,h1,h2⟩:=hex
   exact ih m h1 h2
  ·exact⟨n,hn,λm hm=>Nat.le_of_not_lt λhlt=>hex ⟨m,hlt,hm⟩⟩
noncomputable def z6c{p:Nat->Prop}(h:∃n,p n):Nat:=(least h).choose
def zjn{p:Nat->Prop}(h:∃n,p n):p (z6c h):=(least h).choose_spec.1
def zpc{p:Nat->Prop}(h:∃n,p n){m:Nat}(hm:p m):z6c h<=m:=(least h).choose_spec.2 m hm
def z8s(h:R w0 lab0 oo n σ E a w){cl:Option z00}(hr:zod cl σ=some σ'):∃E',R w0 lab0 oo n σ' E' a w:=by
 cases cl with
 | none =>
  injection hr with hr
  subst hr
  exact⟨E,h⟩
 | some cl=>exact zad h hr
def zp4(h:R w0 lab0 oo n σ E a w){l:Loc}(hc:pro1C σ l=true):R w0 lab0 oo n (pro1 σ l) E a w:=by
 have key:∀r row,σ.row r=some row->(row.nilE||Nat.blt 0 row.xs.length)=true->R w0 lab0 oo n ⟨σ.slot,σ.box,upd σ.row r (some ⟨row.e,row.t,row.xs,row.deep,true⟩)⟩ E a w:=by
  intro r row hrow' hc
  have m:z44 σ E w ⟨σ.slot,σ.box,upd σ.row r (some ⟨row.e,row.t,row.xs,row.deep,true⟩)⟩ E w:=by
   refine⟨λr' row1 h1=>?_,λb te cs hb=>⟨te,cs,hb,rfl,rfl⟩,λ_ _ _ h1 h2=>⟨h1,h2⟩,λ_ _ _ _ h=>h⟩
   by_cases e:r'=r
   ·subst e
    rw[hrow']at h1
    injection h1 with h1
    subst h1
    exact⟨_,z0n _ _ _,rfl,rfl,Nat.le_refl _⟩
   ·exact⟨row1,(z1h _ _ e).trans h1,rfl,rfl,Nat.le_refl _⟩
  refine⟨h.bound,h.size,h.defers,λt=>(h.slots t).move m,λb te cs hb=>?_,λr' row1 h1=>?_,h.same⟩
  ·obtain⟨arr,h1,h2,h3,h4⟩:=h.boxes b te cs hb
   exact⟨arr,h1,h2,h3.imp λ_ _ h=>h.move m,h4⟩
  ·by_cases e:r'=r
   ·subst e
    have h1':upd σ.row r' (some ⟨row.e,row.t,row.xs,row.deep,true⟩) r'=some row1:=h1
    rw[z0n]at h1'
    injection h1' with h1'
    subst h1'
    obtain⟨css,k1,k2,k3,k4⟩:=h.rows r' row hrow'
    refine⟨css,k1,k2,k3,λ_ hl=>?_⟩
    have hl':row.xs.length=0:=hl
    cases hn:row.nilE
    ·rw[hn,hl']at hc
     cases hc
    ·exact k4 hn hl'
   ·have h1':upd σ.row r (some ⟨row.e,row.t,row.xs,row.deep,true⟩) r'=some row1:=h1
    rw[z1h _ _ e]at h1'
    exact h.rows r' row1 h1'
 unfold pro1
 split
 ·rename_i r hr
  split
  ·rename_i row hrow
   refine key r row hrow ?_
   unfold pro1C at hc
   rw[hr]at hc
   simp only[hrow]at hc
   exact hc
  ·exact h
 ·exact h
def zbd{F:St->Option ρ}{r:ρ}:∀{ls:List (Loc×Nat)} {σ:St} {E:Env},R w0 lab0 oo n σ E a w->proK F ls σ=some r->∃σ',R w0 lab0 oo n σ' E a w/\F σ'=some r
 | [],σ,E,h,hr=>⟨σ,h,hr⟩
 | (l,q)::ls,σ,E,h,hr=>by
  simp only[proK]at hr
  cases hq:zly q
  ·rw[hq]at hr
   exact zbd h hr
  ·rw[hq]at hr
   cases hc:pro1C σ l
   ·rw[hc]at hr;cases hr
   ·rw[hc]at hr
    exact zbd (zp4 h hc) hr
def NP.then{Q:Exit->Act->World->Prop}(h:NP Q)(next:Act->World->Prop):NP (Exit.then next Q):=λc a a' w hq=>h c a a' w hq
def NP.block{Q:Exit->Act->World->Prop}(h:NP Q)(id:Nat):NP (Exit.inBlock id Q):=λc a a' w hq=>h c a a' w hq
def zcb(w0:World)(lab0:Nat->Lab)(oo:Nat->Value)(n:Nat)(K:Ex->St->Option ρ)(r:ρ)(Q:Exit->Act->World->Prop):Prop :=
 ∀e σ' E' a' w',K e σ'=some r->R w0 lab0 oo n σ' E' a' w'->Q (exOf e) a' w'
def zcb.join{K:Ex->St->Option ρ}{r:ρ}{Q:Exit->Act->World->Prop}(h:zcb w0 lab0 oo n K r Q)(j:Option z00):zcb w0 lab0 oo n (z14 j K) r Q:=by
 intro e σ' E' a' w' hr hR
 cases e with
 | nrm =>
  obtain⟨σ2,h1,h2⟩:=Option.bind_eq_some_iff.1 hr
  obtain⟨E2,g⟩:=z8s hR h1
  exact h .nrm σ2 E2 a' w' h2 g
 | exit i=>exact h (.exit i) σ' E' a' w' hr hR
 | ret=>exact h .ret σ' E' a' w' hr hR
def z35(hT:TOk P T)(hΓ:GAt P w0 lab0 Γ)(hm:P.follows .mixedOrders=true):∀(c:Code) (pl:z9p) {σ:St} {E:Env} {a:Act} {w:World} {K:Ex->St->Option ρ} {r:ρ} {Q:Exit->Act->World->Prop},
  z57 n c=true->R w0 lab0 oo n σ E a w->z0p Γ T B N c pl σ K=some r->NP Q->zcb w0 lab0 oo n K r Q->c.wp P Q a w
 | .skip,pl,σ,E,a,w,K,r,Q,_,h,hr,_,hK=>wp_skip (hK .nrm σ E a w hr h)
 | .label l,pl,σ,E,a,w,K,r,Q,_,h,hr,_,hK=>wp_label (hK .nrm σ E a w hr h)
 | .region id ops draw,pl,σ,E,a,w,K,r,Q,hc,h,hr,hQ,hK=>zh8 hT hΓ hm hc hQ (λσ' E' a' w' hr' h'=>hK .nrm σ' E' a' w' hr' h') h hr
 | .seq x y,pl,σ,E,a,w,K,r,Q,hc,h,hr,hQ,hK=>by
  simp only[z57,Bool.and_eq_true]at hc
  refine wp_seq (z35 hT hΓ hm x pl.fst hc.1 h hr (hQ.then _) (zcb.join ?_ _))
  intro e σ' E' a' w' hr' h'
  cases e with
  | nrm=>exact z35 hT hΓ hm y pl.snd hc.2 h' hr' hQ hK
  | exit i=>exact hK (.exit i) σ' E' a' w' hr' h'
  | ret=>exact hK .ret σ' E' a' w' hr' h'
 | .cond c x y,pl,σ,E,a,w,K,r,Q,hc,h,hr,hQ,hK=>by
  simp only[z57,Bool.and_eq_true]at hc
  simp only[z0p]at hr
  split at hr
  ·rename_i t ht
   have hv:=z1e h c
   rw[ht]at hv
   cases t
   ·exact wp_cond_false hv (z35 hT hΓ hm y pl.snd hc.2 h hr hQ hK)
   ·exact wp_cond_true hv (z35 hT hΓ hm x pl.fst hc.1 h hr hQ hK)
  ·cases hr
 | .block id c,pl,σ,E,a,w,K,r,Q,hc,h,hr,hQ,hK=>by
  refine wp_block (z35 hT hΓ hm c pl.fst hc h hr (hQ.block id) (zcb.join ?_ _))
  intro e σ' E' a' w' hr' h'
  cases e with
  | nrm=>exact hK .nrm σ' E' a' w' hr' h'
  | exit i =>
   show if i=id then Q .normal a' w' else Q (.exit i) a' w'
   simp only[zky]at hr'
   cases hb:Nat.beq i id
   ·rw[hb]at hr'
    rw[if_neg λe=>by subst e;rw[Nat.beq_refl]at hb;cases hb]
    exact hK (.exit i) σ' E' a' w' hr' h'
   ·rw[hb]at hr'
    rw[if_pos (Nat.eq_of_beq_eq_true hb)]
    exact hK .nrm σ' E' a' w' hr' h'
  | ret=>exact hK .ret σ' E' a' w' hr' h'
 | .loop c,pl,σ,E,a,w,K,r,Q,hc,h,hr,hQ,hK=>by
  simp only[z0p]at hr
  split at hr
  ·rename_i cl hcl
   classical
   let F:Nat->St->Option ρ:=λM σ=>z3o (λσ K=>z0p Γ T B N c pl.fst σ K) cl M σ K
   let At:Nat->Act->World->Prop:=λM a w=>(∃σ E,R w0 lab0 oo n σ E a w/\F M σ=some r) \/
    (M=N+1/\∃σ E,R w0 lab0 oo n σ E a w/\z0p Γ T B N c pl.snd σ (z14 (some cl) (z84 (F N) K))=some r)
   have hstart:∃M,At M a w:=by
    split at hr
    ·obtain⟨σ0,h1,h2⟩:=Option.bind_eq_some_iff.1 hr
     obtain⟨E0,g⟩:=zad h h1
     exact⟨N,.inl ⟨σ0,E0,g,h2⟩⟩
    ·obtain⟨σ0,h1,h2⟩:=Option.bind_eq_some_iff.1 hr
     obtain⟨E0,g⟩:=zad h h1
     exact⟨N+1,.inr ⟨rfl,σ0,E0,g,h2⟩⟩
   refine wp_loop (I:=λa w=>∃M,At M a w) (μ:=λa w=>if hex:∃M,At M a w then z6c hex else 0) hstart ?_
   intro a w hI
   have hμ:(if hex:∃M,At M a w then z6c hex else 0)=z6c hI:=dif_pos hI
   simp only[hμ]
   have next:∀M σ' E' a' w',M<z6c hI->F M σ'=some r->R w0 lab0 oo n σ' E' a' w'->(∃M,At M a' w')/\(if hex:∃M,At M a' w' then z6c hex else 0)<z6c hI:=by
    intro M σ' E' a' w' hM hr' h'
    have hA:At M a' w':=.inl ⟨σ',E',h',hr'⟩
    refine⟨⟨M,hA⟩, ?_⟩
    have hμ':(if hex:∃M,At M a' w' then z6c hex else 0)=z6c (⟨M,hA⟩:∃M,At M a' w'):=dif_pos ⟨M,hA⟩
    rw[hμ']
    have:=zpc (⟨M,hA⟩:∃M,At M a' w') hA
    omega
   rcases zjn hI with⟨σ1,E1,g1,hr1⟩ | ⟨hM,σ1,E1,g1,hr1⟩
   ·generalize hM:z6c hI=M at hr1 next
    cases M with
    | zero=>cases hr1
    | succ M =>
     simp only[F,z3o]at hr1
     refine z35 hT hΓ hm c pl.fst hc g1 hr1 (hQ.then _) (zcb.join ?_ _)
     intro e σ' E' a' w' hr' h'
     cases e with
     | nrm=>exact next M σ' E' a' w' (Nat.lt_succ_self M) hr' h'
     | exit i=>exact hK (.exit i) σ' E' a' w' hr' h'
     | ret=>exact hK .ret σ' E' a' w' hr' h'
   ·refine z35 hT hΓ hm c pl.snd hc g1 hr1 (hQ.then _) (zcb.join ?_ _)
    intro e σ' E' a' w' hr' h'
    cases e with
    | nrm=>exact next N σ' E' a' w' (by omega) hr' h'
    | exit i=>exact hK (.exit i) σ' E' a' w' hr' h'
    | ret=>exact hK .ret σ' E' a' w' hr' h'
  ·cases hr
 | .exit id,pl,σ,E,a,w,K,r,Q,_,h,hr,_,hK=>by
  obtain⟨σ2,h1,h2⟩:=Option.bind_eq_some_iff.1 hr
  obtain⟨E2,g⟩:=z8s h h1
  exact wp_exit (hK (.exit id) σ2 E2 a w h2 g)
 | .ret,pl,σ,E,a,w,K,r,Q,_,h,hr,_,hK=>by
  obtain⟨σ1,h,hr⟩:=zbd h hr
  obtain⟨σ2,h1,h2⟩:=Option.bind_eq_some_iff.1 hr
  obtain⟨E2,g⟩:=z8s h h1
  exact wp_ret (hK .ret σ2 E2 a w h2 g)
 | .rangeFunc _ _ _ _,_,_,_,_,_,_,_,_,_,_,hr,_,_=>by cases hr
 | .scope _,_,_,_,_,_,_,_,_,_,_,hr,_,_=>by cases hr
 | .goto _,_,_,_,_,_,_,_,_,_,_,hr,_,_=>by cases hr
 | .refuse _,_,_,_,_,_,_,_,_,_,_,hr,_,_=>by cases hr
end
end Go.Fw
namespace Go.Fw
open Go.RowKit
def mkSV(agg:Bool)(cs:List z11):SV:=match agg,cs with
 | true,cs=>.agg cs
 | false,[c]=>.c c
 | false,_=>.c .undef
def za7:(ps:List PT)->Dat ps->Nat->List (Nat×SV)×List (Nat×Row)
 | [],_,_=>([],[])
 | ⟨t,agg,io⟩::ps,X,i=>match io with
  | false=>((i,mkSV agg (z4c t X.1 none))::(za7 ps X.2 (i+1)).1,(za7 ps X.2 (i+1)).2)
  | true=>match z1m (100000+i) t X.1 0 with
   | (cs,rows,_)=>((i,mkSV agg cs)::(100000+i,mkSV agg cs)::(za7 ps X.2 (i+1)).1,rows)
def z1k(ps:List PT)(X:Dat ps):St:=z16 (za7 ps X 0).1 [] (za7 ps X 0).2
def z9j(T:Tab)(σ:St):List ResultVar->Option (List SV)
 | []=>some []
 | .tmp t::rs=>match z9j T σ rs with
  | some l=>some (ev σ (.tmp t)::l)
  | none=>none
 | .cell x ty::rs=>match ev σ (.tmp x),T ty,z9j T σ rs with
  | .c c,some i,some l=>match zl2 σ c i.agg i.zero.length with
   | some s=>some (s::l)
   | none=>none
  | _,_,_=>none
def zbi(look:Nat->Option Row):(rs:List PT)->List SV->Option (Dat rs)
 | [],[]=>some ()
 | p::ps,s::ss=>match z4z p.agg s with
  | some cs=>z6u (z5w look p.t cs) (zbi look ps ss)
  | none=>none
 | [],_::_=>none
 | _::_,[]=>none
def z4m:List PT->List SV->List z11
 | p::ps,s::ss=>(match z4z p.agg s with | some cs=>cs | none=>[])++z4m ps ss
 | _,_=>[]
def zs3(σ:St):(ps:List PT)->Nat->Option (IoT ps)
 | [],_=>some ()
 | ⟨t,agg,false⟩::ps,i=>zs3 σ ps (i+1)
 | ⟨t,agg,true⟩::ps,i=>match z4z agg (σ.slot (100000+i))with
  | some cs=>z5w σ.row t cs
  | none=>none
def zeb(σ:St):(ps:List PT)->Nat->List z11
 | [],_=>[]
 | ⟨t,agg,false⟩::ps,i=>zeb σ ps (i+1)
 | ⟨t,agg,true⟩::ps,i=>match z4z agg (σ.slot (100000+i))with
  | some cs=>cs
  | none=>[]
def nilC(look:Nat->Option Row):List z11->Bool
 | [.nil]=>true
 | [.own r]=>match look r with
  | some row=>row.nilE||Nat.blt 0 row.xs.length
  | none=>false
 | _=>false
def zqk{α:Type}(look:Nat->Option Row):List PT->List SV->Option α->Option α
 | p::ps,s::ss,X=>cond p.io (match z4z p.agg s with
  | some cs=>cond (nilC look cs) (zqk look ps ss X) none
  | none=>none) (zqk look ps ss X)
 | [],_,X=>X
 | _::_,[],X=>X
def zrk(look:Nat->Option Row):List PT->List SV->Prop
 | p::ps,s::ss=>(p.io=true->∀cs,z4z p.agg s=some cs->nilC look cs=true)/\zrk look ps ss
 | [],_=>True
 | _::_,[]=>True
def z8k{α:Type}{look:Nat->Option Row}{r:α}:∀{rs:List PT} {ss:List SV} {X:Option α},zqk look rs ss X=some r->zrk look rs ss/\X=some r
 | [],_,_,h=>⟨trivial,h⟩
 | _::_,[],_,h=>⟨trivial,h⟩
 | p::ps,s::ss,X,h=>by
  simp only[zqk]at h
  cases hio:p.io
  ·rw[hio]at h
   obtain⟨h1,h2⟩:=z8k (show zqk look ps ss X=some r from h)
   exact⟨⟨(λhq=>by rw[hio]at hq;cases hq),h1⟩,h2⟩
  ·rw[hio]at h
   simp only[cond_true]at h
   split at h
   ·rename_i cs hcs
    cases hq:nilC look cs
    ·rw[hq]at h;cases h
    rw[hq]at h
    obtain⟨h1,h2⟩:=z8k (show zqk look ps ss X=some r from h)
    exact⟨⟨λ_ cs' hcs'=>by rw[hcs]at hcs';injection hcs' with hcs';subst hcs';exact hq,h1⟩,h2⟩
   ·cases h
def znv(T:Tab)(sig:Sig)(rv:List ResultVar)(σ:St):Option (IoT sig.ps×Dat sig.rs) :=
 match z9j T σ rv with
 | some ss=>cond (z41 (z0v (z4m sig.rs ss++zeb σ sig.ps 0))) (zqk σ.row sig.rs ss (z6u (zs3 σ sig.ps 0) (zbi σ.row sig.rs ss))) none
 | none=>none
def finK(T:Tab)(sig:Sig)(rv:List ResultVar):Ex->St->Option (IoT sig.ps×Dat sig.rs)
 | .nrm,σ=>znv T sig rv σ
 | .ret,σ=>znv T sig rv σ
 | .exit _,_=>none
section
variable {P : Program} {σ σ' : St} {E E' : Env} {w w' : World} {w0 : World} {lab0 : Nat → Lab} {oo : Nat → Value} {n : Nat} {a : Act} {T : Tab} {Γ : Gm} {B : Nat → Option z00} {N : Nat} [DC]
def zaw{agg:Bool}{cs:List z11}{us:List Value}{v:Value}(hc:z4r agg v us)(h:z1b (z1f σ E w) cs us):z3k σ E w (mkSV agg cs) v:=by
 cases agg
 ·obtain rfl:us=[v]:=hc
  cases cs with
  | nil=>exact True.intro
  | cons c cs=>cases cs with
   | nil=>exact h.1
   | cons _ _=>exact True.intro
 ·obtain⟨arr,rfl,rfl⟩:=hc
  exact⟨arr,rfl,h⟩
def z8l{α:Type}:∀{l l':List (Nat×α)} {t:Nat},z17 (l++l') t=match z17 l t with | some v=>some v | none=>z17 l' t
 | [],_,_=>rfl
 | (k,v)::l,l',t=>by
  simp only[List.cons_append,z17]
  cases Nat.beq t k
  ·exact z8l
  ·rfl
def zbr(d:Nat)(t:Ty):∀(y:t.den) (j:Nat),∀p∈(z1m d t y j).2.1,z17 (z1m d t y j).2.1 p.1=some p.2:=by
 induction t with
 | int k=>intro y j p hp;simp[z1m]at hp
 | bool=>intro y j p hp;simp[z1m]at hp
 | fnc g=>intro y j p hp;simp[z1m]at hp
 | str=>intro y j p hp;simp[z1m]at hp
 | err=>intro y j p hp;simp[z1m]at hp
 | sl e t _ =>
  intro y j p hp
  simp only[z1m,List.mem_singleton]at hp
  subst hp
  simp[z1m,z17]
 | pair t1 t2 ih1 ih2 =>
  intro y j p hp
  simp only[z1m,List.mem_append]at hp ⊢
  rw[z8l]
  rcases hp with hp | hp
  ·rw[ih1 _ _ p hp]
  ·cases hl:z17 (z1m d t1 y.1 j).2.1 p.1 with
   | none=>exact ih2 _ _ p hp
   | some v =>
    have h1:=(z3b d).2 _ (z2v hl)
    have h2:=(z3b d).2 p hp
    obtain⟨i1,_,a1,b1⟩:=h1
    obtain⟨i2,a2,_,b2⟩:=h2
    have:=z4o (b1.symm.trans b2)
    exact absurd (Nat.lt_of_lt_of_le a1 a2) (by rw[this];exact Nat.lt_irrefl _)
def start_ok{L:List Nat}:∀{ps:List PT} {vs:List Value} {X:Dat ps} {i:Nat},z4l w L ps vs X->(z7d ps=true->L=[])->z6a ps=true->L.Nodup ->
  ∃(f:Nat->Lab) (rvf:Nat->Value),(∀k∈L,f k≠.st) /\
   ∀(σ:St) (E:Env),(∀k,k∈L->E.lab k=f k)->(∀k,k∉L->E.lab k=.st)->E.rv=rvf->(∀r row,z17 (za7 ps X i).2 r=some row->σ.row r=some row) ->
    (∀p∈(za7 ps X i).1,∃j v,vs[j]? = some v/\(p.1=i+j\/p.1=100000+(i+j))/\z3k σ E w p.2 v) /\
    (∀r row,z17 (za7 ps X i).2 r=some row->z2k w E.lab r row (E.rv r)):=by
 intro ps
 have ro:∀{p:PT} {v:Value} {x:p.t.den} {σ:St} {E:Env},(∃cs,z4r p.agg v cs/\Rd w (λk=>k∉L) p.t cs x)->(∀k,k∉L->E.lab k=.st)->z3k σ E w (mkSV p.agg (z4c p.t x none)) v:=by
  rintro p v x σ E ⟨cs,h1,h2⟩ hl
  exact zaw h1 (z5c (p:=none) (h2.mono λk hk=>hl k hk))
 have ros:∀{ps:List PT} {vs:List Value} {X:Dat ps} {i:Nat},z7d ps=true->z4l w L ps vs X->(za7 ps X i).2=[]/\∀(σ:St) (E:Env),(∀k,k∉L->E.lab k=.st)->∀p∈(za7 ps X i).1,∃j v,vs[j]? = some v/\(p.1=i+j\/p.1=100000+(i+j))/\z3k σ E w p.2 v:=by
  intro ps
  induction ps with
  | nil=>intro vs X i _ _;exact⟨rfl,λσ E _ p hp=>by simp[za7]at hp⟩
  | cons p ps ih =>
   intro vs X i hn ha
   cases vs with
   | nil=>exact ha.elim
   | cons v vs =>
    obtain⟨t,agg,io⟩:=p
    simp only[z7d,List.all_cons,Bool.and_eq_true,Bool.not_eq_true']at hn
    obtain⟨hio,hn⟩:=hn
    subst hio
    obtain⟨h1,h2⟩:=ha
    obtain⟨g1,g2⟩:=ih (i:=i+1) hn h2
    refine⟨g1,λσ E hl p hp=>?_⟩
    rcases List.mem_cons.1 hp with rfl | hp
    ·exact⟨0,v,rfl,.inl rfl,ro (p:=⟨t,agg,false⟩) h1 hl⟩
    ·obtain⟨j,v',k1,k2,k3⟩:=g2 σ E hl p hp
     exact⟨j+1,v',(by simpa using k1),k2.elim (λe=>.inl (by omega)) (λe=>.inr (by omega)),k3⟩
 induction ps with
 | nil =>
  intro vs X i ha hn ho hL
  have hL0:=hn rfl
  subst hL0
  refine⟨λ_=>.dead,λ_=>undef,(λk hk=>by cases hk),λσ E _ _ _ _=>⟨λp hp=>by simp[za7]at hp,λr row hr=>by simp[za7,z17]at hr⟩⟩
 | cons p ps ih =>
  intro vs X i ha hn ho hL
  cases vs with
  | nil=>exact ha.elim
  | cons v vs =>
   obtain⟨t,agg,io⟩:=p
   obtain⟨h1,h2⟩:=ha
   cases io
   ·obtain⟨f,rvf,k1,k2⟩:=ih (i:=i+1) h2 (λhq=>hn (by simpa[z7d]using hq)) ho hL
    refine⟨f,rvf,k1,λσ E e1 e2 e3 e4=>?_⟩
    obtain⟨g1,g2⟩:=k2 σ E e1 e2 e3 e4
    refine⟨λp hp=>?_,g2⟩
    rcases List.mem_cons.1 hp with rfl | hp
    ·exact⟨0,v,rfl,.inl rfl,ro (p:=⟨t,agg,false⟩) h1 e2⟩
    ·obtain⟨j,v',k1,k2,k3⟩:=g1 p hp
     exact⟨j+1,v',(by simpa using k1),k2.elim (λe=>.inl (by omega)) (λe=>.inr (by omega)),k3⟩
   ·obtain⟨cs,hcv,hown⟩:=h1
    have hown:Own w t L cs X.1:=hown
    obtain⟨f,rvf,k1,k2⟩:=z6d (100000+i) (j:=0) hown hL
    obtain⟨r1,r2⟩:=ros (i:=i+1) ho h2
    have hrows:(za7 (⟨t,agg,true⟩::ps) X i).2=(z1m (100000+i) t X.1 0).2.1:=rfl
    refine⟨f,rvf,λk hk=>?_,λσ E e1 e2 e3 e4=>?_⟩
    ·obtain⟨i',_,_,hf⟩:=k1 k hk
     rcases hf with hf | hf<;>rw[hf]<;>simp
    ·rw[hrows]at e4
     have hmem:∀p∈(z1m (100000+i) t X.1 0).2.1,z17 (z1m (100000+i) t X.1 0).2.1 p.1=some p.2:=zbr _ _ _ _
     obtain⟨g1,g2⟩:=k2 σ E e1 (λp hp=>by rw[e3]) (λp hp=>e4 _ _ (hmem p hp))
     refine⟨λp hp=>?_,λr row hr=>?_⟩
     ·rcases List.mem_cons.1 hp with rfl | hp
      ·exact⟨0,v,rfl,.inl rfl,zaw hcv g1⟩
      rcases List.mem_cons.1 hp with rfl | hp
      ·exact⟨0,v,rfl,.inr rfl,zaw hcv g1⟩
      ·obtain⟨j,v',k1,k2,k3⟩:=r2 σ E e2 p hp
       exact⟨j+1,v',(by simpa using k1),k2.elim (λe=>.inl (by omega)) (λe=>.inr (by omega)),k3⟩
     ·rw[hrows]at hr
      exact g2 (r,row) (z2v hr)
def zbc{sl:List (Nat×SV)}{σ0:St}{v:Value}{t:Nat}(h:∀p∈sl,p.1=t->z3k σ0 E w p.2 v):z3k σ0 E w (z5v sl t) v:=by
 unfold z5v
 split
 ·rename_i s hs
  exact h _ (z2v hs) rfl
 ·exact(show z1f σ0 E w .undef v from True.intro)
def rvF(ts:Array Value):ResultVar->Sem Value
 | .tmp t=>pure (ts.getD t undef)
 | .cell x t=>do loadVar t (<-asAddr (ts.getD x undef))
def zp0(fn:Func)(ts:Array Value):results fn ts=(do let vs <-fn.results.mapM (rvF ts);pure (if h:vs.size=1 then vs[0]else .tuple vs)):=by
 unfold results
 have:(λx:ResultVar=>match x with
  | .tmp t=>pure (ts.getD t undef)
  | .cell x t=>do loadVar t (<-asAddr (ts.getD x undef)))=rvF ts:=by
  funext x
  cases x<;>rfl
 rw[<-this]
 rfl
def z8f(hT:TOk P T)(h:R w0 lab0 oo n σ E a w):∀{rv:List ResultVar} {ss:List SV},z9j T σ rv=some ss ->
  ∃vs:List Value,z1b (z3k σ E w) ss vs/\(rv.mapM (rvF a.tmps)).run P w=.ok vs w:=by
 intro rv
 induction rv with
 | nil =>
  intro ss hr
  injection hr with hr
  subst hr
  exact⟨[],trivial,by simp⟩
 | cons r rv ih =>
  intro ss hr
  cases r with
  | tmp t =>
   simp only[z9j]at hr
   split at hr
   ·rename_i l hl
    injection hr with hr
    subst hr
    obtain⟨vs,h1,h3⟩:=ih hl
    refine⟨a.eval (.tmp t)::vs,⟨z1e h (.tmp t),h1⟩, ?_⟩
    have h0:(rvF a.tmps (.tmp t)).run P w=.ok (a.eval (.tmp t)) w:=rfl
    rw[List.mapM_cons,Sem.run_bind,h0]
    show((do let bs <-rv.mapM (rvF a.tmps);pure (a.eval (.tmp t)::bs)):Sem (List Value)).run P w=_
    rw[Sem.run_bind,h3]
    rfl
   ·cases hr
  | cell x ty =>
   simp only[z9j]at hr
   split at hr
   ·rename_i c i l hc hi hl
    split at hr
    ·rename_i s hs
     injection hr with hr
     subst hr
     obtain⟨vs,h1,h3⟩:=ih hl
     have hx:=z1e h (.tmp x)
     rw[hc]at hx
     obtain⟨v,g1,g2⟩:=z8y hT h hi hs hx
     have g1:=g1 w (Ext.refl w)
     have hx2:a.eval (.tmp x)=a.tmps.getD x undef:=rfl
     rw[hx2]at g1
     refine⟨v::vs,⟨g2,h1⟩, ?_⟩
     have h0:(rvF a.tmps (.cell x ty)).run P w=.ok v w:=by
      have ha:∃ad,a.tmps.getD x undef=.pointer (some ad):=by
       obtain⟨cs,hl',_⟩:∃cs,zl3 σ c i.zero.length=some cs/\True:=by
        unfold zl2 at hs
        split at hs
        ·rename_i cs hcs;exact⟨cs,hcs,trivial⟩
        ·cases hs
       obtain⟨ad,vs',f,e,_⟩:=zag h hl' (show z1f σ E w c (a.tmps.getD x undef)from hx)
       exact⟨_,e⟩
      obtain⟨ad,ha⟩:=ha
      show((do loadVar ty (<-asAddr (a.tmps.getD x undef)):Sem Value)).run P w=_
      rw[ha]at g1 ⊢
      exact g1
     rw[List.mapM_cons,Sem.run_bind,h0]
     show((do let bs <-rv.mapM (rvF a.tmps);pure (v::bs)):Sem (List Value)).run P w=_
     rw[Sem.run_bind,h3]
     rfl
    ·cases hr
   ·cases hr
def z67{fn:Func}{vs:List Value}(h:(fn.results.toList.mapM (rvF a.tmps)).run P w=.ok vs w):∃v,(results fn a.tmps).run P w=.ok v w/\RetV vs v:=by
 have h2:(fn.results.mapM (rvF a.tmps)).run P w=.ok vs.toArray w:=by
  rw[show fn.results=fn.results.toList.toArray from by simp,List.mapM_toArray]
  simp[h]
 rw[zp0,Sem.run_bind,h2]
 match vs with
 | []=>exact⟨.tuple #[],by simp,rfl⟩
 | [u]=>exact⟨u,by simp,rfl⟩
 | u::u'::vs=>exact⟨.tuple (u::u'::vs).toArray,by simp,rfl⟩
def nilIf_of(h:R w0 lab0 oo n σ E a w){io:Bool}{t:Ty}{cs:List z11}{us:List Value}{y:t.den}(hz:io=true->nilC σ.row cs=true)(hp:z5w σ.row t cs=some y)(hc:z1b (z1f σ E w) cs us):NilIf io t us y:=by
 cases t with
 | sl e t =>
  intro hio hl
  have hz:=hz hio
  rcases z9z (show z8g σ.row e t cs=some y from hp)with⟨rfl,rfl⟩ | ⟨r,row,rfl,hr,rfl,hd,rfl,rfl⟩
  ·obtain⟨u,rfl,hu⟩:=z1i hc
   obtain rfl:u=_:=hu
   rfl
  ·obtain⟨u,rfl,hu⟩:=z1i hc
   obtain⟨rfl,_⟩:=hu
   obtain⟨css,_,_,_,h4⟩:=h.rows r row hr
   have hl:row.xs.length=0:=hl
   simp only[nilC,hr,hl]at hz
   rw[h4 (by simpa using hz) hl]
 | int k=>trivial
 | bool=>trivial
 | str=>trivial
 | err=>trivial
 | fnc g=>trivial
 | pair a b=>trivial
def z7i(h:R w0 lab0 oo n σ E a w):∀{rs:List PT} {ss:List SV} {vs:List Value} {Y:Dat rs},zbi σ.row rs ss=some Y->zrk σ.row rs ss->z1b (z3k σ E w) ss vs->(z0v (z4m rs ss)).Nodup ->
  ∃Lr,zmu w rs vs Y Lr/\Lr.Nodup/\∀k∈Lr,∃q∈z0v (z4m rs ss),z5y E.lab q k
 | [],[],[],Y,_,_,_,_=>⟨[],rfl,List.nodup_nil,λk hk=>by cases hk⟩
 | p::ps,s::ss,v::vs,Y,hp,hz,hs,hn=>by
  simp only[zbi]at hp
  split at hp
  ·rename_i cs hcs
   obtain⟨h1,h2⟩:=z2m hp
   obtain⟨us,k1,k2⟩:=z4n hcs hs.1
   have hcells:z4m (p::ps) (s::ss)=cs++z4m ps ss:=by simp[z4m,hcs]
   rw[hcells,z3a]at hn ⊢
   obtain⟨n1,n2,n3⟩:=List.nodup_append.1 hn
   obtain⟨L1,o1,o2,o3⟩:=z3q h h1 k2 n1
   obtain⟨L2,g1,g2,g3⟩:=z7i h h2 hz.2 hs.2 n2
   refine⟨L1++L2,⟨us,L1,L2,rfl,k1,o1,nilIf_of h (λhio=>hz.1 hio cs hcs) h1 k2,g1⟩,List.nodup_append.2 ⟨o2,g2,λx hx y hy e=>?_⟩,λk hk=>?_⟩
   ·subst e
    obtain⟨q,q1,q2⟩:=o3 x hx
    obtain⟨q',q1',q2'⟩:=g3 x hy
    exact n3 q q1 q' q1' (z56 q2 q2')
   ·rcases List.mem_append.1 hk with hk | hk
    ·obtain⟨q,q1,q2⟩:=o3 k hk
     exact⟨q,List.mem_append_left _ q1,q2⟩
    ·obtain⟨q,q1,q2⟩:=g3 k hk
     exact⟨q,List.mem_append_right _ q1,q2⟩
  ·cases hp
 | [],[],_::_,_,_,_,hs,_=>hs.elim
 | [],_::_,_,_,hp,_,_,_=>by cases hp
 | _::_,[],_,_,hp,_,_,_=>by cases hp
 | _::_,_::_,[],_,_,_,hs,_=>hs.elim
def zea(h:R w0 lab0 oo n σ E a w):∀{ps:List PT} {i:Nat} {vs:List Value} {y:IoT ps},zs3 σ ps i=some y->vs.length=ps.length->(∀j v,vs[j]? = some v->oo (100000+(i+j))=v)->(z0v (zeb σ ps i)).Nodup ->
  ∃L',z91 w L' ps vs y/\L'.Nodup/\∀k∈L',∃q∈z0v (zeb σ ps i),z5y E.lab q k
 | [],i,vs,y,_,_,_,_=>⟨[],rfl,List.nodup_nil,λk hk=>by cases hk⟩
 | ⟨t,agg,false⟩::ps,i,v::vs,y,hr,hl,hv,hn=>by
  obtain⟨L',g1,g2,g3⟩:=zea h (ps:=ps) (i:=i+1) (vs:=vs) (y:=y) hr (by simpa using hl) (λj v' hj=>by
   have:=hv (j+1) v' (by simpa using hj)
   rwa [show i+1+j=i+(j+1)from by omega]) hn
  exact⟨L',g1,g2,g3⟩
 | ⟨t,agg,true⟩::ps,i,v::vs,y,hr,hl,hv,hn=>by
  simp only[zs3]at hr
  simp only[zeb]at hn ⊢
  split at hr
  ·rename_i cs hcs
   rw[hcs]at hn
   simp only at hn ⊢
   have hs:=h.slots (100000+i)
   have hval:z5b oo a (100000+i)=v:=by
    unfold z5b
    rw[if_neg (by omega)]
    exact hv 0 v rfl
   rw[hval]at hs
   obtain⟨us,k1,k2⟩:=z4n hcs hs
   obtain⟨L,o1,o2,o3⟩:=z3q h hr k2 hn
   exact⟨L,⟨us,k1,o1⟩,o2,o3⟩
  ·cases hr
 | _::_,_,[],_,_,hl,_,_=>by simp at hl
def z4l.len{L:List Nat}:∀{ps:List PT} {vs:List Value} {X:Dat ps},z4l w L ps vs X->vs.length=ps.length
 | [],[],_,_=>rfl
 | p::ps,v::vs,X,h=>by simp[z4l.len h.2]
 | [],_::_,_,h=>h.elim
 | _::_,[],_,h=>h.elim
def Ty.bd:(t:Ty)->t.den->Prop
 | .sl _ t,xs=>xs.length<=maxLen/\∀x∈xs,t.bd x
 | .pair a b,x=>a.bd x.1/\b.bd x.2
 | .int _,_=>True
 | .bool,_=>True
 | .str,_=>True
 | .err,_=>True
 | .fnc _,_=>True
def zoj{α β:Type}{Q:α->β->Prop}{p:β->Prop}(hp:∀a b,Q a b->p b):∀{as:List α} {bs:List β},z1b Q as bs->∀b∈bs,p b
 | [],[],_,_,hb=>by cases hb
 | _::_,_::_,h,b,hb=>by
  rcases List.mem_cons.1 hb with rfl | hb
  ·exact hp _ _ h.1
  ·exact zoj hp h.2 b hb
 | [],_::_,h,_,_=>h.elim
 | _::_,[],h,_,_=>h.elim
def Rd.bd{S:Nat->Prop}:∀{t:Ty} {cs:List Value} {x:t.den},Rd w S t cs x->t.bd x
 | .int _,_,_,_=>trivial
 | .bool,_,_,_=>trivial
 | .str,_,_,_=>trivial
 | .err,_,_,_=>trivial
 | .fnc _,_,_,_=>trivial
 | .pair a b,_,_,h=>by
  obtain⟨c1,c2,_,h1,h2⟩:=h
  exact⟨h1.bd,h2.bd⟩
 | .sl e t,_,xs,h=>by
  obtain⟨A,n,c,_,h1,h2,h3,h4⟩:=h
  refine⟨by omega,λx hx=>?_⟩
  rcases h4 with rfl | ⟨ad,css,_,_,h5,_⟩
  ·rw[List.eq_nil_of_length_eq_zero h1]at hx
   cases hx
  ·exact zoj (p:=λx=>t.bd x) (λ_ _ hr=>hr.bd) h5 x hx
def Own.bd:∀{t:Ty} {L:List Nat} {cs:List Value} {x:t.den},Own w t L cs x->t.bd x:=λh=>(h.rd (S:=λ_=>True) λ_ _=>trivial).bd
def zoq:(ps:List PT)->Dat ps->Prop
 | [],_=>True
 | p::ps,X=>p.t.bd X.1/\zoq ps X.2
def z4l.bd{L:List Nat}:∀{ps:List PT} {vs:List Value} {X:Dat ps},z4l w L ps vs X->zoq ps X
 | [],[],_,_=>trivial
 | p::ps,v::vs,X,h=>by
  refine⟨?_,h.2.bd⟩
  obtain⟨cs,_,h1⟩:=h.1
  cases hio:p.io
  ·rw[hio]at h1;exact Rd.bd h1
  ·rw[hio]at h1;exact Own.bd h1
 | [],_::_,_,h=>h.elim
 | _::_,[],_,h=>h.elim
theorem zhw [Inv P] {f : Nat} {fn : Func} {c : Code} {sig : Sig} {pre : Option (Dat sig.ps → Bool)} {val : Dat sig.ps → IoT sig.ps × Dat sig.rs} {pl : z9p} {je : Option z00} (hf : P.funcs[f]? = some fn) (hb : fn.body = some c) (hname : (fn.name == "runtime.NumGoroutine") = false)
  (hm:P.follows .mixedOrders=true) (hT:TOk P T) (hΓ:GOk P Γ) (hc:z57 fn.ntmps c=true) (hn:Nat.ble sig.ps.length fn.ntmps=true) (hn2:Nat.ble fn.ntmps 100000=true) (hone:z6a sig.ps=true)
  (hG:∀X,zoq sig.ps X->z3s pre X=true->∃N,z0p Γ T B N c pl (z1k sig.ps X) (z14 je (finK T sig fn.results.toList))=some (val X)):z0a P f ⟨sig,pre,val⟩:=by
 intro w args L X y Y ha hno hL hlt hg hI hBL
 have hg:cond (z3s pre X) (some (val X)) none=some (y,Y):=hg
 obtain⟨N,hr⟩:∃N,z0p Γ T B N c pl (z1k sig.ps X) (z14 je (finK T sig fn.results.toList))=some (y,Y):=by
  cases hp:z3s pre X
  ·rw[hp]at hg;cases hg
  ·rw[hp]at hg
   rw[<-hg]
   exact hG X ha.bd hp
 have hn:=Nat.le_of_ble_eq_true hn
 have hn2:=Nat.le_of_ble_eq_true hn2
 have hlen:args.size=sig.ps.length:=by
  have:=z4l.len ha
  simpa using this
 refine .inl ⟨?_, ?_⟩
 ·have h1 : ¬ fn.name = "runtime.NumGoroutine" := by simpa using hname
  have h2:¬ fn.body=none:=by rw[hb];simp
  simp[callFunc,hf,h1,h2]
 obtain⟨f0,rvf,k1,k2⟩:=start_ok (i:=0) ha hno hone hL
 classical
 let lab0:Nat->Lab:=λk=>if k∈L then f0 k else .st
 let E:Env:=⟨lab0,rvf,λ_=>0⟩
 let oo:Nat->Value:=λt=>args.getD (t-100000) undef
 have hlab1:∀k,k∈L->E.lab k=f0 k:=λk hk=>if_pos hk
 have hlab2:∀k,k∉L->E.lab k=.st:=λk hk=>if_neg hk
 obtain⟨g1,g2⟩:=k2 (z1k sig.ps X) E hlab1 hlab2 rfl (λr row h=>h)
 have hsz:(args++Array.replicate (fn.ntmps-args.size) undef).size=fn.ntmps:=by
  rw[Array.size_append,Array.size_replicate]
  omega
 have hR:R w lab0 oo fn.ntmps (z1k sig.ps X) E { tmps:=args++Array.replicate (fn.ntmps-args.size) undef,defers:=[] } w:=by
  refine⟨hn2,hsz,rfl,λt=>?_,λb te cs hb=>?_,λr row hr=>g2 r row hr,⟨rfl,⟨rfl,λ_=>Nat.le_refl _⟩,rfl,Nat.le_refl _,λk hk hl=>⟨hl,rfl⟩,λk hk hl=>⟨hl,rfl⟩⟩⟩
  ·show z3k _ E w (z5v (za7 sig.ps X 0).1 t) _
   refine zbc λp hp e=>?_
   obtain⟨j,v,j1,j2,j3⟩:=g1 p hp
   have hj:j<args.size:=by
    have:=(List.getElem?_eq_some_iff.1 j1).1
    simpa using this
   have hval:z5b oo { tmps:=args++Array.replicate (fn.ntmps-args.size) undef,defers:=[] } t=v:=by
    subst e
    unfold z5b
    rcases j2 with j2 | j2
    ·rw[if_pos (by omega),j2]
     simp only[Nat.zero_add,Array.getD_eq_getD_getElem?]
     rw[Array.getElem?_append_left hj]
     have:args[j]? = some v:=by simpa using j1
     rw[this];rfl
    ·rw[if_neg (by omega),j2]
     show args.getD (100000+(0+j)-100000) undef=v
     rw[show 100000+(0+j)-100000=j from by omega,Array.getD_eq_getD_getElem?]
     have:args[j]? = some v:=by simpa using j1
     rw[this];rfl
   rw[hval]
   exact j3
  ·cases hb
 have hend:∀σ' E' a' w',znv T sig fn.results.toList σ'=some (y,Y)->R w lab0 oo fn.ntmps σ' E' a' w'->a'.defers=[]/\∃v,(results fn a'.tmps).run P w'=.ok v w' /\
   ∃vs L' Lr,Ending.returned v=Ending.returned v/\zqh w sig args.toList L y Y v w' vs L' Lr:=by
  intro σ' E' a' w' hfin h'
  refine⟨h'.defers, ?_⟩
  unfold znv at hfin
  split at hfin
  ·rename_i ss hss
   cases hq:z41 (z0v (z4m sig.rs ss++zeb σ' sig.ps 0))
   ·rw[hq]at hfin;cases hfin
   rw[hq]at hfin
   obtain⟨hz,hfin⟩:=z8k (show zqk σ'.row sig.rs ss _=some (y,Y)from hfin)
   obtain⟨p1,p2⟩:=z2m (z:=(y,Y)) hfin
   have hnd:=z30 hq
   rw[z3a]at hnd
   obtain⟨n1,n2,n3⟩:=List.nodup_append.1 hnd
   obtain⟨vs,v1,v2⟩:=z8f hT h' hss
   obtain⟨v,r1,r2⟩:=z67 v2
   obtain⟨Lr,l1,l2,l3⟩:=z7i h' p2 hz v1 n1
   obtain⟨L',m1,m2,m3⟩:=zea h' (vs:=args.toList) p1 (z4l.len ha) (λj u hu=>by
    show args.getD (100000+(0+j)-100000) undef=u
    rw[show 100000+(0+j)-100000=j from by omega,Array.getD_eq_getD_getElem?]
    have:args[j]? = some u:=by simpa using hu
    rw[this];rfl) n2
   have hold:∀k q,z5y E'.lab q k->k∈L\/w.heap.size<=k:=by
    intro k q hk
    by_cases h1:k∈L
    ·exact .inl h1
    ·refine .inr (Nat.le_of_not_lt λhlt=>?_)
     have:=(h'.same.old k hlt (hlab2 k h1)).1
     rcases hk with hk | hk<;>rw[this]at hk<;>cases hk
   refine⟨v,r1,vs,L',Lr,rfl,r2,l1,m1,List.nodup_append.2 ⟨l2,m2,λx hx z hz e=>?_⟩,λk hk=>?_,λk hk=>?_,h'.same.os,h'.same.tape,h'.same.output,h'.same.size,λk hk hkL=>(h'.same.old k hk (hlab2 k hkL)).2⟩
   ·subst e
    obtain⟨q,q1,q2⟩:=l3 x hx
    obtain⟨q',q1',q2'⟩:=m3 x hz
    exact n3 q q1 q' q1' (z56 q2 q2')
   ·obtain⟨q,q1,q2⟩:=l3 k hk
    exact hold k q q2
   ·obtain⟨q,q1,q2⟩:=m3 k hk
    exact hold k q q2
  ·cases hfin
 refine calls_of_wp hf hb (z35 hT (hΓ.at hI λk hk=>hlab2 k λhl=>hBL k hl hk) hm c pl hc hR hr ?_ (zcb.join ?_ _))
 ·intro ch a a' w' hq
  obtain⟨_,v,vs,L',Lr,he,_⟩:=hq
  cases he
 ·intro e σ' E' a' w' hr' h'
  cases e with
  | nrm =>
   obtain⟨d1,v,d2,vs,L',Lr,d3,d4⟩:=hend σ' E' a' w' hr' h'
   exact⟨d1,v,d2,v,vs,L',Lr,rfl,d4⟩
  | ret =>
   obtain⟨d1,v,d2,vs,L',Lr,d3,d4⟩:=hend σ' E' a' w' hr' h'
   exact⟨d1,v,d2,v,vs,L',Lr,rfl,d4⟩
  | exit i=>cases hr'
end
def z3l:(ps:List PT)->Dat ps->Nat->Nat->List (Nat×SV)×List (Nat×Row)
 | [],_,_,_=>([],[])
 | ⟨t,agg,false⟩::ps,X,i,j=>((i,mkSV agg (z4c t X.1 none))::(z3l ps X.2 (i+1) j).1,(z3l ps X.2 (i+1) j).2)
 | ⟨t,agg,true⟩::ps,X,i,j=>match z1m 100000 t X.1 j with
  | (cs,rows,j1)=>((i,mkSV agg cs)::(z3l ps X.2 (i+1) j1).1,rows++(z3l ps X.2 (i+1) j1).2)
def z40:(rf:Rf)->(ps:List PT)->RfD rf×Dat ps->St
 | none,ps,X=>z16 (z3l ps X.2 0 0).1 [] (z3l ps X.2 0 0).2
 | some p,ps,X=>match z1m 100000 p.2 X.1 0 with
  | (cs,rows,j1)=>z16 ((0,.c (.box 100000 0))::(100000,.c (.box 100000 0))::(z3l ps X.2 1 j1).1) [(100000,(p.1,cs))] (rows++(z3l ps X.2 1 j1).2)
def rfEnd(σ:St):Rf->Option (List z11)
 | none=>some []
 | some p=>match σ.box 100000 with
  | some (te,cs)=>cond (Nat.beq te p.1) (some cs) none
  | none=>none
def zfm(σ:St):Rf->Bool
 | none=>true
 | some _=>match σ.slot 100000 with
  | .c (.box 100000 0)=>true
  | _=>false
def zhi(T:Tab)(rf:Rf)(rs:List PT)(rv:List ResultVar)(σ:St):Option (RfD rf×Dat rs) :=
 match z9j T σ rv,rfEnd σ rf with
 | some ss,some cs=>cond (zfm σ rf&&z41 (z0v (z4m rs ss++cs))) (zqk σ.row rs ss (z6u (rfPack σ.row rf cs) (zbi σ.row rs ss))) none
 | _,_=>none
def finKM(T:Tab)(rf:Rf)(rs:List PT)(rv:List ResultVar):Ex->St->Option (RfD rf×Dat rs)
 | .nrm,σ=>zhi T rf rs rv σ
 | .ret,σ=>zhi T rf rs rv σ
 | .exit _,_=>none
def zj7:Rf->List PT->Nat
 | none,ps=>ps.length
 | some _,ps=>ps.length+1
def RfB:(rf:Rf)->RfD rf->Prop
 | none,_=>True
 | some p,x=>p.2.bd x
section
variable {P : Program} {σ σ' : St} {E E' : Env} {w w' : World} {w0 : World} {lab0 : Nat → Lab} {oo : Nat → Value} {n : Nat} {a : Act} {T : Tab} {Γ : Gm} {B : Nat → Option z00} {N : Nat} [DC]
def z61.len{S:Nat->Prop}:∀{ps:List PT} {vs:List Value} {X:Dat ps} {L:List Nat},z61 w S ps vs X L->vs.length=ps.length
 | [],[],_,_,_=>rfl
 | p::ps,v::vs,X,L,h=>by
  obtain⟨_,_,_,_,_,_,h⟩:=h
  simp[z61.len h]
 | [],_::_,_,_,h=>h.elim
 | _::_,[],_,_,h=>h.elim
def z61.bd{S:Nat->Prop}:∀{ps:List PT} {vs:List Value} {X:Dat ps} {L:List Nat},z61 w S ps vs X L->zoq ps X
 | [],[],_,_,_=>trivial
 | p::ps,v::vs,X,L,h=>by
  obtain⟨cs,L1,L2,_,_,h1,h2⟩:=h
  refine⟨?_,h2.bd⟩
  cases hio:p.io
  ·rw[hio]at h1;exact Rd.bd h1.2
  ·rw[hio]at h1;exact Own.bd h1
 | [],_::_,_,_,h=>h.elim
 | _::_,[],_,_,h=>h.elim
def za6{ps:List PT}:∀{X:Dat ps} {i j:Nat},∀p∈(z3l ps X i j).2,∃q,j<=q/\p.1=z10 100000 q:=by
 induction ps with
 | nil=>intro X i j p hp;simp[z3l]at hp
 | cons p0 ps ih =>
  intro X i j p hp
  obtain⟨t,agg,io⟩:=p0
  cases io
  ·exact ih (X:=X.2) p hp
  ·simp only[z3l,List.mem_append]at hp
   rcases hp with hp | hp
   ·obtain⟨q,q1,_,q2⟩:=(z3b 100000).2 p hp
    exact⟨q,q1,q2⟩
   ·obtain⟨q,q1,q2⟩:=ih (X:=X.2) p hp
    exact⟨q,Nat.le_trans (z3b 100000).1 q1,q2⟩
def znn{l1 l2:List (Nat×Row)}{j1:Nat}(h1:∀p∈l1,z17 l1 p.1=some p.2)(h2:∀p∈l2,z17 l2 p.1=some p.2)(m1:∀p∈l1,∃q,q<j1/\p.1=z10 100000 q)(m2:∀p∈l2,∃q,j1<=q/\p.1=z10 100000 q):∀p∈l1++l2,z17 (l1++l2) p.1=some p.2:=by
 intro p hp
 rw[z8l]
 rcases List.mem_append.1 hp with hp | hp
 ·rw[h1 p hp]
 ·cases hl:z17 l1 p.1 with
  | none=>exact h2 p hp
  | some v =>
   obtain⟨q,q1,q2⟩:=m1 _ (z2v hl)
   obtain⟨q',q3,q4⟩:=m2 p hp
   have:=z4o (q2.symm.trans q4)
   omega
def zh7{t:Ty}{y:t.den}{j:Nat}:∀p∈(z1m 100000 t y j).2.1,∃q,q<(z1m 100000 t y j).2.2/\p.1=z10 100000 q:=λp hp=>by
 obtain⟨q,_,q1,q2⟩:=(z3b 100000).2 p hp
 exact⟨q,q1,q2⟩
def zbu{ps:List PT}:∀{X:Dat ps} {i j:Nat},∀p∈(z3l ps X i j).2,z17 (z3l ps X i j).2 p.1=some p.2:=by
 induction ps with
 | nil=>intro X i j p hp;simp[z3l]at hp
 | cons p0 ps ih =>
  intro X i j
  obtain⟨t,agg,io⟩:=p0
  cases io
  ·exact ih (X:=X.2)
  ·exact znn (zbr 100000 t X.1 j) (ih (X:=X.2)) zh7 za6
def z8c{S:Nat->Prop}:∀{ps:List PT} {vs:List Value} {X:Dat ps} {L:List Nat} {i j:Nat},z61 w S ps vs X L->L.Nodup ->
  ∃(f:Nat->Lab) (rvf:Nat->Value),(∀k∈L,∃q,f k=.row (z10 100000 q)\/f k=.inn (z10 100000 q)) /\
   ∀(σ:St) (E:Env),(∀k∈L,E.lab k=f k)->(∀k,S k->E.lab k=.st)->(∀p∈(z3l ps X i j).2,E.rv p.1=rvf p.1)->(∀p∈(z3l ps X i j).2,σ.row p.1=some p.2) ->
    (∀p∈(z3l ps X i j).1,∃m v,vs[m]? = some v/\p.1=i+m/\z3k σ E w p.2 v)/\∀p∈(z3l ps X i j).2,z2k w E.lab p.1 p.2 (E.rv p.1):=by
 intro ps
 induction ps with
 | nil =>
  intro vs X L i j ha hn
  cases vs with
  | cons _ _=>exact ha.elim
  | nil =>
   obtain rfl:L=[]:=ha
   exact⟨λ_=>.st,λ_=>undef,(λk hk=>by cases hk),λσ E _ _ _ _=>⟨λp hp=>by simp[z3l]at hp,λp hp=>by simp[z3l]at hp⟩⟩
 | cons p0 ps ih =>
  intro vs X L i j ha hn
  cases vs with
  | nil=>exact ha.elim
  | cons v vs =>
   obtain⟨cs,L1,L2,rfl,hcv,h1,h2⟩:=ha
   obtain⟨n1,n2,n3⟩:=List.nodup_append.1 hn
   obtain⟨t,agg,io⟩:=p0
   cases io
   ·obtain⟨rfl,hrd⟩:=h1
    obtain⟨f,rvf,k1,k2⟩:=ih (i:=i+1) (j:=j) h2 n2
    refine⟨f,rvf,k1,λσ E e1 e2 e3 e4=>?_⟩
    obtain⟨g1,g2⟩:=k2 σ E e1 e2 e3 e4
    refine⟨λp hp=>?_,g2⟩
    rcases List.mem_cons.1 hp with rfl | hp
    ·exact⟨0,v,rfl,rfl,zaw hcv (z5c (p:=none) (hrd.mono λk hk=>e2 k hk))⟩
    ·obtain⟨m,v',q1,q2,q3⟩:=g1 p hp
     exact⟨m+1,v',by simpa using q1,by omega,q3⟩
   ·have hown:Own w t L1 cs X.1:=h1
    obtain⟨f1,v1,a1,b1⟩:=z6d 100000 (j:=j) hown n1
    obtain⟨f2,v2,a2,b2⟩:=ih (i:=i+1) (j:=(z1m 100000 t X.1 j).2.2) h2 n2
    have m1:∀p∈(z1m 100000 t X.1 j).2.1,∃q,q<(z1m 100000 t X.1 j).2.2/\p.1=z10 100000 q:=zh7
    have m2:∀p∈(z3l ps X.2 (i+1) (z1m 100000 t X.1 j).2.2).2,∃q,(z1m 100000 t X.1 j).2.2<=q/\p.1=z10 100000 q:=za6
    refine⟨λk=>if k∈L1 then f1 k else f2 k,λq=>if ∃p∈(z1m 100000 t X.1 j).2.1,p.1=q then v1 q else v2 q,λk hk=>?_,λσ E e1 e2 e3 e4=>?_⟩
    ·by_cases hk1:k∈L1
     ·obtain⟨q,_,_,hq⟩:=a1 k hk1
      exact⟨q,by simpa[hk1]using hq⟩
     ·obtain⟨q,hq⟩:=a2 k ((List.mem_append.1 hk).resolve_left hk1)
      exact⟨q,by simpa[hk1]using hq⟩
    ·have hm:(z3l (⟨t,agg,true⟩::ps) X i j)=((i,mkSV agg (z1m 100000 t X.1 j).1)::(z3l ps X.2 (i+1) (z1m 100000 t X.1 j).2.2).1,(z1m 100000 t X.1 j).2.1++(z3l ps X.2 (i+1) (z1m 100000 t X.1 j).2.2).2):=rfl
     rw[hm]at e3 e4 ⊢
     obtain⟨g1,g2⟩:=b1 σ E (λk hk=>(e1 k (List.mem_append_left _ hk)).trans (if_pos hk)) (λp hp=>(e3 p (List.mem_append_left _ hp)).trans (if_pos ⟨p,hp,rfl⟩)) (λp hp=>e4 p (List.mem_append_left _ hp))
     obtain⟨g3,g4⟩:=b2 σ E (λk hk=>(e1 k (List.mem_append_right _ hk)).trans (if_neg λh'=>n3 k h' k hk rfl)) e2 (λp hp=>(e3 p (List.mem_append_right _ hp)).trans (if_neg λ⟨p',hp',e⟩=>by
      obtain⟨q,q1,q2⟩:=m1 p' hp'
      obtain⟨q',q3,q4⟩:=m2 p hp
      have:=z4o (q2.symm.trans (e.trans q4))
      omega)) (λp hp=>e4 p (List.mem_append_right _ hp))
     refine⟨λp hp=>?_,λp hp=>?_⟩
     ·rcases List.mem_cons.1 hp with rfl | hp
      ·exact⟨0,v,rfl,rfl,zaw hcv g1⟩
      ·obtain⟨m,v',q1,q2,q3⟩:=g3 p hp
       exact⟨m+1,v',by simpa using q1,by omega,q3⟩
     ·rcases List.mem_append.1 hp with hp | hp
      ·exact g2 p hp
      ·exact g4 p hp
structure StartM(P:Program)(w:World)(rf:Rf)(ps:List PT)(args:Array Value)(X:RfD rf×Dat ps)(L:List Nat)(E:Env):Prop where
 inl:∀k∈L,E.lab k≠.st
 out:∀k,k∉L->E.lab k=.st
 slots:∀t s,z17 (match rf,X with | none,X=>(z3l ps X.2 0 0).1 | some p,X=>(0,.c (.box 100000 0))::(100000,.c (.box 100000 0))::(z3l ps X.2 1 (z1m 100000 p.2 X.1 0).2.2).1) t=some s ->
  z3k (z40 rf ps X) E w s (if t<100000 then args.getD t undef else args.getD (t-100000) undef)
 boxes:∀b te cs,(z40 rf ps X).box b=some (te,cs)->z9s (z40 rf ps X) E w b te cs
 rows:∀r row,(z40 rf ps X).row r=some row->z2k w E.lab r row (E.rv r)
def z8o{args:Array Value}{m:Nat}{v:Value}(h:args.toList[m]? = some v):args.getD m undef=v:=by
 rw[Array.getD_eq_getD_getElem?]
 have:args[m]? = some v:=by simpa using h
 rw[this];rfl
def zdu:Rf->Bool
 | none=>true
 | some p=>Nat.blt p.1 z1s
def zow{rf:Rf}{ps:List PT}{args:Array Value}{X:RfD rf×Dat ps}{L:List Nat}(ha:zi9 w (λk=>k∉L) rf ps args.toList X.1 X.2 L)(hn:L.Nodup)(hlen:zj7 rf ps<=100000)(hrf:zdu rf=true):∃E,StartM P w rf ps args X L E:=by
 classical
 cases rf with
 | none =>
  have ha:z61 w (λk=>k∉L) ps args.toList X.2 L:=ha
  obtain⟨f,rvf,k1,k2⟩:=z8c (i:=0) (j:=0) ha hn
  have hl:=ha.len
  have hlen:ps.length<=100000:=hlen
  let E:Env:=⟨λk=>if k∈L then f k else .st,rvf,λ_=>0⟩
  have e1:∀k∈L,E.lab k=f k:=λk hk=>if_pos hk
  have e2:∀k,k∉L->E.lab k=.st:=λk hk=>if_neg hk
  obtain⟨g1,g2⟩:=k2 (z40 none ps X) E e1 e2 (λp hp=>rfl) (λp hp=>zbu p hp)
  refine⟨E,⟨λk hk=>?_,e2,λt s hs=>?_,λb te cs hb=>(by cases hb),λr row hr=>g2 (r,row) (z2v hr)⟩⟩
  ·obtain⟨q,hq⟩:=k1 k hk
   rw[e1 k hk]
   rcases hq with hq | hq<;>rw[hq]<;>simp
  ·obtain⟨m,v,q1,q2,q3⟩:=g1 _ (z2v hs)
   have hm:m<args.toList.length:=(List.getElem?_eq_some_iff.1 q1).1
   simp only at q2
   rw[if_pos (by omega),show t=m by omega,z8o q1]
   exact q3
 | some p =>
  match hal:args.toList,ha with
  | [],ha=>exact ha.elim
  | v0::vs0,ha =>
  obtain⟨g,L1,L2,rfl,⟨hv0,arr,m1,m2,m3⟩,ha⟩:=ha
  obtain⟨ng,hn12⟩:=List.nodup_cons.1 hn
  obtain⟨n1,n2,n3⟩:=List.nodup_append.1 hn12
  obtain⟨f1,v1,a1,b1⟩:=z6d 100000 (j:=0) m3 n1
  obtain⟨f2,v2,a2,b2⟩:=z8c (i:=1) (j:=(z1m 100000 p.2 X.1 0).2.2) ha n2
  have hl:=ha.len
  have hlen:ps.length+1<=100000:=hlen
  have h1:∀q∈(z1m 100000 p.2 X.1 0).2.1,∃i,i<(z1m 100000 p.2 X.1 0).2.2/\q.1=z10 100000 i:=zh7
  have h2:∀q∈(z3l ps X.2 1 (z1m 100000 p.2 X.1 0).2.2).2,∃i,(z1m 100000 p.2 X.1 0).2.2<=i/\q.1=z10 100000 i:=za6
  let E:Env:=⟨λk=>if k=g then .box 100000 else if k∈L1 then f1 k else if k∈L2 then f2 k else .st,λq=>if ∃p'∈(z1m 100000 p.2 X.1 0).2.1,p'.1=q then v1 q else v2 q,λ_=>g⟩
  have lg:E.lab g=.box 100000:=if_pos rfl
  have l1:∀k∈L1,E.lab k=f1 k:=λk hk=>(if_neg λ(e:k=g)=>ng (by rw[<-e];exact List.mem_append_left _ hk)).trans (if_pos hk)
  have l2:∀k∈L2,E.lab k=f2 k:=λk hk=>(if_neg λ(e:k=g)=>ng (by rw[<-e];exact List.mem_append_right _ hk)).trans ((if_neg λh'=>n3 k h' k hk rfl).trans (if_pos hk))
  have lo:∀k,k∉g::(L1++L2)->E.lab k=.st:=λk hk=>(if_neg λe=>hk (by simp[e])).trans ((if_neg λh'=>hk (by simp[h'])).trans (if_neg λh'=>hk (by simp[h'])))
  have hall:∀q∈(z1m 100000 p.2 X.1 0).2.1++(z3l ps X.2 1 (z1m 100000 p.2 X.1 0).2.2).2,(z40 (some p) ps X).row q.1=some q.2:=znn (zbr 100000 p.2 X.1 0) zbu h1 h2
  obtain⟨g1,g2⟩:=b1 (z40 (some p) ps X) E l1 (λq hq=>if_pos ⟨q,hq,rfl⟩) (λq hq=>hall q (List.mem_append_left _ hq))
  obtain⟨g3,g4⟩:=b2 (z40 (some p) ps X) E l2 lo (λq hq=>if_neg λ⟨p',hp',e⟩=>by
   obtain⟨i,i1,i2⟩:=h1 p' hp'
   obtain⟨i',i3,i4⟩:=h2 q hq
   have:=z4o (i2.symm.trans (e.trans i4))
   omega) (λq hq=>hall q (List.mem_append_right _ hq))
  have hbox:(z40 (some p) ps X).box 100000=some (p.1,(z1m 100000 p.2 X.1 0).1):=rfl
  have hcs:0<(z1m 100000 p.2 X.1 0).1.length:=by rw[z8m];exact p.2.nc_pos
  have h0:args.getD 0 undef=v0:=z8o (by rw[hal];rfl)
  have hptr:z3k (z40 (some p) ps X) E w (.c (.box 100000 0)) v0:=⟨hv0,_,_,hbox,hcs⟩
  refine⟨E,⟨λk hk=>?_,lo,λt s hs=>?_,λb te cs hb=>?_,λr row hr=>?_⟩⟩
  ·rcases List.mem_cons.1 hk with rfl | hk
   ·rw[lg];simp
   rcases List.mem_append.1 hk with hk | hk
   ·obtain⟨q,_,_,hq⟩:=a1 k hk
    rw[l1 k hk]
    rcases hq with hq | hq<;>rw[hq]<;>simp
   ·obtain⟨q,hq⟩:=a2 k hk
    rw[l2 k hk]
    rcases hq with hq | hq<;>rw[hq]<;>simp
  ·rcases List.mem_cons.1 (z2v hs)with e | hm
   ·injection e with e1 e2
    subst e1 e2
    rw[if_pos (by omega),h0]
    exact hptr
   rcases List.mem_cons.1 hm with e | hm
   ·injection e with e1 e2
    subst e1 e2
    rw[if_neg (by omega),Nat.sub_self,h0]
    exact hptr
   ·obtain⟨m,v,q1,q2,q3⟩:=g3 _ hm
    have hm':m<vs0.length:=(List.getElem?_eq_some_iff.1 q1).1
    simp only at q2
    rw[if_pos (by omega),show t=m+1 by omega,z8o (by rw[hal];simpa using q1)]
    exact q3
  ·have hb':z17 [(100000,(p.1,(z1m 100000 p.2 X.1 0).1))] b=some (te,cs):=hb
   have:=z2v hb'
   simp only[List.mem_singleton,Prod.mk.injEq]at this
   obtain⟨rfl,rfl,rfl⟩:=this
   exact⟨arr,.inl ⟨by simpa[zdu]using hrf,m1⟩,lg,g1,m2⟩
  ·have hr':z17 ((z1m 100000 p.2 X.1 0).2.1++(z3l ps X.2 1 (z1m 100000 p.2 X.1 0).2.2).2) r=some row:=hr
   rcases List.mem_append.1 (z2v hr')with hm | hm
   ·exact g2 (r,row) hm
   ·exact g4 (r,row) hm
def zi9.len{S:Nat->Prop}{rf:Rf}{ps:List PT}{vs:List Value}{x:RfD rf}{X:Dat ps}{L:List Nat}(h:zi9 w S rf ps vs x X L):vs.length=zj7 rf ps:=by
 cases rf with
 | none=>exact z61.len h
 | some p =>
  cases vs with
  | nil=>exact h.elim
  | cons v vs =>
   obtain⟨g,L1,L2,_,_,h⟩:=h
   simp[zj7,h.len]
def zi9.bd{S:Nat->Prop}{rf:Rf}{ps:List PT}{vs:List Value}{x:RfD rf}{X:Dat ps}{L:List Nat}(h:zi9 w S rf ps vs x X L):RfB rf x/\zoq ps X:=by
 cases rf with
 | none=>exact⟨trivial,z61.bd h⟩
 | some p =>
  cases vs with
  | nil=>exact h.elim
  | cons v vs =>
   obtain⟨g,L1,L2,_,⟨_,arr,_,_,h1⟩,h⟩:=h
   exact⟨h1.bd,h.bd⟩
theorem zfb [Inv P] {f : Nat} {fn : Func} {c : Code} {rf : Rf} {ps rs : List PT} {pre : Option (RfD rf × Dat ps → Bool)} {val : RfD rf × Dat ps → RfD rf × Dat rs} {pl : z9p} {je : Option z00} (hf : P.funcs[f]? = some fn) (hb : fn.body = some c) (hname : (fn.name == "runtime.NumGoroutine") = false)
  (hm:P.follows .mixedOrders=true) (hT:TOk P T) (hΓ:GOk P Γ) (hc:z57 fn.ntmps c=true) (hn:Nat.ble (zj7 rf ps) fn.ntmps=true) (hn2:Nat.ble fn.ntmps 100000=true)
  (hG:∀X,RfB rf X.1->zoq ps X.2->z3s pre X=true->∃N,z0p Γ T B N c pl (z40 rf ps X) (z14 je (finKM T rf rs fn.results.toList))=some (val X)) (hsm:zdu rf=true:=by rfl):z3f P f ⟨rf,ps,rs,pre,val⟩:=by
 intro w args L X ha hL hlt hpre hI hBL
 obtain⟨hb1,hb2⟩:=zi9.bd ha
 obtain⟨N,hr⟩:=hG X hb1 hb2 hpre
 have hn:=Nat.le_of_ble_eq_true hn
 have hn2:=Nat.le_of_ble_eq_true hn2
 have hlen:args.size=zj7 rf ps:=by
  have:=zi9.len ha
  simpa using this
 refine .inl ⟨?_, ?_⟩
 ·have h1 : ¬ fn.name = "runtime.NumGoroutine" := by simpa using hname
  have h2:¬ fn.body=none:=by rw[hb];simp
  simp[callFunc,hf,h1,h2]
 obtain⟨E,st⟩:=zow (P:=P) ha hL (show zj7 rf ps<=100000 by omega) hsm
 let oo:Nat->Value:=λt=>args.getD (t-100000) undef
 have hsz:(args++Array.replicate (fn.ntmps-args.size) undef).size=fn.ntmps:=by
  rw[Array.size_append,Array.size_replicate]
  omega
 have hund:∀t,args.size<=t->(args++Array.replicate (fn.ntmps-args.size) undef).getD t undef=undef:=by
  intro t ht
  rw[Array.getD_eq_getD_getElem?,Array.getElem?_append_right ht]
  by_cases h:t-args.size<fn.ntmps-args.size
  ·simp[Array.getElem?_replicate,h]
  ·simp[Array.getElem?_replicate,h]
 have hR:R w E.lab oo fn.ntmps (z40 rf ps X) E { tmps:=args++Array.replicate (fn.ntmps-args.size) undef,defers:=[] } w:=by
  refine⟨hn2,hsz,rfl,λt=>?_,st.boxes,st.rows,⟨rfl,⟨rfl,λ_=>Nat.le_refl _⟩,rfl,Nat.le_refl _,λk hk hl=>⟨hl,rfl⟩,λk hk hl=>⟨hl,rfl⟩⟩⟩
  have hval:z5b oo { tmps:=args++Array.replicate (fn.ntmps-args.size) undef,defers:=[] } t=if t<100000 then args.getD t undef else args.getD (t-100000) undef:=by
   unfold z5b
   by_cases ht:t<100000
   ·rw[if_pos ht,if_pos ht]
    by_cases hlt:t<args.size
    ·simp only[Array.getD_eq_getD_getElem?]
     rw[Array.getElem?_append_left hlt]
    ·rw[hund t (by omega),Array.getD_eq_getD_getElem?,Array.getElem?_eq_none (by omega)]
     rfl
   ·rw[if_neg ht,if_neg ht]
  rw[hval]
  have key:∀l:List (Nat×SV),(z40 rf ps X).slot t=z5v l t->(∀s,z17 l t=some s->z3k (z40 rf ps X) E w s (if t<100000 then args.getD t undef else args.getD (t-100000) undef))->z3k (z40 rf ps X) E w ((z40 rf ps X).slot t) (if t<100000 then args.getD t undef else args.getD (t-100000) undef):=by
   intro l hl hh
   rw[hl]
   unfold z5v
   split
   ·rename_i s hs
    exact hh s hs
   ·show True
    trivial
  cases rf with
  | none=>exact key _ rfl λs hs=>st.slots t s hs
  | some p=>exact key _ rfl λs hs=>st.slots t s hs
 have hend:∀σ' E' a' w',zhi T rf rs fn.results.toList σ'=some (val X)->R w E.lab oo fn.ntmps σ' E' a' w'->a'.defers=[]/\∃v,(results fn a'.tmps).run P w'=.ok v w' /\
   ∃vs Lf Lr,Ending.returned v=Ending.returned v/\zot w ⟨rf,ps,rs,pre,val⟩ args.toList L (val X) v w' vs Lf Lr:=by
  intro σ' E' a' w' hfin h'
  refine⟨h'.defers, ?_⟩
  unfold zhi at hfin
  split at hfin
  ·rename_i ss cs hss hrf
   cases hq:(zfm σ' rf&&z41 (z0v (z4m rs ss++cs)))
   ·rw[hq]at hfin;cases hfin
   rw[hq]at hfin
   simp only[Bool.and_eq_true]at hq
   obtain⟨hz,hfin⟩:=z8k (show zqk σ'.row rs ss _=some (val X)from hfin)
   obtain⟨p1,p2⟩:=z2m (z:=val X) hfin
   have hnd:=z30 hq.2
   rw[z3a]at hnd
   obtain⟨n1,n2,n3⟩:=List.nodup_append.1 hnd
   obtain⟨vs,v1,v2⟩:=z8f hT h' hss
   obtain⟨v,r1,r2⟩:=z67 v2
   obtain⟨Lr,l1,l2,l3⟩:=z7i h' p2 hz v1 n1
   have hold:∀k q,z5y E'.lab q k->k∈L\/w.heap.size<=k:=by
    intro k q hk
    by_cases h1:k∈L
    ·exact .inl h1
    ·refine .inr (Nat.le_of_not_lt λhlt=>?_)
     have:=(h'.same.old k hlt (st.out k h1)).1
     rcases hk with hk | hk<;>rw[this]at hk<;>cases hk
   obtain⟨Lf,m1,m2,m3,m4⟩:∃Lf,RefEnd w' rf args.toList (val X).1 Lf/\Lf.Nodup/\(∀k∈Lf,∃q∈z0v cs,z5y E'.lab q k)/\∀g p,rf=some p->args.toList.head? = some (.pointer (some ⟨g,0,none⟩))->E'.lab g=.box 100000:=by
    cases rf with
    | none=>exact⟨[],rfl,List.nodup_nil,(λk hk=>by cases hk),λg p hp=>by cases hp⟩
    | some p =>
     simp only[rfEnd]at hrf
     split at hrf
     ·rename_i te cs' hbx
      cases hte:Nat.beq te p.1
      ·rw[hte]at hrf;cases hrf
      rw[hte]at hrf
      injection hrf with hrf
      subst hrf
      obtain rfl:=Nat.eq_of_beq_eq_true hte
      obtain⟨arr,k1,k2,k3,k4⟩:=h'.boxes 100000 _ _ hbx
      have k1:=k1.cells (by simpa[zdu]using hsm)
      obtain⟨Lf,o1,o2,o3⟩:=z3q h' p1 k3 n2
      have hs0:z3k σ' E' w' (σ'.slot 100000) (z5b oo a' 100000):=h'.slots 100000
      have hk:=hq.1
      simp only[zfm]at hk
      split at hk
      ·rename_i hsl
       rw[hsl]at hs0
       obtain⟨hp,_⟩:=(show z1f σ' E' w' (.box 100000 0) _ from hs0)
       match hal:args.toList,hlen with
       | [],hlen=>
        have:args.size=0:=by simpa using congrArg List.length hal
        rw[this]at hlen
        simp[zj7]at hlen
       | u::us,hlen =>
       have hu:z5b oo a' 100000=u:=by
        unfold z5b
        rw[if_neg (by omega)]
        exact z8o (by rw[hal];rfl)
       rw[hu]at hp
       refine⟨Lf,⟨E'.bb 100000,⟨hp,arr,k1,k4,o1⟩,λhm=>?_⟩,o2,o3,λg p' _ hg=>?_⟩
       ·obtain⟨q,_,hq'⟩:=o3 _ hm
        rcases hq' with hq' | hq'<;>rw[k2]at hq'<;>cases hq'
       ·simp only[List.head?_cons,Option.some.injEq]at hg
        rw[hp]at hg
        injection hg with hg
        injection hg with hg
        injection hg with hg
        rw[<-hg]
        exact k2
      ·cases hk
     ·cases hrf
   refine⟨v,r1,vs,Lf,Lr,rfl,r2,l1,m1,List.nodup_append.2 ⟨l2,m2,λx hx z hz e=>?_⟩,λk hk=>?_,λg p hp hg hm=>?_,h'.same.os,h'.same.tape,h'.same.output,h'.same.size,λk hk hkL=>(h'.same.old k hk (st.out k hkL)).2⟩
   ·subst e
    obtain⟨q,q1,q2⟩:=l3 x hx
    obtain⟨q',q1',q2'⟩:=m3 x hz
    exact n3 q q1 q' q1' (z56 q2 q2')
   ·rcases List.mem_append.1 hk with hk | hk
    ·obtain⟨q,q1,q2⟩:=l3 k hk
     exact hold k q q2
    ·obtain⟨q,q1,q2⟩:=m3 k hk
     exact hold k q q2
   ·have hlg:=m4 g p hp hg
    rcases List.mem_append.1 hm with hm | hm
    ·obtain⟨q,_,hq'⟩:=l3 _ hm
     rcases hq' with hq' | hq'<;>rw[hlg]at hq'<;>cases hq'
    ·obtain⟨q,_,hq'⟩:=m3 _ hm
     rcases hq' with hq' | hq'<;>rw[hlg]at hq'<;>cases hq'
  ·cases hfin
 refine calls_of_wp hf hb (z35 hT (hΓ.at hI λk hk=>st.out k λhl=>hBL k hl hk) hm c pl hc hR hr ?_ (zcb.join ?_ _))
 ·intro ch a a' w' hq
  obtain⟨_,v,vs,L',Lr,he,_⟩:=hq
  cases he
 ·intro e σ' E' a' w' hr' h'
  cases e with
  | nrm =>
   obtain⟨d1,v,d2,vs,L',Lr,d3,d4⟩:=hend σ' E' a' w' hr' h'
   exact⟨d1,v,d2,v,vs,L',Lr,rfl,d4⟩
  | ret =>
   obtain⟨d1,v,d2,vs,L',Lr,d3,d4⟩:=hend σ' E' a' w' hr' h'
   exact⟨d1,v,d2,v,vs,L',Lr,rfl,d4⟩
  | exit i=>cases hr'
end
def z1n:Gm:=⟨λ_=>none,λ_=>none,λ_=>none,λ_=>none,λ_=>none⟩
def GOk.nil[DC]{P:Program}[Inv P]:GOk P z1n:=⟨λf en h=>(by cases h),λf en h=>(by cases h),λf en h=>(by cases h),λf en h=>(by cases h),λf en h=>(by cases h)⟩
def z3m(Γ:Gm)(f:Nat)(en:z24):Gm:=⟨λk=>cond (Nat.beq k f) (some en) (Γ.g k),Γ.m,Γ.v,Γ.n,Γ.s⟩
def addM(Γ:Gm)(f:Nat)(en:z7c):Gm:=⟨Γ.g,λk=>cond (Nat.beq k f) (some en) (Γ.m k),Γ.v,Γ.n,Γ.s⟩
def addS(Γ:Gm)(f:Nat)(en:zb8):Gm:=⟨Γ.g,Γ.m,Γ.v,Γ.n,λk=>cond (Nat.beq k f) (some en) (Γ.s k)⟩
def flatB(rs:List PT):Bool:=rs.all λp=>p.agg||Nat.beq p.t.nc 1
def zbv{rs:List PT}(hf:flatB rs=true):∀p∈rs,p.agg=false->p.t.nc=1:=λp hp ha=>by
 have:=List.all_eq_true.1 hf p hp
 rw[ha]at this
 exact Nat.eq_of_beq_eq_true (by simpa using this)
def GOk.add[DC]{P:Program}[Inv P]{Γ:Gm}(h:GOk P Γ){f:Nat}{en:z24}(he:z0a P f en)(hf:flatB en.sig.rs=true):GOk P (z3m Γ f en):=by
 refine⟨λk en' hk=>?_,h.m,h.v,h.n,h.s⟩
 simp only[z3m]at hk
 cases hb:Nat.beq k f
 ·rw[hb]at hk;exact h.g k en' hk
 ·rw[hb]at hk
  injection hk with hk
  subst hk
  obtain rfl:=Nat.eq_of_beq_eq_true hb
  exact⟨he,zbv hf⟩
def GOk.addM[DC]{P:Program}[Inv P]{Γ:Gm}(h:GOk P Γ){f:Nat}{en:z7c}(he:z3f P f en)(hf:flatB en.rs=true):GOk P (addM Γ f en):=by
 refine⟨h.g,λk en' hk=>?_,h.v,h.n,h.s⟩
 simp only[Fw.addM]at hk
 cases hb:Nat.beq k f
 ·rw[hb]at hk;exact h.m k en' hk
 ·rw[hb]at hk
  injection hk with hk
  subst hk
  obtain rfl:=Nat.eq_of_beq_eq_true hb
  exact⟨he,zbv hf⟩
def GOk.addS[DC]{P:Program}[Inv P]{Γ:Gm}(h:GOk P Γ){f:Nat}{en:zb8}(he:z6s P f en):GOk P (addS Γ f en):=by
 refine⟨h.g,h.m,h.v,h.n,λk en' hk=>?_⟩
 simp only[Fw.addS]at hk
 cases hb:Nat.beq k f
 ·rw[hb]at hk;exact h.s k en' hk
 ·rw[hb]at hk
  injection hk with hk
  subst hk
  obtain rfl:=Nat.eq_of_beq_eq_true hb
  exact he
def zgd:Code->List Nat->Code
 | c,[]=>c
 | .seq a _,0::p=>zgd a p
 | .seq _ b,_::p=>zgd b p
 | .cond _ a _,0::p=>zgd a p
 | .cond _ _ b,_::p=>zgd b p
 | .block _ c,_::p=>zgd c p
 | .loop c,_::p=>zgd c p
 | c,_=>c
def z1q(f:Func):Code:=match f.body with | some c=>c | none=>.skip
def w64(n:Int):Int:=IntKind.i64.wrap n
def inB(n:Int)(m:Nat):Bool:=decide (0<=n)&&decide (n<(m:Int))
end Go.Fw
namespace Go.Fw
open Go.RowKit
section
variable {P : Program} {σ σ' : St} {E E' : Env} {w w' : World} {w0 : World} {lab0 : Nat → Lab} {oo : Nat → Value} {n : Nat} {a : Act} {T : Tab} {Γ : Gm} {B : Nat → Option z00} {N : Nat} [DC]
end
end Go.Fw
namespace Go.Fw
open Go.RowKit
def zbs(ps:List PT)(X:Dat ps):St:=z16 (z3l ps X 0 0).1 [] []
def zhg(T:Tab)(e:Nat)(t:Ty)(rv:List ResultVar)(σ:St):Option (List t.den) :=
 match z9j T σ rv with
 | some [.c (.own r)]=>match σ.row r with
  | some row=>cond (Nat.beq row.e e&&!row.deep) (z5z row.t t row.xs) none
  | none=>none
 | _=>none
def finKS(T:Tab)(e:Nat)(t:Ty)(rv:List ResultVar):Ex->St->Option (List t.den)
 | .nrm,σ=>zhg T e t rv σ
 | .ret,σ=>zhg T e t rv σ
 | .exit _,_=>none
section
variable {P : Program} {T : Tab} {Γ : Gm} {B : Nat → Option z00} [DC]
theorem zf9 [Inv P] {f : Nat} {fn : Func} {c : Code} {e : Nat} {t : Ty} {ps : List PT} {pre : Option (Dat ps → Bool)} {val : Dat ps → List t.den} {pl : z9p} {je : Option z00} (hf : P.funcs[f]? = some fn) (hb : fn.body = some c) (hname : (fn.name == "runtime.NumGoroutine") = false)
  (hm:P.follows .mixedOrders=true) (hT:TOk P T) (hΓ:GOk P Γ) (hc:z57 fn.ntmps c=true) (hn:Nat.ble ps.length fn.ntmps=true) (hn2:Nat.ble fn.ntmps 100000=true) (hno:z7d ps=true)
  (hG:∀X,zoq ps X->z3s pre X=true->∃N,z0p Γ T B N c pl (zbs ps X) (z14 je (finKS T e t fn.results.toList))=some (val X)):z6s P f ⟨ps,e,t,pre,val⟩:=by
 intro w args S X ha hpre hI hBS
 have ha:z61 w S ps args.toList X []:=ha
 obtain⟨N,hr⟩:=hG X ha.bd hpre
 have hn:=Nat.le_of_ble_eq_true hn
 have hn2:=Nat.le_of_ble_eq_true hn2
 have hlen:args.size=ps.length:=by
  have:=ha.len
  simpa using this
 refine .inl ⟨?_, ?_⟩
 ·have h1 : ¬ fn.name = "runtime.NumGoroutine" := by simpa using hname
  have h2:¬ fn.body=none:=by rw[hb];simp
  simp[callFunc,hf,h1,h2]
 obtain⟨f2,v2,a2,b2⟩:=z8c (i:=0) (j:=0) ha List.nodup_nil
 classical
 let E:Env:=⟨λk=>if S k then .st else .dead,v2,λ_=>0⟩
 have hst:∀k,S k->E.lab k=.st:=λk hk=>if_pos hk
 have hdd:∀k,¬ S k->E.lab k=.dead:=λk hk=>if_neg hk
 have hrows:(z3l ps X 0 0).2=[]:=by
  have:∀{ps:List PT} {X:Dat ps} {i j:Nat},z7d ps=true->(z3l ps X i j).2=[]:=by
   intro ps
   induction ps with
   | nil=>intro X i j _;rfl
   | cons p ps ih =>
    intro X i j h
    obtain⟨t,agg,io⟩:=p
    simp only[z7d,List.all_cons,Bool.and_eq_true,Bool.not_eq_true']at h
    obtain⟨hio,h⟩:=h
    subst hio
    exact ih h
  exact this hno
 obtain⟨g3,_⟩:=b2 (zbs ps X) E (λk hk=>by cases hk) hst (λp hp=>rfl) (λp hp=>by rw[hrows]at hp;cases hp)
 let oo:Nat->Value:=λt=>undef
 have hsz:(args++Array.replicate (fn.ntmps-args.size) undef).size=fn.ntmps:=by
  rw[Array.size_append,Array.size_replicate]
  omega
 have hR:R w E.lab oo fn.ntmps (zbs ps X) E { tmps:=args++Array.replicate (fn.ntmps-args.size) undef,defers:=[] } w:=by
  refine⟨hn2,hsz,rfl,λt=>?_,λb te cs hb=>(by cases hb),λr row hr=>(by cases hr),⟨rfl,⟨rfl,λ_=>Nat.le_refl _⟩,rfl,Nat.le_refl _,λk hk hl=>⟨hl,rfl⟩,λk hk hl=>⟨hl,rfl⟩⟩⟩
  show z3k (zbs ps X) E w (z5v (z3l ps X 0 0).1 t) _
  refine zbc λp hp ep=>?_
  obtain⟨m,v,q1,q2,q3⟩:=g3 p hp
  have hlt:m<args.size:=by
   have:=(List.getElem?_eq_some_iff.1 q1).1
   simpa using this
  have hv:z5b oo { tmps:=args++Array.replicate (fn.ntmps-args.size) undef,defers:=[] } t=v:=by
   unfold z5b
   rw[if_pos (by omega),show t=m by omega]
   show(args++Array.replicate (fn.ntmps-args.size) undef).getD m undef=v
   rw[Array.getD_eq_getD_getElem?,Array.getElem?_append_left hlt]
   have:args[m]? = some v:=by simpa using q1
   rw[this];rfl
  rw[hv]
  exact q3
 have hend:∀σ' E' a' w',zhg T e t fn.results.toList σ'=some (val X)->R w E.lab oo fn.ntmps σ' E' a' w'->a'.defers=[]/\∃v,(results fn a'.tmps).run P w'=.ok v w'/\zos w S e t (val X) v w':=by
  intro σ' E' a' w' hfin h'
  refine⟨h'.defers, ?_⟩
  unfold zhg at hfin
  split at hfin
  ·rename_i r hss
   split at hfin
   ·rename_i row hrow
    cases hq:(Nat.beq row.e e&&!row.deep)
    ·rw[hq]at hfin;cases hfin
    rw[hq]at hfin
    simp only[Bool.and_eq_true,Bool.not_eq_true']at hq
    obtain⟨hqe,hqd⟩:=hq
    obtain⟨e2,t2,xs2,dp2,nl2⟩:=row
    obtain rfl:e2=e:=Nat.eq_of_beq_eq_true hqe
    obtain rfl:dp2=false:=hqd
    obtain⟨htt,hys⟩:=z3c (show z5z t2 t xs2=some (val X)from hfin)
    obtain rfl:t2=t:=htt
    have hys:xs2=val X:=hys
    obtain⟨vs,v1,v2⟩:=z8f hT h' hss
    obtain⟨v,r1,r2⟩:=z67 v2
    match vs,v1 with
    | [],v1=>exact v1.elim
    | _::_::_,v1=>exact v1.2.elim
    | [u],v1 =>
    obtain rfl:v=u:=r2
    obtain⟨hv,_,_⟩:=(show z1f σ' E' w' (.own r) v from v1.1)
    obtain⟨css,k1,k2,k3,_⟩:=h'.rows r _ hrow
    rw[<-hv]at k1 k2
    have k3:z1b (λc y=>Rd w' (λk=>E'.lab k=.st) t2 c y) css xs2:=k3
    have fr:∀k,k<w.heap.size->E'.lab k=E.lab k/\w'.heap[k]? = w.heap[k]?:=λk hk=>by
     by_cases hs:S k
     ·have:=h'.same.old k hk (hst k hs)
      exact⟨this.1.trans (hst k hs).symm,this.2⟩
     ·have:=h'.same.gone k hk (hdd k hs)
      exact⟨this.1.trans (hdd k hs).symm,this.2⟩
    refine⟨v,r1,⟨css,by rw[<-hys];exact k1,by
     rw[<-hys]
     refine k3.imp λc y hy=>hy.mono λk hk=>⟨λhv'=>?_, ?_⟩
     ·have:=k2 k hv'
      rw[this]at hk
      cases hk
     ·by_cases hlt:k<w.heap.size
      ·refine .inl (Classical.byContradiction λhs=>?_)
       have:=(fr k hlt).1
       rw[hk,hdd k hs]at this
       cases this
      ·exact .inr (Nat.le_of_not_lt hlt)⟩,λk hk=>Nat.le_of_not_lt λhlt=>?_,h'.same.os,h'.same.tape,h'.same.output,h'.same.size,λk hk=>(fr k hk).2⟩
    have h1:=k2 k hk
    rw[(fr k hlt).1]at h1
    by_cases hs:S k
    ·rw[hst k hs]at h1;cases h1
    ·rw[hdd k hs]at h1;cases h1
   ·cases hfin
  ·cases hfin
 refine calls_of_wp hf hb (z35 hT (hΓ.at hI λk hk=>hst k (hBS k hk)) hm c pl hc hR hr ?_ (zcb.join ?_ _))
 ·intro ch a a' w' hq
  obtain⟨_,v,he,_⟩:=hq
  cases he
 ·intro ex σ' E' a' w' hr' h'
  cases ex with
  | nrm =>
   obtain⟨d1,v,d2,d3⟩:=hend σ' E' a' w' hr' h'
   exact⟨d1,v,d2,v,rfl,d3⟩
  | ret =>
   obtain⟨d1,v,d2,d3⟩:=hend σ' E' a' w' hr' h'
   exact⟨d1,v,d2,v,rfl,d3⟩
  | exit i=>cases hr'
end
def okS[DC]{P:Program}[Inv P]{Γ:Gm}{T:Tab}{B:Nat->Option z00}{f:Nat}{fn:Func}{c:Code}{e:Nat}{t:Ty}{ps:List PT}{pre:Option (Dat ps->Bool)}{val:Dat ps->List t.den}{pl:z9p}{je:Option z00}
  {W:Nat->Dat ps->(Ex->St->Option (List t.den))->Option (List t.den)} (hf:P.funcs[f]? = some fn) (hT:TOk P T) (hΓ:GOk P Γ)
  (ht:∀N X K,z0p Γ T B N c pl (zbs ps X) (z14 je K)=W N X K)
  (hb : (fn.body, fn.name == "runtime.NumGoroutine", P.follows .mixedOrders, z57 fn.ntmps c && (Nat.ble ps.length fn.ntmps && (Nat.ble fn.ntmps 100000 && z7d ps))) = (some c, false, true, true))
  (hG:∀X,zoq ps X->z3s pre X=true->∃N,W N X (finKS T e t fn.results.toList)=some (val X)):z6s P f ⟨ps,e,t,pre,val⟩:=by
 have h4:=congrArg (λq=>q.2.2.2) hb
 simp only[Bool.and_eq_true]at h4
 exact zf9 hf (congrArg Prod.fst hb) (congrArg (λq=>q.2.1) hb) (congrArg (λq=>q.2.2.1) hb) hT hΓ h4.1 h4.2.1 h4.2.2.1 h4.2.2.2 (λX h1 h2=>by
  obtain⟨N,h⟩:=hG X h1 h2
  exact⟨N,(ht N X _).trans h⟩)
end Go.Fw
namespace Go.Fw
open Go.RowKit
abbrev KT(ρ:Type):Type:=Ex->St->Option ρ
section
variable {ρ : Type} {Γ : Gm} {T : Tab} {B : Nat → Option z00} {N : Nat} {c a b : Code} {p pa pb : z9p} {σ : St} {K : KT ρ}
def zmx{id:Nat}{lm:z00}{Z W:Option ρ}(hc:c=.block id a)(hp:p=.mk (some lm) none pa .n)
  (h1:z0p Γ T B N a pa σ (z14 (some lm) (zky id K))=Z) (e:Z=W):z0p Γ T B N c p σ K=W:=by
 subst hc hp e
 exact h1
def zqm{cl:z00}{σ':St}{Z W:Option ρ}(hc:c=.loop a)(hp:p=.mk none (some cl) pa .n)(hs:zc5 cl σ=some σ')
  (h1:z3o (λσ K=>z0p Γ T B N a pa σ K) cl N σ' K=Z) (e:Z=W):z0p Γ T B N c p σ K=W:=by
 subst hc hp e
 show((zc5 cl σ).bind λσ0=>z3o (λσ K=>z0p Γ T B N a pa σ K) cl N σ0 K)=_
 rw[hs]
 exact h1
def viaPeelS{β:Type}(f:β->Option ρ){cl1 cl:z00}{σ':St}{Z W:Option ρ}{k k':β}(hc:(c,p,zc5 cl1 σ)=(Code.loop a,z9p.mk (some cl1) (some cl) pa pb,some σ'))
  (h1:z0p Γ T B N a pb σ' (z14 (some cl) (z84 (λσ''=>z3o (λσ K=>z0p Γ T B N a pa σ K) cl N σ'' K) K))=Z) (h2:k=k') (e:(Z,f k')=(f k,W)):z0p Γ T B N c p σ K=W:=by
 obtain⟨rfl,rfl,hs⟩:c=Code.loop a/\p=z9p.mk (some cl1) (some cl) pa pb/\zc5 cl1 σ=some σ':=⟨congrArg Prod.fst hc,congrArg (λq=>q.2.1) hc,congrArg (λq=>q.2.2) hc⟩
 subst h2
 have e1:Z=f k:=congrArg Prod.fst e
 have e2:f k=W:=congrArg Prod.snd e
 rw[<-e2,<-e1,<-h1]
 show((zc5 cl1 σ).bind λσ0=>z0p Γ T B N a pb σ0 (z14 (some cl) (z84 (λσ''=>z3o (λσ K=>z0p Γ T B N a pa σ K) cl N σ'' K) K)))=_
 rw[hs]
 rfl
end
abbrev I2(α:Type):Type:=Int->Int->α
abbrev I3(α:Type):Type:=Int->Int->Int->α
abbrev I4(α:Type):Type:=Int->Int->Int->Int->α
abbrev I5(α:Type):Type:=Int->Int->Int->Int->Int->α
abbrev I6(α:Type):Type:=Int->Int->Int->Int->Int->Int->α
abbrev I7(α:Type):Type:=Int->Int->Int->Int->Int->Int->Int->α
abbrev I8(α:Type):Type:=Int->Int->Int->Int->Int->Int->Int->Int->α
def z2o:Nat->Code->Nat->Code
 | 0,c,_=>c
 | F+1,c,n=>cond (Nat.ble n 1) c (match c with
  | .seq a b=>cond (Nat.beq (n%2) 0) (z2o F a (n / 2)) (z2o F b (n / 2))
  | .cond _ a b=>cond (Nat.beq (n%2) 0) (z2o F a (n / 2)) (z2o F b (n / 2))
  | .block _ c=>z2o F c (n / 2)
  | .loop c=>z2o F c (n / 2)
  | c=>c)
abbrev yi(n:Int):z11:=.int .i64 n
abbrev xi(n:Int):SV:=.c (.int .i64 n)
abbrev xo(n:Nat):SV:=.c (.own n)
abbrev xb(n:Nat):SV:=.c (.box n 0)
abbrev xB(b:Bool):SV:=.c (.bool b)
abbrev tI:Ty:=.int .i64
abbrev tM(e:Nat):Ty:=.pair tI (.pair tI (.sl e tI))
abbrev LI:Type:=List Int
abbrev LL:Type:=List (List Int)
abbrev MT:Type:=Int×Int×List Int
abbrev LM:Type:=List MT
def fx2{α0 α1 β:Type}{f g:α0->α1->β}(h:∀x0 x1,f x0 x1=g x0 x1):f=g:=funext λx0=>funext λx1=>h x0 x1
def fx3{α0 α1 α2 β:Type}{f g:α0->α1->α2->β}(h:∀x0 x1 x2,f x0 x1 x2=g x0 x1 x2):f=g:=funext λx0=>funext λx1=>funext λx2=>h x0 x1 x2
def fx4{α0 α1 α2 α3 β:Type}{f g:α0->α1->α2->α3->β}(h:∀x0 x1 x2 x3,f x0 x1 x2 x3=g x0 x1 x2 x3):f=g:=funext λx0=>funext λx1=>funext λx2=>funext λx3=>h x0 x1 x2 x3
def fx5{α0 α1 α2 α3 α4 β:Type}{f g:α0->α1->α2->α3->α4->β}(h:∀x0 x1 x2 x3 x4,f x0 x1 x2 x3 x4=g x0 x1 x2 x3 x4):f=g:=funext λx0=>funext λx1=>funext λx2=>funext λx3=>funext λx4=>h x0 x1 x2 x3 x4
def fx6{α0 α1 α2 α3 α4 α5 β:Type}{f g:α0->α1->α2->α3->α4->α5->β}(h:∀x0 x1 x2 x3 x4 x5,f x0 x1 x2 x3 x4 x5=g x0 x1 x2 x3 x4 x5):f=g:=funext λx0=>funext λx1=>funext λx2=>funext λx3=>funext λx4=>funext λx5=>h x0 x1 x2 x3 x4 x5
def fx7{α0 α1 α2 α3 α4 α5 α6 β:Type}{f g:α0->α1->α2->α3->α4->α5->α6->β}(h:∀x0 x1 x2 x3 x4 x5 x6,f x0 x1 x2 x3 x4 x5 x6=g x0 x1 x2 x3 x4 x5 x6):f=g:=funext λx0=>funext λx1=>funext λx2=>funext λx3=>funext λx4=>funext λx5=>funext λx6=>h x0 x1 x2 x3 x4 x5 x6
def fx8{α0 α1 α2 α3 α4 α5 α6 α7 β:Type}{f g:α0->α1->α2->α3->α4->α5->α6->α7->β}(h:∀x0 x1 x2 x3 x4 x5 x6 x7,f x0 x1 x2 x3 x4 x5 x6 x7=g x0 x1 x2 x3 x4 x5 x6 x7):f=g:=funext λx0=>funext λx1=>funext λx2=>funext λx3=>funext λx4=>funext λx5=>funext λx6=>funext λx7=>h x0 x1 x2 x3 x4 x5 x6 x7
def fx9{α0 α1 α2 α3 α4 α5 α6 α7 α8 β:Type}{f g:α0->α1->α2->α3->α4->α5->α6->α7->α8->β}(h:∀x0 x1 x2 x3 x4 x5 x6 x7 x8,f x0 x1 x2 x3 x4 x5 x6 x7 x8=g x0 x1 x2 x3 x4 x5 x6 x7 x8):f=g:=funext λx0=>funext λx1=>funext λx2=>funext λx3=>funext λx4=>funext λx5=>funext λx6=>funext λx7=>funext λx8=>h x0 x1 x2 x3 x4 x5 x6 x7 x8
def zf3{α0 α1 α2 α3 α4 α5 α6 α7 α8 α9 β:Type}{f g:α0->α1->α2->α3->α4->α5->α6->α7->α8->α9->β}(h:∀x0 x1 x2 x3 x4 x5 x6 x7 x8 x9,f x0 x1 x2 x3 x4 x5 x6 x7 x8 x9=g x0 x1 x2 x3 x4 x5 x6 x7 x8 x9):f=g:=funext λx0=>funext λx1=>funext λx2=>funext λx3=>funext λx4=>funext λx5=>funext λx6=>funext λx7=>funext λx8=>funext λx9=>h x0 x1 x2 x3 x4 x5 x6 x7 x8 x9
def zlx{α0 α1 α2 α3 α4 α5 α6 α7 α8 α9 α10 β:Type}{f g:α0->α1->α2->α3->α4->α5->α6->α7->α8->α9->α10->β}(h:∀x0 x1 x2 x3 x4 x5 x6 x7 x8 x9 x10,f x0 x1 x2 x3 x4 x5 x6 x7 x8 x9 x10=g x0 x1 x2 x3 x4 x5 x6 x7 x8 x9 x10):f=g:=funext λx0=>funext λx1=>funext λx2=>funext λx3=>funext λx4=>funext λx5=>funext λx6=>funext λx7=>funext λx8=>funext λx9=>funext λx10=>h x0 x1 x2 x3 x4 x5 x6 x7 x8 x9 x10
def fx12{α0 α1 α2 α3 α4 α5 α6 α7 α8 α9 α10 α11 β:Type}{f g:α0->α1->α2->α3->α4->α5->α6->α7->α8->α9->α10->α11->β}(h:∀x0 x1 x2 x3 x4 x5 x6 x7 x8 x9 x10 x11,f x0 x1 x2 x3 x4 x5 x6 x7 x8 x9 x10 x11=g x0 x1 x2 x3 x4 x5 x6 x7 x8 x9 x10 x11):f=g:=funext λx0=>funext λx1=>funext λx2=>funext λx3=>funext λx4=>funext λx5=>funext λx6=>funext λx7=>funext λx8=>funext λx9=>funext λx10=>funext λx11=>h x0 x1 x2 x3 x4 x5 x6 x7 x8 x9 x10 x11
def fx13{α0 α1 α2 α3 α4 α5 α6 α7 α8 α9 α10 α11 α12 β:Type}{f g:α0->α1->α2->α3->α4->α5->α6->α7->α8->α9->α10->α11->α12->β}(h:∀x0 x1 x2 x3 x4 x5 x6 x7 x8 x9 x10 x11 x12,f x0 x1 x2 x3 x4 x5 x6 x7 x8 x9 x10 x11 x12=g x0 x1 x2 x3 x4 x5 x6 x7 x8 x9 x10 x11 x12):f=g:=funext λx0=>funext λx1=>funext λx2=>funext λx3=>funext λx4=>funext λx5=>funext λx6=>funext λx7=>funext λx8=>funext λx9=>funext λx10=>funext λx11=>funext λx12=>h x0 x1 x2 x3 x4 x5 x6 x7 x8 x9 x10 x11 x12
def fx14{α0 α1 α2 α3 α4 α5 α6 α7 α8 α9 α10 α11 α12 α13 β:Type}{f g:α0->α1->α2->α3->α4->α5->α6->α7->α8->α9->α10->α11->α12->α13->β}(h:∀x0 x1 x2 x3 x4 x5 x6 x7 x8 x9 x10 x11 x12 x13,f x0 x1 x2 x3 x4 x5 x6 x7 x8 x9 x10 x11 x12 x13=g x0 x1 x2 x3 x4 x5 x6 x7 x8 x9 x10 x11 x12 x13):f=g:=funext λx0=>funext λx1=>funext λx2=>funext λx3=>funext λx4=>funext λx5=>funext λx6=>funext λx7=>funext λx8=>funext λx9=>funext λx10=>funext λx11=>funext λx12=>funext λx13=>h x0 x1 x2 x3 x4 x5 x6 x7 x8 x9 x10 x11 x12 x13
def fx15{α0 α1 α2 α3 α4 α5 α6 α7 α8 α9 α10 α11 α12 α13 α14 β:Type}{f g:α0->α1->α2->α3->α4->α5->α6->α7->α8->α9->α10->α11->α12->α13->α14->β}(h:∀x0 x1 x2 x3 x4 x5 x6 x7 x8 x9 x10 x11 x12 x13 x14,f x0 x1 x2 x3 x4 x5 x6 x7 x8 x9 x10 x11 x12 x13 x14=g x0 x1 x2 x3 x4 x5 x6 x7 x8 x9 x10 x11 x12 x13 x14):f=g:=funext λx0=>funext λx1=>funext λx2=>funext λx3=>funext λx4=>funext λx5=>funext λx6=>funext λx7=>funext λx8=>funext λx9=>funext λx10=>funext λx11=>funext λx12=>funext λx13=>funext λx14=>h x0 x1 x2 x3 x4 x5 x6 x7 x8 x9 x10 x11 x12 x13 x14
def fx16{α0 α1 α2 α3 α4 α5 α6 α7 α8 α9 α10 α11 α12 α13 α14 α15 β:Type}{f g:α0->α1->α2->α3->α4->α5->α6->α7->α8->α9->α10->α11->α12->α13->α14->α15->β}(h:∀x0 x1 x2 x3 x4 x5 x6 x7 x8 x9 x10 x11 x12 x13 x14 x15,f x0 x1 x2 x3 x4 x5 x6 x7 x8 x9 x10 x11 x12 x13 x14 x15=g x0 x1 x2 x3 x4 x5 x6 x7 x8 x9 x10 x11 x12 x13 x14 x15):f=g:=funext λx0=>funext λx1=>funext λx2=>funext λx3=>funext λx4=>funext λx5=>funext λx6=>funext λx7=>funext λx8=>funext λx9=>funext λx10=>funext λx11=>funext λx12=>funext λx13=>funext λx14=>funext λx15=>h x0 x1 x2 x3 x4 x5 x6 x7 x8 x9 x10 x11 x12 x13 x14 x15
def zae{α:Type}(μ:α->Nat)(pre:α->Bool)(m:Nat)(X:α):Bool:=Nat.blt (μ X) m&&pre X
def z3f.rec[DC]{P:Program}[Inv P]{f:Nat}{rf:Rf}{ps rs:List PT}{pre:RfD rf×Dat ps->Bool}{val:RfD rf×Dat ps->RfD rf×Dat rs}(μ:RfD rf×Dat ps->Nat)
  (step:∀m,z3f P f ⟨rf,ps,rs,some (zae μ pre m),val⟩->z3f P f ⟨rf,ps,rs,some (zae μ pre (m+1)),val⟩):z3f P f ⟨rf,ps,rs,some pre,val⟩:=by
 have all:∀m,z3f P f ⟨rf,ps,rs,some (zae μ pre m),val⟩:=by
  intro m
  induction m with
  | zero =>
   intro w args L X _ _ _ hG _ _
   have:zae μ pre 0 X=false:=by simp[zae]
   simp[z3s,this]at hG
  | succ m ih=>exact step m ih
 intro w args L X h1 h2 h3 hG hI hB
 have hp:pre X=true:=hG
 refine z3n.mono (all (μ X+1) w args L X h1 h2 h3 (show zae μ pre (μ X+1) X=true by simp[zae,hp]) hI hB) ?_
 rintro e w' ⟨v,vs,Lf,Lr,he,A⟩
 exact⟨v,vs,Lf,Lr,he,⟨A.ret,A.res,A.ref,A.nodup,A.fresh,A.notg,A.os,A.tape,A.output,A.size,A.old⟩⟩
end Go.Fw
