/- The framework: what a symbolic run of the model's code tells, proved sound. Nothing is assumed. -/
import Derived.Test.YtillpdbmnjkjiaaFwb
import Derived.WalkKit
import Derived.ProofKit
import Derived.OpenShut
import Derived.ShutString
import Derived.ChangeOld
import Derived.Below
import Derived.Carry
import Derived.SizedLaws
import Derived.ChangeCalls
set_option linter.unusedVariables false
set_option linter.unusedSimpArgs false
namespace Go.Fw
open Go.RowKit
structure Gm where
 g:Nat→Option z2v
 m:Nat→Option zat
 v:Nat→Option z5q
 n:Nat→Option zas
def zfa:Op→Option (Operand × Operand × Operand)
 | .pick c x y=>some (c,x,y)
 | _=>none
def znw:Op→Option (Nat × List Operand)
 | .call { callee:=.value (.func f),args:=args,argTypes:=_ }=>some (f,args.toList)
 | _=>none
def zim (σ:St):Op→Option (Nat × List Operand)
 | .call { callee:=.value x,args:=args,argTypes:=_ }=>match ev σ x with
  | .c (.fn f [])=>some (f,args.toList)
  | _=>none
 | _=>none
noncomputable def z7e {ρ:Type} (a b:Option ρ):Option ρ:=by classical exact if a = b then a else none
@[reducible] noncomputable def bo {ρ:Type} (a:Option ρ):Option ρ:=z7e a a
theorem zq1 {ρ:Type} {a b:Option ρ} {r:ρ} (h:z7e a b = some r):a = some r∧b = some r:=by
 unfold z7e at h
 split at h
 ·rename_i e
  exact ⟨h,e ▸ h⟩
 ·cases h
theorem z3h {ρ:Type} (a:Option ρ):z7e a a = a:=by
 unfold z7e
 exact if_pos rfl
noncomputable def zyj {ρ:Type} (step:Nat→Option ρ):List Nat→Option ρ
 | []=>none
 | [i]=>step i
 | i :: j :: is=>z7e (step i) (zyj step (j :: is))
theorem zhb {ρ:Type} {step:Nat→Option ρ} {r:ρ}:∀ {is:List Nat},zyj step is = some r→∀ i ∈ is,step i = some r
 | [],h,_,_=>by cases h
 | [i],h,j,hj=>by
  obtain rfl:=List.mem_singleton.1 hj
  exact h
 | i :: j :: is,h,k,hk=>by
  obtain ⟨h1,h2⟩:=zq1 h
  rcases List.mem_cons.1 hk with rfl | hk
  ·exact h1
  ·exact zhb h2 k hk
def eqOp:BinOp→Bool
 | .eql=>true
 | .neq=>true
 | _=>false
def zxs (T:Tab) (σ:St):Op→Bool
 | .binOp op t x y _=>eqOp op && (match T t,ev σ x,ev σ y with
  | some ti,.c (.sn _ _ _ _),.c .nil=>ti.el.isSome
  | some ti,.c (.own r),.c .nil=>ti.el.isSome && (match σ.row r with
   | some row=>!row.nilE
   | none=>false)
  | _,_,_=>false)
 | _=>false
structure zfm where
 d:Nat
 r:Nat
 i:Int
 f:Nat
 el:Option (Nat × Int)
def zt5 (T:Tab) (σ:St) (o:Oper):Option zfm:=match o.guard,o.op,o.dst with
 | none,.load t x,some d=>match ev σ x with
  | .c (.elt r i f)=>match σ.row r,T t with
   | some row,some ti=>cond (row.deep && (ti.el.isSome && !ti.agg)) (some ⟨d,r,i,f,none⟩) none
   | _,_=>none
  | _=>none
 | _,_,_=>none
inductive PinM where
 | no
 | still (p:zfm)
 | sub (p:zfm) (f:Nat) (args:List Operand)
 | put (p:zfm) (e:Nat) (k:Int) (t:Nat) (x:Operand)
def zvr (d:Nat):Option Operand→Bool
 | some (.tmp e)=>Nat.beq e d && Nat.blt d 100000
 | _=>false
def z6b (d:Nat):Option Nat→Bool
 | some e=>!(Nat.beq e d)
 | none=>true
def elPin (T:Tab) (σ:St) (p:zfm) (op:Op) (dst:Option Nat):Option zfm:=match op,dst with
 | .indexAddr t (.tmp d) i,some e=>cond (Nat.beq d p.d && (Nat.blt d 100000 && !(Nat.beq e d))) (match ev σ (.tmp d),ev σ i,T t with
  | .c (.sn _ _ _ _),.c (.int _ k),some ti=>match ti.el with
   | some el=>match T el,σ.row p.r with
    | some ei,some row=>cond (Nat.beq ei.zero.length 1) (match zd3 row.t (row.xs.getD p.i.toNat row.t.dflt) p.f with
     | some ⟨(_,.int _),_⟩=>some ⟨p.d,p.r,p.i,p.f,some (e,k)⟩
     | _=>none) none
    | _,_=>none
   | none=>none
  | _,_,_=>none) none
 | _,_=>none
def zsz (p:zfm) (op:Op) (dst:Option Nat):Option (Nat × Int × Nat × Operand):=match op,dst,p.el with
 | .store t (.tmp e') x,none,some (e,k)=>cond (Nat.beq e' e && (Nat.blt e 100000 && Nat.blt p.d 100000)) (some (e,k,t,x)) none
 | _,_,_=>none
def za6 (p:zfm) (dst:Option Nat):Bool:=match p.el with
 | some (e,_)=>z6b e dst
 | none=>true
def lk (N:Nat) (b:Bool):Bool:=match N with
 | 0=>b
 | _ + 1=>b
theorem z1x (N:Nat) (b:Bool):lk N b = b:=by cases N <;> rfl
def lkC (N:Nat):z1e→z1e
 | .bool b=>.bool (lk N b)
 | c=>c
def lkSV (N:Nat):SV→SV
 | .c x=>.c (lkC N x)
 | .agg l=>.agg l
 | .tup l=>.tup (l.map fun p=>(p.1,p.2.map (lkC N)))
theorem lkC_eq (N:Nat) (c:z1e):lkC N c = c:=by cases c <;> simp [lkC,z1x]
theorem zy2 (N:Nat) (s:SV):lkSV N s = s:=by
 have h:lkC N = id:=funext (lkC_eq N)
 cases s <;> simp [lkSV,lkC_eq,h]
def zy3 (N:Nat) (op:Op) (c:Bool):Bool:=match op with
 | .binOp .quo _ _ _ _=>lk N c
 | .binOp .rem _ _ _ _=>lk N c
 | .binOp .shl _ _ _ _=>lk N c
 | .binOp .shr _ _ _ _=>lk N c
 | .indexAddr _ _ _=>lk N c
 | .index _ _ _=>lk N c
 | .slice _ _ _ _ _=>lk N c
 | _=>c
def zy1 (N:Nat) (op:Op) (s:SV):SV:=match op with
 | .binOp _ _ _ _ _=>lkSV N s
 | .lookup _ _ _ _=>lkSV N s
 | _=>s
theorem zlk (N:Nat) (op:Op) (c:Bool):zy3 N op c = c:=by
 unfold zy3
 split <;> first | rfl | exact z1x N c
theorem zlj (N:Nat) (op:Op) (s:SV):zy1 N op s = s:=by
 unfold zy1
 split <;> first | rfl | exact zy2 N s
def zql {α:Type} (N:Nat) (p:Option (α→Bool)) (X:α):Bool:=match p with
 | none=>true
 | some f=>lk N (f X)
theorem zda {α:Type} (N:Nat) (p:Option (α→Bool)) (X:α):zql N p X = z64 p X:=by
 unfold zql z64
 split
 ·rfl
 ·exact z1x N _
def zk4 (N:Nat) (d:Option Nat) (σ:St):St:=match d with
 | some d=>σ.put d (lkSV N (σ.slot d))
 | none=>σ
theorem zdg (N:Nat) (d:Option Nat) (σ:St):zk4 N d σ = σ:=by
 cases d with
 | none=>rfl
 | some d =>
  unfold zk4
  simp only [zy2]
  unfold St.put
  congr 1
  funext t
  unfold upd
  cases hb:Nat.beq t d
  ·rfl
  ·rw [Nat.eq_of_beq_eq_true hb]; rfl
def Out.kL {ρ:Type} (N:Nat):Out→(St→Option ρ)→Option ρ
 | .fail,_=>none
 | .ok σ,K=>K σ
 | .chk c o,K=>cond (lk N c) (o.kL N K) none
 | .br b o1 o2,K=>cond b (o1.kL N K) (o2.kL N K)
 | .call x f,K=>x.bind fun b=>(f b).kL N K
theorem Out.kL_eq {ρ:Type} (N:Nat) (K:St→Option ρ):∀ o:Out,o.kL N K = o.k K
 | .fail=>rfl
 | .ok σ=>rfl
 | .chk c o=>by simp only [Out.kL,Out.k,z1x,Out.kL_eq N K o]
 | .br b o1 o2=>by simp only [Out.kL,Out.k,Out.kL_eq N K o1,Out.kL_eq N K o2]
 | .call x f=>by
  simp only [Out.kL,Out.k]
  congr 1
  funext b
  exact Out.kL_eq N K (f b)
section
variable {ρ:Type}
noncomputable def iDo (Γ:Gm) (T:Tab) (N:Nat) (o:Oper) (σ:St) (K:St→Option ρ):Option ρ :=
 match zfa o.op with
 | some (c,x,y)=>match ev σ c with
  | .c (.bool b)=>cond b (K (zmp σ o.dst (ev σ x))) (K (zmp σ o.dst (ev σ y)))
  | _=>none
 | none=>match zim σ o.op with
  | some (f,args)=>match Γ.g f with
   | some en=>match y6h en σ (args.map (ev σ)) with
    | some X=>cond (zql N en.pre X) (match zse en σ o.dst (args.map (ev σ)) (en.val X) with
     | some σ'=>K (zk4 N o.dst σ')
     | none=>none) none
    | none=>none
   | none=>match Γ.m f with
    | some en=>match zsj en σ (args.map (ev σ)) with
     | some (qs,X)=>cond (zql N en.pre X) (match zgi en σ o.dst (args.map (ev σ)) qs (en.val X) with
      | some σ'=>K (zk4 N o.dst σ')
      | none=>none) none
     | none=>none
    | none=>match Γ.v f with
     | some en=>match zsh en σ (args.map (ev σ)) with
      | some (qs,X)=>cond (zql N en.pre X) (match zmd en σ o.dst (args.map (ev σ)) qs (en.val X) with
       | some σ'=>K (zk4 N o.dst σ')
       | none=>none) none
      | none=>none
     | none=>match Γ.n f with
      | some en=>match zsi en σ (args.map (ev σ)) with
       | some X=>cond (zql N en.pre X) (match zme en σ o.dst (args.map (ev σ)) (en.val X) with
        | some σ'=>K σ'
        | none=>none) none
       | none=>none
      | none=>none
  | none=>match z9v T σ o.op with
   | some (c,s)=>cond (zxs T σ o.op) (cond (lk N c) (K (zmp σ o.dst s)) (z7e (K (zmp σ o.dst (.c (.bool true)))) (K (zmp σ o.dst (.c (.bool false))))))
    (cond (zy3 N o.op c) (K (zmp σ o.dst (zy1 N o.op s))) none)
   | none=>(aMem T σ o.dst o.op).kL N K
def gslot (ops:Array Oper) (j:Nat):Option Nat:=match ops[j]? with
 | some o=>o.dst
 | none=>none
def zha (ops:Array Oper) (o:Oper) (σ:St) (F:St→Option ρ) (K:St→Option ρ):Option ρ :=
 match o.guard with
 | none=>F σ
 | some (j,want)=>match gslot ops j with
  | some t=>match σ.slot t with
   | .c (.bool b)=>cond b
    (cond want (F (σ.put t (.c (.bool true)))) (K (zmp (σ.put t (.c (.bool true))) o.dst (.tup []))))
    (cond want (K (zmp (σ.put t (.c (.bool false))) o.dst (.tup []))) (F (σ.put t (.c (.bool false)))))
   | .tup _=>K (zmp σ o.dst (.tup []))
   | _=>none
  | none=>none
def z4t:Op→Bool
 | .move _=>true
 | .assign _=>true
 | .load _ _=>true
 | .indexAddr _ _ _=>true
 | .fieldAddr _ _ _=>true
 | .binOp _ _ _ _ _=>true
 | .unOp _ _ _=>true
 | .index _ _ _=>true
 | .call { callee:=.builtin .len,args:=_,argTypes:=_ }=>true
 | .call { callee:=.builtin .min,args:=_,argTypes:=_ }=>true
 | .call { callee:=.builtin .max,args:=_,argTypes:=_ }=>true
 | .convert _ _ _=>true
 | .extract _ _=>true
 | .nilCheck _=>true
 | _=>false
noncomputable def iSub (Γ:Gm) (N:Nat) (p:zfm) (f:Nat) (args:List Operand) (dst:Option Nat) (σ:St) (K:St→Option ρ):Option ρ :=
 match Γ.g f,σ.row p.r with
 | some en,some row=>match zc2 row p.r p.i p.f σ.row en.sig.ps (args.map (ev σ)) with
  | some X=>cond (zql N en.pre X) (match zn0 row p.i p.f en.sig.ps (en.val X).1 with
   | some x'=>match zin en σ dst [p.r] (upd σ.row p.r (some ⟨row.e,row.t,row.xs.set p.i.toNat x',row.deep,row.nilE⟩)) (en.val X).2 with
    | some σ'=>K (zk4 N dst σ')
    | none=>none
   | none=>none) none
  | none=>none
 | _,_=>none
def zti (T:Tab) (p:zfm) (k:Int) (t:Nat) (x:Operand) (σ:St) (K:St→Option ρ):Option ρ :=
 match σ.row p.r,T t,ev σ x with
 | some row,some ti,.c (.int kk m)=>cond (Nat.beq ti.zero.length 1) (match zd3 row.t (row.xs.getD p.i.toNat row.t.dflt) p.f with
  | some ⟨(_,.int k'),ys⟩=>cond (ikEq kk k') (match zd2 row.t (row.xs.getD p.i.toNat row.t.dflt) p.f (.int k') (ys.set k.toNat m) with
   | some x'=>K ((z9u [p.r] σ).withRow (upd σ.row p.r (some ⟨row.e,row.t,row.xs.set p.i.toNat x',row.deep,row.nilE⟩)))
   | none=>none) none
  | _=>none) none
 | _,_,_=>none
def zl6 (Γ:Gm) (T:Tab) (σ:St) (o:Oper) (pin:Option zfm):PinM:=match zt5 T σ o with
 | some p=>.still p
 | none=>match pin with
  | none=>.no
  | some p=>match o.guard with
   | some _=>.no
   | none=>match zim σ o.op with
    | some (f,args)=>match Γ.g f with
     | some en=>cond (zvr p.d (zc9 en.sig.ps args) && z80 en.sig.ps) (.sub p f args) .no
     | none=>.no
    | none=>match elPin T σ p o.op o.dst with
     | some p'=>.still p'
     | none=>match zsz p o.op o.dst with
      | some (e,k,t,x)=>.put p e k t x
      | none=>cond (z4t o.op && (z6b p.d o.dst && za6 p o.dst)) (.still p) .no
noncomputable def iOps (Γ:Gm) (T:Tab) (N:Nat) (ops:Array Oper):List Nat→Option zfm→St→(St→Option ρ)→Option ρ
 | [],_,σ,K=>K σ
 | i :: rest,pin,σ,K=>match ops[i]? with
  | some o=>match zl6 Γ T σ o pin with
   | .no=>zha ops o σ (fun σ=>iDo Γ T N o σ fun σ'=>iOps Γ T N ops rest none σ' K) fun σ'=>iOps Γ T N ops rest none σ' K
   | .still p=>match z9v T σ o.op with
    | some (c,s)=>cond (zy3 N o.op c) (iOps Γ T N ops rest (some p) (zmp σ o.dst (zy1 N o.op s)) K) none
    | none=>none
   | .sub p f args=>iSub Γ N p f args o.dst σ fun σ'=>iOps Γ T N ops rest none σ' K
   | .put p _ k t x=>zti T p k t x σ fun σ'=>iOps Γ T N ops rest none σ' K
  | none=>none
def iStill (T:Tab) (N:Nat) (o:Oper) (σ:St) (K:St→Option ρ):Option ρ :=
 match z9v T σ o.op with
 | some (c,s)=>cond (zqf o.op s) (cond (zy3 N o.op c) (K (zmp σ o.dst (zy1 N o.op s))) none) none
 | none=>none
def zlt (f:Nat→Bool):List Nat→Option Nat
 | []=>none
 | i :: l=>cond (f i) (some i) (zlt f l)
def zd9 (Γ:Gm) (o:Oper):Bool:=match znw o.op with
 | some (f,_)=>match Γ.g f with
  | some en=>za8 en.sig.ps
  | none=>false
 | none=>match zfa o.op with
  | some _=>true
  | none=>match o.op with
   | .slice _ _ _ _ _=>true
   | .build _ _=>true
   | .makeSlice _ _ _=>true
   | .alloc _=>true
   | .box _ _=>true
   | .buildSlice _ _ _=>true
   | _=>z4t o.op
def znz (Γ:Gm) (ops:Array Oper) (j:Nat):Bool:=match ops[j]? with
 | some oj=>!(zgv oj.op) && (List.range ops.size).any fun i=>!(Nat.beq i j) && (match ops[i]? with
  | some oi=>!(zd9 Γ oi) && !(z8a ops 4 i j || z8a ops 4 j i)
  | none=>false)
 | none=>false
def zo0 (Γ:Gm) (ops:Array Oper) (listed:Array Bool) (i:Nat):Bool:=match ops[i]? with
 | some o=>z4t o.op && (Region.free .any ops listed i && !(znz Γ ops i))
 | none=>false
def zqs (T:Tab) (σ:St) (o:Oper) (pin:Option zfm):Option zfm:=match zt5 T σ o with
 | some p=>some p
 | none=>match pin,o.guard with
  | some p,none=>match elPin T σ p o.op o.dst with
   | some p'=>some p'
   | none=>cond (z6b p.d o.dst && za6 p o.dst) (some p) none
  | _,_=>none
def putOf (o:Oper) (pin:Option zfm):Option (zfm × Nat × Int × Nat × Operand):=match pin,o.guard with
 | some p,none=>match zsz p o.op o.dst with
  | some y=>some (p,y)
  | none=>none
 | _,_=>none
noncomputable def iAny (Γ:Gm) (T:Tab) (N:Nat) (ops:Array Oper):Nat→Array Bool→Option zfm→St→(St→Option ρ)→Option ρ
 | 0,listed,_,σ,K=>cond (Region.ready .any ops listed).isEmpty (K σ) none
 | fuel + 1,listed,pin,σ,K=>match Region.ready .any ops listed with
  | []=>K σ
  | r :: rs=>match zlt (zo0 Γ ops listed) (r :: rs) with
   | some i=>match ops[i]? with
    | some o=>zha ops o σ (fun σ=>iStill T N o σ fun σ'=>iAny Γ T N ops fuel (listed.setIfInBounds i true) (zqs T σ o pin) σ' K) fun σ'=>iAny Γ T N ops fuel (listed.setIfInBounds i true) none σ' K
    | none=>none
   | none=>zyj (fun r=>match ops[r]? with
    | some o=>cond (zd9 Γ o || zj1 ops (znz Γ ops) r) (match putOf o pin with
     | some (p,_,k,t,x)=>cond (zj1 ops (znz Γ ops) r) (zti T p k t x σ fun σ'=>iAny Γ T N ops fuel (listed.setIfInBounds r true) none σ' K) none
     | none=>zha ops o σ (fun σ=>iDo Γ T N o σ fun σ'=>iAny Γ T N ops fuel (listed.setIfInBounds r true) none σ' K) fun σ'=>iAny Γ T N ops fuel (listed.setIfInBounds r true) none σ' K) none
    | none=>none) (r :: rs)
noncomputable def zqx (Γ:Gm) (T:Tab) (N:Nat) (ops:Array Oper) (draw:Bool) (σ:St) (K:St→Option ρ):Option ρ :=
 cond draw (cond (Region.noSelect ops) (iAny Γ T N ops ops.size (Array.replicate ops.size false) none σ K) none) (iOps Γ T N ops (List.range ops.size) none σ K)
def zih (n:Nat) (ops:Array Oper):Bool:=ops.toList.all fun o=>match o.dst with
 | some d=>Nat.blt d n
 | none=>true
end
structure GOk (P:Program) [Inv P] (Γ:Gm):Prop where
 g:∀ f en,Γ.g f = some en→z0r P f en∧∀ p ∈ en.sig.rs,p.agg = false→p.t.nc = 1
 m:∀ f en,Γ.m f = some en→z56 P f en∧∀ p ∈ en.rs,p.agg = false→p.t.nc = 1
 v:∀ f en,Γ.v f = some en→z2u P f en∧∀ p ∈ en.rs,p.agg = false→p.t.nc = 1
 n:∀ f en,Γ.n f = some en→z9k P f en
structure GAt (P:Program) (w0:World) (lab0:Nat→Lab) (Γ:Gm):Prop where
 g:∀ f en,Γ.g f = some en→zis P w0 lab0 f en∧∀ p ∈ en.sig.rs,p.agg = false→p.t.nc = 1
 m:∀ f en,Γ.m f = some en→zmm P w0 lab0 f en∧∀ p ∈ en.rs,p.agg = false→p.t.nc = 1
 v:∀ f en,Γ.v f = some en→zmk P w0 lab0 f en∧∀ p ∈ en.rs,p.agg = false→p.t.nc = 1
 n:∀ f en,Γ.n f = some en→zml P w0 lab0 f en
theorem GOk.at {P:Program} [Inv P] {Γ:Gm} (h:GOk P Γ) {w0:World} {lab0:Nat→Lab} (hI:Inv.I P w0) (hB:∀ k,Inv.B P k→lab0 k = .st):GAt P w0 lab0 Γ :=
 ⟨fun f en hf=>⟨(h.g f en hf).1.at hI hB,(h.g f en hf).2⟩,fun f en hf=>⟨(h.m f en hf).1.at hI hB,(h.m f en hf).2⟩,fun f en hf=>⟨(h.v f en hf).1.at hI hB,(h.v f en hf).2⟩,fun f en hf=>(h.n f en hf).at hI hB⟩
section
variable {P:Program} {σ σ':St} {E E':Env} {w w':World} {w0:World} {lab0:Nat→Lab} {oo:Nat→Value} {n:Nat} {a:Act} {T:Tab} {Γ:Gm} {ρ:Type} {ops:Array Oper} {N:Nat}
theorem z3i (h:zih n ops = true) {i:Nat} {o:Oper} (ho:ops[i]? = some o):∀ d,o.dst = some d→d < n:=by
 intro d hd
 have hm:o ∈ ops.toList:=by
  have:=Array.mem_of_getElem? ho
  simpa using this
 have:=List.all_eq_true.1 h o hm
 rw [hd] at this
 simpa using this
theorem zif (h:R w0 lab0 oo n σ E a w):∀ args:List Operand,z1u (z47 σ E w) (args.map (ev σ)) (args.map a.eval)
 | []=>trivial
 | x :: l=>⟨z1y h x,zif h l⟩
theorem zc8 {op:Op} {f:Nat} {args:List Operand} (h:znw op = some (f,args)):∃ arr ts,op = .call { callee:=.value (.func f),args:=arr,argTypes:=ts }∧arr.toList = args:=by
 unfold znw at h
 split at h
 ·rename_i f' arr ts
  injection h with h
  injection h with e1 e2
  subst e1
  exact ⟨arr,ts,rfl,e2⟩
 ·cases h
theorem z89 {op:Op} {f:Nat} {args:List Operand} (h:zim σ op = some (f,args)):∃ x arr ts,op = .call { callee:=.value x,args:=arr,argTypes:=ts }∧arr.toList = args∧ev σ x = .c (.fn f []):=by
 unfold zim at h
 split at h
 ·rename_i x arr ts
  split at h
  ·rename_i f' hf
   injection h with h
   injection h with e1 e2
   subst e1
   exact ⟨x,arr,ts,rfl,e2,hf⟩
  ·cases h
 ·cases h
theorem ev_fn (h:R w0 lab0 oo n σ E a w) {x:Operand} {f:Nat} (hx:ev σ x = .c (.fn f [])):a.eval x = .func (.func f) #[] #[]:=by
 have:=z1y h x
 rw [hx] at this
 exact this.1
theorem zxr (hT:TOk P T) (h:R w0 lab0 oo n σ E a w) {o:Oper} (hn:zxs T σ o.op = true):∃ b,(execOp a.eval o).run P w = .ok (.value (.bool b)) w:=by
 obtain ⟨dst,op,oty,pos,after,guard⟩:=o
 simp only at hn
 unfold zxs at hn
 split at hn
 ·rename_i op t x y t'
  simp only [Bool.and_eq_true] at hn
  obtain ⟨hop,hn⟩:=hn
  obtain ⟨ti,A,m,c,ht,hel,hx,hy⟩:∃ (ti:TI) (A:Option Addr) (m c:Nat),T t = some ti∧ti.el.isSome = true∧a.eval x = .slice A m c∧a.eval y = .slice none 0 0:=by
   split at hn
   ·rename_i ti _ _ _ _ ht hx hy
    have rx:=z1y h x
    have ry:=z1y h y
    rw [hx] at rx
    rw [hy] at ry
    obtain ⟨A,m,d,e,_⟩:=rx.c_inv
    injection e with e
    exact ⟨ti,A,m,d,ht,hn,e,ry.c_inv⟩
   ·rename_i ti r ht hx hy
    have rx:=z1y h x
    have ry:=z1y h y
    rw [hx] at rx
    rw [hy] at ry
    obtain ⟨e,_,A,m,d,e'⟩:=rx.c_inv
    exact ⟨ti,A,m,d,ht,(by simp only [Bool.and_eq_true] at hn; exact hn.1),e.trans (e ▸ e'),ry.c_inv⟩
   ·cases hn
  obtain ⟨e,he⟩:=Option.isSome_iff_exists.1 hel
  have hu:=z4j hT ht he
  have heq:(Op.equal t (.slice A m c) (.slice none 0 0)).run P w = .ok A.isNone w:=by
   have key:∀ d,(Op.equalIn (d + 1) t (.slice A m c) (.slice none 0 0)).run P w = .ok A.isNone w:=fun d=>by
    cases A <;> simp [Op.equalIn,run_underlying hu]
   exact key 9999
  have hguard:(eqGuard op t x y (.slice A m c) (.slice none 0 0)).run P w = .ok () w:=z8x (fun u e=>by cases e) (fun e=>by cases e)
  cases op <;> simp only [eqOp] at hop <;> try contradiction
  ·refine ⟨A.isNone, ?_⟩
   simp only [execOp,hx,hy]
   rw [Sem.run_bind,Sem.run_bind,hguard]
   have:binOp .eql t (.slice A m c) (.slice none 0 0) = (do pure (.bool (← Op.equal t (.slice A m c) (.slice none 0 0))):Sem Value):=rfl
   simp [this,heq]
  ·refine ⟨!A.isNone, ?_⟩
   simp only [execOp,hx,hy]
   rw [Sem.run_bind,Sem.run_bind,hguard]
   have:binOp .neq t (.slice A m c) (.slice none 0 0) = (do pure (.bool (!(← Op.equal t (.slice A m c) (.slice none 0 0)))):Sem Value):=rfl
   simp [this,heq]
 ·cases hn
theorem zny (hT:TOk P T) (hΓ:GAt P w0 lab0 Γ) (h:R w0 lab0 oo n σ E a w) {o:Oper} (hd:∀ d,o.dst = some d→d < n) {K:St→Option ρ} {r:ρ} (hr:iDo Γ T N o σ K = some r) {next:Act→World→Prop} {Q:Exit→Act→World→Prop}
  (hK:∀ σ' E' v w',K σ' = some r→R w0 lab0 oo n σ' E' (a.put o.dst v) w'→(zd9 Γ o = true→Ext w w')→next (a.put o.dst v) w'):o.wp P a w next Q:=by
 unfold iDo at hr
 split at hr
 ·rename_i c x y hp
  have hop:o.op = .pick c x y:=by
   obtain ⟨dst,op,oty,pos,after,guard⟩:=o
   simp only at hp ⊢
   cases op <;> simp only [zfa] at hp <;> try contradiction
   injection hp with hp
   injection hp with e1 e2
   injection e2 with e2 e3
   rw [e1,e2,e3]
  split at hr
  ·rename_i b hb
   have hc:=z1y h c
   rw [hb] at hc
   have hc:a.eval c = .bool b:=hc
   have hrun:(execOp a.eval o).run P w = .ok (.value (if b then a.eval x else a.eval y)) w:=by
    simp [execOp,hop,hc,asBool]
   unfold Oper.wp
   rw [hrun]
   cases b
   ·exact hK _ E _ w hr (h.iput hd (z1y h y)) fun _=>Ext.refl w
   ·exact hK _ E _ w hr (h.iput hd (z1y h x)) fun _=>Ext.refl w
  ·cases hr
 ·rename_i hnp
  split at hr
  ·rename_i f args hcall
   split at hr
   ·rename_i en hen
    split at hr
    ·rename_i X hX
     rw [zda] at hr
     cases hpre:z64 en.pre X
     ·rw [hpre] at hr; cases hr
     rw [hpre] at hr
     simp only [cond_true,zdg] at hr
     have hG:en.G X = some (en.val X):=by unfold z2v.G; rw [hpre]; rfl
     split at hr
     ·rename_i σ' hout
      obtain ⟨hE,hfl⟩:=hΓ.g f en hen
      obtain ⟨x0,arr,ts,hop,harr,hx0⟩:=z89 hcall
      have hev:a.eval x0 = .func (.func f) #[] #[]:=(ev_fn h hx0)
      have hs:z1u (z47 σ E w) (args.map (ev σ)) (arr.map a.eval).toList:=by
       rw [Array.toList_map,harr]
       exact zif h args
      have hq:zd9 Γ o = true→za8 en.sig.ps = true:=by
       intro hq
       unfold zd9 at hq
       split at hq
       ·rename_i f' args' hcs
        obtain ⟨arr',ts',hop',_⟩:=zc8 hcs
        rw [hop] at hop'
        injection hop' with hop'
        injection hop' with e1 e2 e3
        injection e1 with e1
        subst e1
        have hx0:SV.c (.fn f' []) = .c (.fn f []):=hx0
        injection hx0 with hx0
        injection hx0 with hx0
        subst hx0
        rw [hen] at hq
        exact hq
       ·rw [hop] at hq
        simp [zfa,z4t] at hq
      have hrun:(execOp a.eval o).run P w = (callFunc f (arr.map a.eval)).run P w:=by
       simp [execOp,hop,resolve,hev,Deferred.ofValue,invoke]
      unfold Oper.wp
      rw [hrun]
      rcases zwk hE h hs hX hG hd hfl hout with ⟨h1,h2⟩ | ⟨v,w',h1,v',E',he,h2,h3⟩
      ·rw [h1,Oper.upon_enter]
       refine h2.mono ?_
       rintro e w' ⟨v,E',rfl,h3,h4⟩
       exact hK σ' E' v w' hr h3 fun hqq=>h4 (hq hqq)
      ·injection he with he
       subst he
       rw [h1]
       exact hK σ' E' v w' hr h2 fun hqq=>h3 (hq hqq)
     ·cases hr
    ·cases hr
   ·rename_i hng
    split at hr
    ·rename_i en hen
     split at hr
     ·rename_i qs X hX
      rw [zda] at hr
      cases hpre:z64 en.pre X
      ·rw [hpre] at hr; cases hr
      rw [hpre] at hr
      simp only [cond_true,zdg] at hr
      split at hr
      ·rename_i σ' hout
       obtain ⟨hE,hfl⟩:=hΓ.m f en hen
       obtain ⟨x0,arr,ts,hop,harr,hx0⟩:=z89 hcall
       have hev:a.eval x0 = .func (.func f) #[] #[]:=(ev_fn h hx0)
       have hs:z1u (z47 σ E w) (args.map (ev σ)) (arr.map a.eval).toList:=by
        rw [Array.toList_map,harr]
        exact zif h args
       have hq:zd9 Γ o = true→False:=by
        intro hq
        unfold zd9 at hq
        split at hq
        ·rename_i f' args' hcs
         obtain ⟨arr',ts',hop',_⟩:=zc8 hcs
         rw [hop] at hop'
         injection hop' with hop'
         injection hop' with e1 e2 e3
         injection e1 with e1
         subst e1
         have hx0:SV.c (.fn f' []) = .c (.fn f []):=hx0
         injection hx0 with hx0
         injection hx0 with hx0
         subst hx0
         rw [hng] at hq
         cases hq
        ·rw [hop] at hq
         simp [zfa,z4t] at hq
       have hrun:(execOp a.eval o).run P w = (callFunc f (arr.map a.eval)).run P w:=by
        simp [execOp,hop,resolve,hev,Deferred.ofValue,invoke]
       unfold Oper.wp
       rw [hrun]
       rcases zsg hE h hs hX hpre hd hfl hout with ⟨h1,h2⟩ | ⟨v,w',h1,v',E',he,h2⟩
       ·rw [h1,Oper.upon_enter]
        refine h2.mono ?_
        rintro e w' ⟨v,E',rfl,h3⟩
        exact hK σ' E' v w' hr h3 fun hqq=>(hq hqq).elim
       ·injection he with he
        subst he
        rw [h1]
        exact hK σ' E' v w' hr h2 fun hqq=>(hq hqq).elim
      ·cases hr
     ·cases hr
    ·obtain ⟨x0,arr,ts,hop,harr,hx0⟩:=z89 hcall
     have hev:a.eval x0 = .func (.func f) #[] #[]:=(ev_fn h hx0)
     have hs:z1u (z47 σ E w) (args.map (ev σ)) (arr.map a.eval).toList:=by
      rw [Array.toList_map,harr]
      exact zif h args
     have hq:zd9 Γ o = true→False:=by
      intro hq
      unfold zd9 at hq
      split at hq
      ·rename_i f' args' hcs
       obtain ⟨arr',ts',hop',_⟩:=zc8 hcs
       rw [hop] at hop'
       injection hop' with hop'
       injection hop' with e1 e2 e3
       injection e1 with e1
       subst e1
       have hx0:SV.c (.fn f' []) = .c (.fn f []):=hx0
       injection hx0 with hx0
       injection hx0 with hx0
       subst hx0
       rw [hng] at hq
       cases hq
      ·rw [hop] at hq
       simp [zfa,z4t] at hq
     have hrun:(execOp a.eval o).run P w = (callFunc f (arr.map a.eval)).run P w:=by
      simp [execOp,hop,resolve,hev,Deferred.ofValue,invoke]
     have fin:∀ σ',K σ' = some r→(z4q P f (arr.map a.eval) w fun e w'=>∃ v E',e = .returned v∧R w0 lab0 oo n σ' E' (a.put o.dst v) w')→o.wp P a w next Q:=by
      intro σ' hr hcalls
      unfold Oper.wp
      rw [hrun]
      rcases hcalls with ⟨h1,h2⟩ | ⟨v,w',h1,v',E',he,h2⟩
      ·rw [h1,Oper.upon_enter]
       refine h2.mono ?_
       rintro e w' ⟨v,E',rfl,h3⟩
       exact hK σ' E' v w' hr h3 fun hqq=>(hq hqq).elim
      ·injection he with he
       subst he
       rw [h1]
       exact hK σ' E' v w' hr h2 fun hqq=>(hq hqq).elim
     split at hr
     ·rename_i en hen
      split at hr
      ·rename_i qs X hX
       rw [zda] at hr
       cases hpre:z64 en.pre X
       ·rw [hpre] at hr; cases hr
       rw [hpre] at hr
       simp only [cond_true,zdg] at hr
       split at hr
       ·rename_i σ' hout
        obtain ⟨hE,hfl⟩:=hΓ.v f en hen
        exact fin σ' hr (zsd hE h hs hX hpre hd hfl hout)
       ·cases hr
      ·cases hr
     ·split at hr
      ·rename_i en hen
       split at hr
       ·rename_i X hX
        rw [zda] at hr
        cases hpre:z64 en.pre X
        ·rw [hpre] at hr; cases hr
        rw [hpre] at hr
        simp only [cond_true] at hr
        split at hr
        ·rename_i σ' hout
         exact fin σ' hr (zsf (hΓ.n f en hen) h hs hX hpre hd hout)
        ·cases hr
       ·cases hr
      ·cases hr
  ·rename_i hnc
   split at hr
   ·rename_i c s hv
    rw [zlk,zlj,z1x] at hr
    cases c
    ·cases hne:zxs T σ o.op
     ·rw [hne] at hr; cases hr
     ·rw [hne] at hr
      obtain ⟨q1,q2⟩:=zq1 (show z7e _ _ = some r from hr)
      obtain ⟨b,h1⟩:=zxr hT h hne
      unfold Oper.wp
      rw [h1]
      cases b
      ·exact hK _ E _ w q2 (h.iput hd rfl) fun _=>Ext.refl w
      ·exact hK _ E _ w q1 (h.iput hd rfl) fun _=>Ext.refl w
    ·have hr:K (zmp σ o.dst s) = some r:=by cases hne:zxs T σ o.op <;> (rw [hne] at hr; exact hr)
     obtain ⟨v,h1,h2⟩:=z62 hT h hv rfl
     unfold Oper.wp
     rw [h1]
     exact hK _ E v w hr (h.iput hd h2) fun _=>Ext.refl w
   ·rename_i hv
    rw [Out.kL_eq] at hr
    obtain ⟨σ',h1,h2⟩:=Out.k_run hr
    have hnq:zd9 Γ o = true→zh4 o.op = true:=by
     intro hq
     unfold aMem at h1
     split at h1
     all_goals first | (cases h1; done) | (rename_i he; rw [he]; unfold zd9 at hq; rw [he] at hq; simp [znw,zfa,z4t,zh4] at hq ⊢; done) | (rename_i he _; rw [he]; unfold zd9 at hq; rw [he] at hq; simp [znw,zfa,z4t,zh4] at hq ⊢; done)
    rcases zwo hT h hd h1 with ⟨v,w',E',g1,gx,g2⟩ | ⟨w',E',g1,g2⟩
    ·unfold Oper.wp
     rw [g1]
     exact hK σ' E' v w' h2 g2 fun hq=>gx (hnq hq)
    ·have hnm:zh4 o.op = false:=by
      cases hm:zh4 o.op
      ·rfl
      ·exfalso
       unfold zh4 at hm
       split at hm
       ·rename_i he
        unfold execOp at g1
        rw [he] at g1
        simp only at g1
        rw [Sem.run_bind] at g1
        cases hX:(Instr.makeSlice _ _ _).run P w <;> rw [hX] at g1 <;> simp [Result.andThen] at g1
       ·rename_i he
        unfold execOp at g1
        rw [he] at g1
        simp only at g1
        rw [Sem.run_bind] at g1
        cases hX:(Instr.alloc _ _ _).run P w <;> rw [hX] at g1 <;> simp [Result.andThen] at g1
       ·rename_i he
        unfold execOp at g1
        rw [he] at g1
        simp only at g1
        rw [Sem.run_bind] at g1
        cases hX:(Instr.box _ _).run P w <;> rw [hX] at g1 <;> simp [Result.andThen] at g1
       ·rename_i he
        unfold execOp at g1
        rw [he] at g1
        simp only at g1
        rw [Sem.run_bind] at g1
        cases hX:(Instr.buildSlice _ _ _).run P w <;> rw [hX] at g1 <;> simp [Result.andThen] at g1
       ·cases hm
     unfold Oper.wp
     rw [g1]
     exact hK σ' E' undef w' h2 g2 fun hq=>by rw [hnm] at hnq; exact absurd (hnq hq) (by simp)
theorem R.seen (h:R w0 lab0 oo n σ E a w) {t:Nat} (ht:t < n) {b:Bool} (hb:σ.slot t = .c (.bool b)):R w0 lab0 oo n (σ.put t (.c (.bool b))) E a w∧a.tmps[t]? = some (.bool b):=by
 have hs:=h.slots t
 rw [hb] at hs
 have hbd:=h.bound
 have hv:z74 oo a t = .bool b:=hs
 unfold z74 at hv
 rw [if_pos (by omega)] at hv
 have hlt:t < a.tmps.size:=by rw [h.size]; exact ht
 have hget:a.tmps[t]? = some (.bool b):=by
  rw [Array.getD_eq_getD_getElem?,Array.getElem?_eq_getElem hlt] at hv
  rw [Array.getElem?_eq_getElem hlt]
  exact congrArg some hv
 refine ⟨?_,hget⟩
 have:=h.put (d:=t) (s:=.c (.bool b)) (v:=.bool b) ht rfl
 have e:a.put (some t) (.bool b) = a:=by
  unfold Act.put
  have:a.tmps.setIfInBounds t (.bool b) = a.tmps:=by
   apply Array.ext_getElem?
   intro i
   rw [Array.getElem?_setIfInBounds]
   by_cases e:t = i
   ·subst e; rw [if_pos rfl,if_pos hlt,hget]
   ·rw [if_neg e]
  simp only [this]
 rwa [e] at this
theorem zac (h:R w0 lab0 oo n σ E a w) (hops:zih n ops = true) {i:Nat} {o:Oper} (ho:ops[i]? = some o) {F K:St→Option ρ} {r:ρ} (hr:zha ops o σ F K = some r) {G:Prop}
  (hF:∀ σ',R w0 lab0 oo n σ' E a w→F σ' = some r→Region.wanted o (yielded ops a.tmps) = true→G)
  (hK:∀ σ',R w0 lab0 oo n σ' E (a.put o.dst undef) w→K σ' = some r→Region.wanted o (yielded ops a.tmps) = false→G):G:=by
 have hd:=z3i hops ho
 unfold zha at hr
 split at hr
 ·rename_i hg
  exact hF σ h hr (by simp [Region.wanted,hg])
 ·rename_i j want hg
  split at hr
  ·rename_i t ht
   have htn:t < n:=by
    unfold gslot at ht
    split at ht
    ·rename_i oj hoj
     exact z3i hops hoj t ht
    ·cases ht
   have hbind:(ops[j]?).bind (·.dst) = some t:=by
    unfold gslot at ht
    split at ht
    ·rename_i oj hoj
     rw [hoj]; exact ht
    ·cases ht
   split at hr
   ·rename_i b hb
    obtain ⟨h1,h2⟩:=h.seen htn hb
    have hy:yielded ops a.tmps j = some b:=by
     unfold yielded
     rw [hbind]
     simp [h2]
    have hw:Region.wanted o (yielded ops a.tmps) = (b == want):=by
     unfold Region.wanted
     rw [hg]
     simp only [hy]
     cases b <;> cases want <;> rfl
    cases b <;> cases want
    ·exact hF _ h1 hr (by rw [hw]; rfl)
    ·exact hK _ (h1.iput (s:=.tup []) hd ⟨#[],rfl,trivial⟩) hr (by rw [hw]; rfl)
    ·exact hK _ (h1.iput (s:=.tup []) hd ⟨#[],rfl,trivial⟩) hr (by rw [hw]; rfl)
    ·exact hF _ h1 hr (by rw [hw]; rfl)
   ·rename_i l hb
    have hs:=h.slots t
    rw [hb] at hs
    obtain ⟨arr,hv,_⟩:=hs
    have hbd:=h.bound
    unfold z74 at hv
    rw [if_pos (by omega)] at hv
    have hlt:t < a.tmps.size:=by rw [h.size]; exact htn
    have hy:yielded ops a.tmps j = none:=by
     unfold yielded
     rw [hbind]
     rw [Array.getD_eq_getD_getElem?,Array.getElem?_eq_getElem hlt] at hv
     have hv:a.tmps[t] = .tuple arr:=hv
     simp [Array.getElem?_eq_getElem hlt,hv]
    exact hK _ (h.iput (s:=.tup []) hd ⟨#[],rfl,trivial⟩) hr (by unfold Region.wanted; rw [hg]; simp [hy])
   ·cases hr
  ·cases hr
theorem zlp (h:R w0 lab0 oo n σ E a w) (hops:zih n ops = true) {i:Nat} {o:Oper} (ho:ops[i]? = some o) {F K:St→Option ρ} {r:ρ} (hr:zha ops o σ F K = some r) {G:Prop}
  (hF:∀ σ',R w0 lab0 oo n σ' E a w→(o.guard = none→σ' = σ)→F σ' = some r→Region.wanted o (yielded ops a.tmps) = true→G)
  (hK:∀ σ',R w0 lab0 oo n σ' E (a.put o.dst undef) w→K σ' = some r→Region.wanted o (yielded ops a.tmps) = false→G):G:=by
 cases hg:o.guard with
 | none =>
  unfold zha at hr
  rw [hg] at hr
  exact hF σ h (fun _=>rfl) hr (by simp [Region.wanted,hg])
 | some q=>exact zac h hops ho hr (fun σ' h' hF' hw=>hF σ' h' (fun hn=>by rw [hg] at hn; cases hn) hF' hw) hK
theorem zau {i:Nat} {o:Oper} (ho:ops[i]? = some o) {next:Act→World→Prop} {Q:Exit→Act→World→Prop} (hw:Region.wanted o (yielded ops a.tmps) = true) (h:o.wp P a w next Q):wpOp P ops Q i next a w:=by
 unfold wpOp
 rw [ho]
 simp only [hw,if_true]
 exact .inl h
theorem zmv {i:Nat} {o:Oper} (ho:ops[i]? = some o) {next:Act→World→Prop} {Q:Exit→Act→World→Prop} (hw:Region.wanted o (yielded ops a.tmps) = false) (h:next (a.put o.dst undef) w):wpOp P ops Q i next a w:=by
 unfold wpOp
 rw [ho]
 simp only [hw]
 exact h
def ElOk (a:Act) (p:zfm):Prop:=∀ e k,p.el = some (e,k)→0≤k∧∃ g m c,a.eval (.tmp p.d) = .slice (some ⟨g,0,none⟩) m c∧k < m∧a.eval (.tmp e) = .pointer (some ⟨g,k.toNat,none⟩)
def zez (σ:St) (E:Env) (a:Act) (w:World) (pin:Option zfm):Prop:=∀ p,pin = some p→p.d < 100000→(∃ row,Pin σ E w p.r p.i p.f row (a.eval (.tmp p.d)))∧ElOk a p
theorem znx {α β:Type} (g:α→β):∀ (ps:List PT) (xs:List α) {x:α},zc9 ps xs = some x→zc9 ps (xs.map g) = some (g x)
 | [],[],_,h=>by cases h
 | [],_ :: _,_,h=>by cases h
 | _ :: _,[],_,h=>by cases h
 | p :: ps,y :: ys,x,h=>by
  simp only [zc9,List.map_cons] at h ⊢
  cases hio:p.io
  ·rw [hio] at h
   exact znx g ps ys h
  ·rw [hio] at h
   injection h with h
   subst h
   rfl
theorem zf6 (hT:TOk P T) (h:R w0 lab0 oo n σ E a w) {o:Oper} {p:zfm} (hp:zt5 T σ o = some p) (hd:∀ d,o.dst = some d→d < n) {c:Bool} {s:SV} (hv:z9v T σ o.op = some (c,s)) (hc:c = true) :
  o.guard = none∧∃ v,(execOp a.eval o).run P w = .ok (.value v) w∧z47 σ E w s v∧zez (zmp σ o.dst s) E (a.put o.dst v) w (some p):=by
 obtain ⟨v,h1,h2⟩:=z62 hT h hv hc
 have hbd:=h.bound
 obtain ⟨dst,op,oty,pos,after,guard⟩:=o
 unfold zt5 at hp
 simp only at hp hd h1 ⊢
 split at hp
 ·rename_i t x d
  split at hp
  ·rename_i r i f hx
   split at hp
   ·rename_i row ti hrow ht
    cases hq:(row.deep && (ti.el.isSome && !ti.agg))
    ·rw [hq] at hp; cases hp
    rw [hq] at hp
    injection hp with hp
    subst hp
    simp only [Bool.and_eq_true,Bool.not_eq_true'] at hq
    refine ⟨rfl,v,h1,h2,fun p hp hlt=>?_⟩
    injection hp with hp
    subst hp
    have hdn:=hd d rfl
    have rx:=z1y h x
    rw [hx] at rx
    obtain ⟨row',g,m,c',e1,e2,e3,e4,e5,e6⟩:=rx.c_inv
    rw [hrow] at e1
    injection e1 with e1
    subst e1
    refine ⟨⟨row,hrow,hq.1,e3,e4,g,m,c',e2, ?_⟩,fun e k he=>by cases he⟩
    have hev:(a.put (some d) v).eval (.tmp d) = v:=by
     show (a.tmps.setIfInBounds d v).getD d undef = v
     rw [zb0 _ _ _ _ (by rw [h.size]; exact hdn),if_pos rfl]
    rw [hev]
    have hagg:=y6g hT ht w
    rw [hq.2.2] at hagg
    simp only [execOp,e6] at h1
    obtain ⟨u,hcl⟩:∃ u,w.cell? ⟨g,i.toNat * row.t.nc + f,none⟩ = some u:=by
     have hal:zq7 σ (.elt r i f) 1 = some (((z57 row.t (row.xs.getD i.toNat row.t.dflt) (cond row.deep (some r) none)).drop f).take 1):=by
      simp only [zq7,hrow]
      rw [show Nat.ble (f + 1) row.t.nc = true from Nat.ble_eq_true_of_le (by omega)]
      rfl
     obtain ⟨ad,vs,f',k1,k2,k3,_⟩:=zcx h hal rx.c_inv
     rw [e6] at k1
     injection k1 with k1
     injection k1 with k1
     exact ⟨vs[f'],by rw [k1]; exact k3 f' _ (List.getElem?_eq_getElem (by omega))⟩
    simp [Instr.loadAt,Instr.sureAddr,loadVar,hagg,hcl] at h1
    rw [hcl,h1]
   ·cases hp
  ·cases hp
 ·cases hp
theorem zvt (hT:TOk P T) (hΓ:GAt P w0 lab0 Γ) (h:R w0 lab0 oo n σ E a w) {o:Oper} (hd:∀ d,o.dst = some d→d < n) {p:zfm} {f:Nat} {args:List Operand} (hcall:zim σ o.op = some (f,args))
  {en:z2v} (hen:Γ.g f = some en) (hio:zvr p.d (zc9 en.sig.ps args) = true) (hone:z80 en.sig.ps = true) (hpin:zez σ E a w (some p)) {K:St→Option ρ} {r:ρ} (hr:iSub Γ N p f args o.dst σ K = some r) {next:Act→World→Prop} {Q:Exit→Act→World→Prop}
  (hK:∀ σ' E' v w',K σ' = some r→R w0 lab0 oo n σ' E' (a.put o.dst v) w'→next (a.put o.dst v) w'):o.wp P a w next Q:=by
 obtain ⟨x0,arr,ts,hop,harr,hx0⟩:=z89 hcall
 have hev:a.eval x0 = .func (.func f) #[] #[]:=ev_fn h hx0
 obtain ⟨x,hx,hxd⟩:∃ x,zc9 en.sig.ps args = some x∧x = .tmp p.d∧p.d < 100000:=by
  unfold zvr at hio
  split at hio
  ·rename_i e he
   simp only [Bool.and_eq_true] at hio
   exact ⟨_,he,by rw [Nat.eq_of_beq_eq_true hio.1],by simpa using hio.2⟩
  ·cases hio
 obtain ⟨rfl,hlt⟩:=hxd
 obtain ⟨⟨row,hp⟩,_⟩:=hpin p rfl hlt
 unfold iSub at hr
 rw [hen,hp.hrow] at hr
 simp only at hr
 split at hr
 ·rename_i X hX
  rw [zda] at hr
  cases hpre:z64 en.pre X
  ·rw [hpre] at hr; cases hr
  rw [hpre] at hr
  simp only [cond_true,zdg] at hr
  have hG:en.G X = some (en.val X):=by unfold z2v.G; rw [hpre]; rfl
  split at hr
  ·rename_i x' hx'
   split at hr
   ·rename_i σ' hout
    obtain ⟨hE,hfl⟩:=hΓ.g f en hen
    have hs:z1u (z47 σ E w) (args.map (ev σ)) (arr.map a.eval).toList:=by
     rw [Array.toList_map,harr]
     exact zif h args
    have hrun:(execOp a.eval o).run P w = (callFunc f (arr.map a.eval)).run P w:=by
     simp [execOp,hop,resolve,hev,Deferred.ofValue,invoke]
    have hvv:zc9 en.sig.ps (arr.map a.eval).toList = some (a.eval (.tmp p.d)):=by
     rw [Array.toList_map,harr]
     exact znx a.eval _ _ hx
    unfold Oper.wp
    rw [hrun]
    rcases zx2 hE h hs hp hone hvv hX hG hx' hd hfl hout with ⟨h1,h2⟩ | ⟨v,w',h1,v',E',he,h2⟩
    ·rw [h1,Oper.upon_enter]
     refine h2.mono ?_
     rintro e w' ⟨v,E',rfl,h3⟩
     exact hK σ' E' v w' hr h3
    ·injection he with he
     subst he
     rw [h1]
     exact hK σ' E' v w' hr h2
   ·cases hr
  ·cases hr
 ·cases hr
theorem zqq {e:Nat} {kk:IntKind} {L:List Nat} {g m c:Nat} {ys:List Int} (ho:Own w (.sl e (.int kk)) L [.slice (some ⟨g,0,none⟩) m c] ys) {k:Nat} (hk:k < m) (x:Int) :
  ∃ w',(storeCells ⟨g,k,none⟩ [.int kk x] 0).run P w = .ok () w'∧Own w' (.sl e (.int kk)) L [.slice (some ⟨g,0,none⟩) m c] (ys.set k x:List Int)∧g ∈ L∧(∀ j,j≠g→w'.heap[j]? = w.heap[j]?)∧w'.heap.size = w.heap.size∧w'.os = w.os∧w'.tape = w.tape∧w'.output = w.output:=by
 obtain ⟨v,css,Ls,hv,h1,rfl,h2⟩:=ho
 injection hv with hv
 subst hv
 have hm:m = ys.length:=by
  rcases h1.2 with ⟨h0,_⟩ | ⟨_,_,_,e0,_⟩
  ·cases h0
  ·injection e0
 subst hm
 have key:∀ {Ls:List (List Nat)} {css:List (List Value)} {ys:List Int},z4k (fun l c y=>Own w (.int kk) l c y) Ls css ys→css.flatten = ys.map (fun y=>Value.int kk y)∧css = ys.map (fun y=>[Value.int kk y])∧Ls = ys.map (fun _=>[]):=by
  intro Ls
  induction Ls with
  | nil =>
   intro css ys h
   cases css with
   | nil=>cases ys with
    | nil=>exact ⟨rfl,rfl,rfl⟩
    | cons _ _=>exact h.elim
   | cons _ _=>cases ys <;> exact h.elim
  | cons l Ls ih =>
   intro css ys h
   cases css with
   | nil=>cases ys <;> exact h.elim
   | cons cc css=>cases ys with
    | nil=>exact h.elim
    | cons y ys =>
     obtain ⟨⟨rfl,rfl⟩,h⟩:=h
     obtain ⟨i1,i2,i3⟩:=ih h
     exact ⟨by simp [i1],by rw [i2]; simp,by rw [i3]; simp⟩
 obtain ⟨j1,j2,j3⟩:=key h2
 have hsz:k + 1≤ys.length * (Ty.int kk).nc:=by show k + 1≤ys.length * 1; omega
 obtain ⟨w',hst,ho',hother,hsize,hos⟩:=ownsRow_over (P:=P) (w:=w) (us:=[.int kk x]) (o:=k) h1 hsz (fun u hu=>by simp at hu; subst hu; rfl)
 refine ⟨w',hst,⟨_,(ys.set k x).map (fun y=>[Value.int kk y]),(ys.set k x).map (fun _=>[]),rfl, ?_, ?_, ?_⟩, ?_,hother,hsize,hos.1,hos.2.1,hos.2.2⟩
 ·show World.ownsRow w' 0 e 1 _ (ys.set k x).length _
  rw [List.length_set]
  have hfl:((ys.set k x).map (fun y=>[Value.int kk y])).flatten = css.flatten.take k ++ [.int kk x] ++ css.flatten.drop (k + 1):=by
   have:((ys.set k x).map (fun y=>[Value.int kk y])).flatten = (ys.set k x).map (fun y=>Value.int kk y):=by
    induction (ys.set k x) with
    | nil=>rfl
    | cons a l ih=>simp [ih]
   rw [this,j1,List.set_eq_take_append_cons_drop,if_pos hk]
   simp
  rw [hfl]
  exact ho'
 ·rw [j3]
  have:∀ l:List Int,(l.map fun _=>([]:List Nat)).flatten = []:=fun l=>by induction l with
   | nil=>rfl
   | cons a l ih=>simp [ih]
  rw [this,this]
 ·have:∀ l:List Int,z4k (fun (l:List Nat) (c:List Value) (y:Int)=>Own w' (.int kk) l c y) (l.map fun _=>[]) (l.map fun y=>[Value.int kk y]) l:=by
   intro l
   induction l with
   | nil=>trivial
   | cons a l ih=>exact ⟨⟨rfl,rfl⟩,ih⟩
  exact this _
 ·exact List.mem_append_left _ (by simp [Value.ownBlock])
theorem zfc (hT:TOk P T) (h:R w0 lab0 oo n σ E a w) {o:Oper} {p:zfm} {e:Nat} {k:Int} {t:Nat} {x:Operand} (hput:zsz p o.op o.dst = some (e,k,t,x)) (hpin:zez σ E a w (some p)) {K:St→Option ρ} {r:ρ} (hr:zti T p k t x σ K = some r) {next:Act→World→Prop} {Q:Exit→Act→World→Prop}
  (hK:∀ σ' E' v w',K σ' = some r→R w0 lab0 oo n σ' E' (a.put o.dst v) w'→next (a.put o.dst v) w'):o.wp P a w next Q:=by
 obtain ⟨dst,op,oty,pos,after,guard⟩:=o
 simp only at hput hK ⊢
 unfold zsz at hput
 split at hput
 ·rename_i t' e' x' e0 k0 hel
  cases hq:(Nat.beq e' e0 && (Nat.blt e0 100000 && Nat.blt p.d 100000))
  ·rw [hq] at hput; cases hput
  rw [hq] at hput
  simp only [cond_true,Option.some.injEq,Prod.mk.injEq] at hput
  obtain ⟨rfl,rfl,rfl,rfl⟩:=hput
  simp only [Bool.and_eq_true] at hq
  obtain rfl:=Nat.eq_of_beq_eq_true hq.1
  obtain ⟨⟨row,pp⟩,hE⟩:=hpin p rfl (by simpa using hq.2.2)
  obtain ⟨hk0,g,m,c,hv,hkm,hptr⟩:=hE _ _ hel
  unfold zti at hr
  rw [pp.hrow] at hr
  simp only at hr
  split at hr
  ·rename_i row1 ti kk mm hr0 ht hx
   injection hr0 with hr0
   subst hr0
   cases hq2:Nat.beq ti.zero.length 1
   ·rw [hq2] at hr; cases hr
   rw [hq2] at hr
   have hsz1:=Nat.eq_of_beq_eq_true hq2
   simp only [cond_true] at hr
   split at hr
   ·rename_i es k' ys hg
    cases hq3:ikEq kk k'
    ·rw [hq3] at hr; cases hr
    rw [hq3] at hr
    obtain rfl:=zh9 hq3
    simp only [cond_true] at hr
    split at hr
    ·rename_i x1 hset
     obtain ⟨L,o1,o2,o3,o4⟩:=zqm h pp hg
     rw [hv] at o1 o4
     obtain ⟨w',g1,g2,g3,g4,g5,g6,g7,g8⟩:=zqq (P:=P) o1 (k:=k0.toNat) (by omega) mm
     have hxv:a.eval x' = .int kk mm:=by
      have:=z1y h x'
      rw [hx] at this
      exact this
     obtain ⟨f1,W⟩:=o4 g2 hset o2 (fun k hk=>.inl hk) (fun k hk hkL=>g4 k fun e=>hkL (e ▸ g3))
     have hrun:(execOp a.eval ⟨none,.store t' (.tmp e') x',oty,pos,after,guard⟩).run P w = .ok .skip w':=by
      have hs:=z8v hT ht (v:=.int kk mm) (by rw [hsz1]; rfl) (g:=g) (o:=k0.toNat) (w:=w) (w':=w') g1
      simp [execOp,hptr,hxv,hs]
     unfold Oper.wp
     rw [hrun]
     classical
     let E':Env:=⟨fun k=>if k ∈ L then f1 k else E.lab k,E.rv,E.bb⟩
     refine hK _ E' undef w' hr ?_
     show R w0 lab0 oo n _ E' a w'
     refine R.called (E':=E') (qs:=[p.r]) h (fun j hj hsp=>?_) ⟨g6,g7,g8⟩ (by omega) rfl (fun q row2 hrow=>?_) (fun q row2 hrow=>?_)
     ·have hjL:j ∉ L:=fun hl=>hsp p.r (by simp) (.inr (o3 j hl))
      exact ⟨g4 j fun e=>hjL (e ▸ g3),if_neg hjL⟩
     ·by_cases hm:q ∈ [p.r]
      ·obtain ⟨ro,row',w1,w2,w3,w4,_⟩:=W.row q hm
       rw [hrow] at w1
       injection w1 with w1
       subst w1
       exact ⟨row',w2,rfl,by rw [w3],by omega⟩
      ·exact ⟨row2,by rw [W.other q hm]; exact hrow,rfl,rfl,Nat.le_refl _⟩
     ·by_cases hm:q ∈ [p.r]
      ·obtain ⟨ro,row',w1,w2,w3,w4,w5⟩:=W.row q hm
       rw [hrow] at w2
       injection w2 with w2
       subst w2
       exact .inr (w5 E'.lab (fun k hk=>if_pos hk) (fun k _ _ hk=>if_neg hk))
      ·rw [W.other q hm] at hrow
       exact .inl ⟨hm,hrow⟩
    ·cases hr
   ·cases hr
  ·cases hr
 ·cases hput
theorem zig (hT:TOk P T) (h:R w0 lab0 oo n σ E a w) {o:Oper} {p p':zfm} (hp:elPin T σ p o.op o.dst = some p') (hd:∀ d,o.dst = some d→d < n) (hpin:zez σ E a w (some p)) {c:Bool} {s:SV} (hv:z9v T σ o.op = some (c,s)) (hc:c = true) :
  ∃ v,(execOp a.eval o).run P w = .ok (.value v) w∧z47 σ E w s v∧zez (zmp σ o.dst s) E (a.put o.dst v) w (some p'):=by
 obtain ⟨v,h1,h2⟩:=z62 hT h hv hc
 refine ⟨v,h1,h2, ?_⟩
 obtain ⟨dst,op,oty,pos,after,guard⟩:=o
 simp only at hp hd h1 hv ⊢
 unfold elPin at hp
 split at hp
 ·rename_i t d i e
  cases hq:(Nat.beq d p.d && (Nat.blt d 100000 && !(Nat.beq e d)))
  ·rw [hq] at hp; cases hp
  rw [hq] at hp
  simp only [Bool.and_eq_true,Bool.not_eq_true'] at hq
  obtain rfl:=Nat.eq_of_beq_eq_true hq.1
  have hdlt:p.d < 100000:=by simpa using hq.2.1
  have hne:e≠p.d:=fun he=>by rw [he,Nat.beq_refl] at hq; cases hq.2.2
  simp only [cond_true] at hp
  split at hp
  ·rename_i e2 t2 xs q kk k ti hdc hic ht
   split at hp
   ·rename_i el hel
    split at hp
    ·rename_i ei row hei hrow
     cases hz:Nat.beq ei.zero.length 1
     ·rw [hz] at hp; cases hp
     rw [hz] at hp
     have hz1:=Nat.eq_of_beq_eq_true hz
     simp only [cond_true] at hp
     split at hp
     ·rename_i e3 k3 ys hg
      injection hp with hp
      subst hp
      obtain ⟨⟨row',pp⟩,_⟩:=hpin p rfl hdlt
      have:row' = row:=by
       have:=pp.hrow
       rw [hrow] at this
       injection this with this
       exact this.symm
      subst this
      have hen:=hd e rfl
      have hevd:(a.put (some e) v).eval (.tmp p.d) = a.eval (.tmp p.d):=by
       show (a.tmps.setIfInBounds e v).getD p.d undef = a.tmps.getD p.d undef
       rw [zb0 _ _ _ _ (by rw [h.size]; exact hen),if_neg (Ne.symm hne)]
      have heve:(a.put (some e) v).eval (.tmp e) = v:=by
       show (a.tmps.setIfInBounds e v).getD e undef = v
       rw [zb0 _ _ _ _ (by rw [h.size]; exact hen),if_pos rfl]
      obtain ⟨L,o1,_,_,_⟩:=zqm h pp hg
      obtain ⟨v0,css,Ls,hvv,h3,_,_⟩:=o1
      injection hvv with hvv
      have rx:=z1y h (.tmp p.d)
      rw [hdc] at rx
      have ri:=z1y h i
      rw [hic] at ri
      have ri:a.eval i = .int kk k:=ri
      obtain ⟨A,m,c2,ev1,ev2,_⟩:=(show z1v σ E w (.sn e2 t2 xs q) (a.eval (.tmp p.d)) from rx)
      injection ev1 with ev1
      have hchk:0≤k∧k < (xs.length:Int):=by
       simp only [z9v,ht,hdc,hic,hel,hei] at hv
       simp only [zex,z1e.weak,z7y] at hv
       cases hb:Nat.beq t2.nc ei.zero.length
       ·rw [hb] at hv; cases hv
       ·rw [hb] at hv
        simp only [cond_true,Option.some.injEq,Prod.mk.injEq] at hv
        rw [← hv.1] at hc
        simpa using hc
      have hsl:∃ g c3,a.eval (.tmp p.d) = .slice (some ⟨g,0,none⟩) m c3:=by
       rcases h3.2 with ⟨h0,h00⟩ | ⟨g,cap,cur,e0,_⟩
       ·rw [← hvv,ev1] at h0
        injection h0 with q1 q2 q3
        omega
       ·rw [← hvv,ev1] at e0
        injection e0 with q1 q2 q3
        subst q1
        exact ⟨g,c2,ev1⟩
      obtain ⟨g,c3,hsl⟩:=hsl
      have hu:=z4j hT ht hel
      have hs:=z9e hT hei
      have hvp:v = .pointer (some ⟨g,k.toNat,none⟩):=by
       have hm:k < (m:Int):=by omega
       have:(execOp a.eval ⟨some e,.indexAddr t (.tmp p.d) i,oty,pos,after,guard⟩).run P w = .ok (.value (.pointer (some ((⟨g,0,none⟩:Addr).add (k.toNat * ei.zero.length))))) w:=by
        simp [execOp,hsl,ri,Instr.indexAt,run_underlying hu,asIntOf,hchk.1,hm,hs]
       rw [this] at h1
       injection h1 with h1
       injection h1 with h1
       rw [← h1,add_lit,hz1]
       simp
      intro p1 hp1 hlt1
      injection hp1 with hp1
      subst hp1
      refine ⟨⟨row', ?_⟩,fun e1 k1 he1=>?_⟩
      ·show Pin _ E w p.r p.i p.f row' ((a.put (some e) v).eval (.tmp p.d))
       rw [hevd]
       exact ⟨pp.hrow,pp.deep,pp.i0,pp.lt,pp.cell⟩
      ·injection he1 with he1
       injection he1 with he1 he2
       subst he1 he2
       refine ⟨hchk.1,g,m,c3, ?_,by omega,by rw [heve]; exact hvp⟩
       show (a.put (some e) v).eval (.tmp p.d) = _
       rw [hevd]
       exact hsl
     ·cases hp
    ·cases hp
   ·cases hp
  ·cases hp
 ·cases hp
theorem z7i (hT:TOk P T) (hΓ:GAt P w0 lab0 Γ) (hops:zih n ops = true) {Q:Exit→Act→World→Prop} {K:St→Option ρ} {r:ρ}
  (hK:∀ σ' E' a' w',K σ' = some r→R w0 lab0 oo n σ' E' a' w'→Q .normal a' w') :
  ∀ (is:List Nat) {pin:Option zfm} {σ:St} {E:Env} {a:Act} {w:World},R w0 lab0 oo n σ E a w→zez σ E a w pin→iOps Γ T N ops is pin σ K = some r→wpOps P ops Q is a w
 | [],pin,σ,E,a,w,h,_,hr=>hK σ E a w hr h
 | i :: rest,pin,σ,E,a,w,h,hpin,hr=>by
  have nopin:∀ {σ:St} {E:Env} {a:Act} {w:World},zez σ E a w none:=fun p hp=>by cases hp
  rw [wpOps_cons]
  simp only [iOps] at hr
  split at hr
  ·rename_i o ho
   split at hr
   ·refine zac h hops ho hr (fun σ' h' hF hw=>zau ho hw ?_) (fun σ' h' hr' hw=>zmv ho hw (z7i hT hΓ hops hK rest h' nopin hr'))
    exact zny hT hΓ h' (z3i hops ho) hF fun σ2 E2 v w2 hr2 h2 _=>z7i hT hΓ hops hK rest h2 nopin hr2
   ·rename_i p hm
    split at hr
    ·rename_i c s hv
     rw [zlk,zlj] at hr
     cases c
     ·cases hr
     simp only [cond_true] at hr
     obtain ⟨hg,v,h1,h2,h3⟩:o.guard = none∧∃ v,(execOp a.eval o).run P w = .ok (.value v) w∧z47 σ E w s v∧zez (zmp σ o.dst s) E (a.put o.dst v) w (some p):=by
      unfold zl6 at hm
      split at hm
      ·rename_i p' hp'
       injection hm with hm
       subst hm
       exact zf6 hT h hp' (z3i hops ho) hv rfl
      ·split at hm
       ·cases hm
       ·rename_i p' 
        split at hm
        ·cases hm
        ·rename_i hg
         split at hm
         ·split at hm
          ·rename_i en _
           cases hq:(zvr p'.d (zc9 en.sig.ps _) && z80 en.sig.ps) <;> rw [hq] at hm <;> cases hm
          ·cases hm
         ·split at hm
          ·rename_i p2 hel
           injection hm with hm
           subst hm
           obtain ⟨v,h1,h2,h3⟩:=zig hT h hel (z3i hops ho) hpin hv rfl
           exact ⟨hg,v,h1,h2,h3⟩
          split at hm
          ·cases hm
          cases hq:(z4t o.op && (z6b p'.d o.dst && za6 p' o.dst))
          ·rw [hq] at hm; cases hm
          rw [hq] at hm
          injection hm with hm
          subst hm
          simp only [Bool.and_eq_true] at hq
          obtain ⟨v,h1,h2⟩:=z62 hT h hv rfl
          refine ⟨hg,v,h1,h2,fun p hp hlt=>?_⟩
          obtain ⟨⟨row,k1,k2,k3,k4,k5⟩,hE⟩:=hpin p hp hlt
          injection hp with hp
          subst hp
          have keep:∀ z,z6b z o.dst = true→(a.put o.dst v).eval (.tmp z) = a.eval (.tmp z):=by
           intro z hz
           cases hdst:o.dst with
           | none=>rfl
           | some e =>
            have he:=z3i hops ho e hdst
            rw [hdst] at hz
            show (a.tmps.setIfInBounds e v).getD z undef = a.tmps.getD z undef
            rw [zb0 _ _ _ _ (by rw [h.size]; exact he),if_neg]
            rintro rfl
            simp [z6b] at hz
          refine ⟨⟨row,⟨?_,k2,k3,k4, ?_⟩⟩,fun e k he=>?_⟩
          rotate_left 2
          ·obtain ⟨q1,g,m,c,q2,q3,q4⟩:=hE e k he
           refine ⟨q1,g,m,c,by rw [keep _ hq.2.1]; exact q2,q3, ?_⟩
           rw [keep _ (by have:=hq.2.2; unfold za6 at this; rw [he] at this; exact this)]
           exact q4
          ·cases hdst:o.dst <;> exact k1
          ·rw [keep _ hq.2.1]
           exact k5
     refine zau ho (by simp [Region.wanted,hg]) ?_
     unfold Oper.wp
     rw [h1]
     exact z7i hT hΓ hops hK rest (h.iput (z3i hops ho) h2) h3 hr
    ·cases hr
   ·rename_i p f args hm
    unfold zl6 at hm
    split at hm
    ·cases hm
    ·split at hm
     ·cases hm
     ·rename_i p'
      split at hm
      ·cases hm
      ·rename_i hg
       split at hm
       ·rename_i f' args' hcall
        split at hm
        ·rename_i en hen
         cases hq:(zvr p'.d (zc9 en.sig.ps args') && z80 en.sig.ps)
         ·rw [hq] at hm; cases hm
         rw [hq] at hm
         injection hm with e1 e2 e3
         subst e1 e2 e3
         simp only [Bool.and_eq_true] at hq
         refine zau ho (by simp [Region.wanted,hg]) ?_
         exact zvt hT hΓ h (z3i hops ho) hcall hen hq.1 hq.2 hpin hr fun σ' E' v w' hr' h'=>z7i hT hΓ hops hK rest h' nopin hr'
        ·cases hm
       ·split at hm
        ·cases hm
        split at hm
        ·cases hm
        ·cases hq:(z4t o.op && (z6b p'.d o.dst && za6 p' o.dst)) <;> rw [hq] at hm <;> cases hm
   ·rename_i p e k t x hm
    unfold zl6 at hm
    split at hm
    ·cases hm
    ·split at hm
     ·cases hm
     ·rename_i p'
      split at hm
      ·cases hm
      ·rename_i hg
       split at hm
       ·split at hm
        ·rename_i en _
         cases hq:(zvr p'.d (zc9 en.sig.ps _) && z80 en.sig.ps) <;> rw [hq] at hm <;> cases hm
        ·cases hm
       ·split at hm
        ·cases hm
        split at hm
        ·rename_i e1 k1 t1 x1 hput
         injection hm with q1 q2 q3 q4 q5
         subst q1 q2 q3 q4 q5
         refine zau ho (by simp [Region.wanted,hg]) ?_
         exact zfc hT h hput hpin hr fun σ' E' v w' hr' h'=>z7i hT hΓ hops hK rest h' nopin hr'
        ·cases hq:(z4t o.op && (z6b p'.d o.dst && za6 p' o.dst)) <;> rw [hq] at hm <;> cases hm
  ·cases hr
def NP (Q:Exit→Act→World→Prop):Prop:=∀ c a a' w,Q (.panic c) a w→Q (.panic c) a' w
theorem zaf {f:Nat→Bool} {i:Nat}:∀ {l:List Nat},zlt f l = some i→i ∈ l∧f i = true
 | [],h=>by cases h
 | j :: l,h=>by
  simp only [zlt] at h
  cases hb:f j
  ·rw [hb] at h
   exact ⟨List.mem_cons_of_mem _ (zaf h).1,(zaf h).2⟩
  ·rw [hb] at h
   injection h with h
   subst h
   exact ⟨List.mem_cons_self,hb⟩
theorem zde (hT:TOk P T) (h:R w0 lab0 oo n σ E a w) {o:Oper} {pin:Option zfm} (hd:∀ d,o.dst = some d→d < n) (hpin:o.guard = none→zez σ E a w pin) {c:Bool} {s:SV} (hv:z9v T σ o.op = some (c,s)) (hc:c = true)
  {v:Value} (h1:(execOp a.eval o).run P w = .ok (.value v) w):zez (zmp σ o.dst s) E (a.put o.dst v) w (zqs T σ o pin):=by
 have nopin:∀ {σ:St} {E:Env} {a:Act} {w:World},zez σ E a w none:=fun p hp=>by cases hp
 have same:∀ {v'},(execOp a.eval o).run P w = .ok (.value v') w→v' = v:=fun {v'} h2=>by
  rw [h1] at h2
  injection h2 with h2
  injection h2 with h2
  exact h2.symm
 unfold zqs
 split
 ·rename_i p hp
  obtain ⟨_,v',k1,_,k2⟩:=zf6 hT h hp hd hv hc
  obtain rfl:=same k1
  exact k2
 ·split
  ·rename_i p hg
   have hpin:=hpin hg
   split
   ·rename_i p' hp'
    obtain ⟨v',k1,_,k2⟩:=zig hT h hp' hd hpin hv hc
    obtain rfl:=same k1
    exact k2
   ·cases hq:(z6b p.d o.dst && za6 p o.dst)
    ·exact nopin
    ·simp only [Bool.and_eq_true] at hq
     intro p' hp' hlt
     injection hp' with hp'
     subst hp'
     obtain ⟨⟨row,k1,k2,k3,k4,k5⟩,hE⟩:=hpin p rfl hlt
     have keep:∀ z,z6b z o.dst = true→(a.put o.dst v).eval (.tmp z) = a.eval (.tmp z):=by
      intro z hz
      cases hdst:o.dst with
      | none=>rfl
      | some e =>
       have he:=hd e hdst
       rw [hdst] at hz
       show (a.tmps.setIfInBounds e v).getD z undef = a.tmps.getD z undef
       rw [zb0 _ _ _ _ (by rw [h.size]; exact he),if_neg]
       rintro rfl
       simp [z6b] at hz
     refine ⟨⟨row,⟨?_,k2,k3,k4, ?_⟩⟩,fun e k he=>?_⟩
     ·cases hdst:o.dst <;> exact k1
     ·rw [keep _ hq.1]
      exact k5
     ·obtain ⟨q1,g,m,c,q2,q3,q4⟩:=hE e k he
      refine ⟨q1,g,m,c,by rw [keep _ hq.1]; exact q2,q3, ?_⟩
      rw [keep _ (by have:=hq.2; unfold za6 at this; rw [he] at this; exact this)]
      exact q4
  ·exact nopin
theorem z61 (hT:TOk P T) (hΓ:GAt P w0 lab0 Γ) (hops:zih n ops = true) (hsel:Region.noSelect ops = true) {Q:Exit→Act→World→Prop} (hQ:NP Q) {K:St→Option ρ} {r:ρ}
  (hK:∀ σ' E' a' w',K σ' = some r→R w0 lab0 oo n σ' E' a' w'→Q .normal a' w') :
  ∀ (fuel:Nat) (listed:Array Bool) {pin:Option zfm} {σ:St} {E:Env} {a:Act} {w:World},z7z ops listed→R w0 lab0 oo n σ E a w→zez σ E a w pin→iAny Γ T N ops fuel listed pin σ K = some r→z83 P ops (znz Γ ops) Q fuel listed a w
 | 0,listed,pin,σ,E,a,w,hcl,h,hpin,hr=>by
  simp only [iAny] at hr
  cases hq:(Region.ready .any ops listed).isEmpty
  ·rw [hq] at hr; cases hr
  ·rw [hq] at hr
   exact ⟨by simpa using hq,hK σ E a w hr h⟩
 | fuel + 1,listed,pin,σ,E,a,w,hcl,h,hpin,hr=>by
  have nopin:∀ {σ:St} {E:Env} {a:Act} {w:World},zez σ E a w none:=fun p hp=>by cases hp
  simp only [iAny] at hr
  split at hr
  ·rename_i hre
   exact zqc hre (hK σ E a w hr h) _
  ·rename_i i0 rs hre
   split at hr
   ·rename_i i hi
    obtain ⟨hmem,hfs⟩:=zaf hi
    rw [← hre] at hmem
    split at hr
    ·rename_i o ho
     obtain ⟨hfree,hH⟩:Region.free .any ops listed i = true∧znz Γ ops i = false:=by
      unfold zo0 at hfs
      rw [ho] at hfs
      simp only [Bool.and_eq_true,Bool.not_eq_true'] at hfs
      exact ⟨hfs.2.1,hfs.2.2⟩
     refine zlp h hops ho hr (fun σ' h' hsame hF hw=>?_) (fun σ' h' hr' hw=>?_)
     ·unfold iStill at hF
      split at hF
      ·rename_i c s hv
       rw [zlk,zlj] at hF
       cases hso:zqf o.op s
       ·rw [hso] at hF; cases hF
       ·rw [hso] at hF
        cases c
        ·cases hF
        ·cases hpo:zgv o.op
         ·obtain ⟨v,h1,h2⟩:=zsk hT h' hv rfl hso
          exact zgk hH ho hpo hsel hcl hfree hmem (fun c a' w' hq=>hQ c _ _ _ hq) (.inl ⟨hw,h1⟩) (z61 hT hΓ hops hsel hQ hK fuel _ (hcl.put hmem) (h'.iput (z3i hops ho) h2) (zde hT h' (z3i hops ho) (fun hg=>by have:=hsame hg; subst this; exact hpin) hv rfl (h1 w (Ext.refl w))) hF)
         ·obtain ⟨v,h1,h2⟩:=y6s hT h' hv rfl hpo
          exact zf0 ho hsel hfree hmem (fun c a' w' hq=>hQ c _ _ _ hq) (.inl ⟨hw,fun w' _=>h1 w'⟩) (z61 hT hΓ hops hsel hQ hK fuel _ (hcl.put hmem) (h'.iput (z3i hops ho) h2) (zde hT h' (z3i hops ho) (fun hg=>by have:=hsame hg; subst this; exact hpin) hv rfl (h1 w)) hF)
      ·cases hF
     ·cases hpo:zgv o.op
      ·exact zgk hH ho hpo hsel hcl hfree hmem (fun c a' w' hq=>hQ c _ _ _ hq) (.inr ⟨hw,rfl⟩) (z61 hT hΓ hops hsel hQ hK fuel _ (hcl.put hmem) h' nopin hr')
      ·exact zf0 ho hsel hfree hmem (fun c a' w' hq=>hQ c _ _ _ hq) (.inr ⟨hw,rfl⟩) (z61 hT hΓ hops hsel hQ hK fuel _ (hcl.put hmem) h' nopin hr')
    ·cases hr
   ·refine ⟨(fun he=>by rw [hre] at he; cases he),fun i hi=>?_⟩
    rw [hre] at hi
    have hr:=zhb hr i hi
    split at hr
    ·rename_i o ho
     cases hq:(zd9 Γ o || zj1 ops (znz Γ ops) i)
     ·rw [hq] at hr; cases hr
     ·rw [hq] at hr
      simp only [cond_true] at hr
      have hext:∀ {w'},(zd9 Γ o = true→Ext w w')→zj1 ops (znz Γ ops) i = false→Ext w w':=fun h1 h2=>h1 (by simpa [h2] using hq)
      split at hr
      ·rename_i p e k t x hput
       cases hlb:zj1 ops (znz Γ ops) i
       ·rw [hlb] at hr; cases hr
       rw [hlb] at hr
       simp only [cond_true] at hr
       unfold putOf at hput
       split at hput
       ·rename_i p' hg
        split at hput
        ·rename_i y hy
         injection hput with hput
         injection hput with q1 q2
         subst q1 q2
         refine zau ho (by simp [Region.wanted,hg]) ?_
         exact zfc hT h hy hpin hr fun σ' E' v w' hr' h'=>⟨(fun hlf=>by cases hlf),z61 hT hΓ hops hsel hQ hK fuel _ (hcl.put (by rw [hre]; exact hi)) h' nopin hr'⟩
        ·cases hput
       ·cases hput
      refine zac h hops ho hr (fun σ' h' hF hw=>zau ho hw ?_) (fun σ' h' hr' hw=>zmv ho hw ⟨fun _=>Ext.refl w,z61 hT hΓ hops hsel hQ hK fuel _ (hcl.put (by rw [hre]; exact hi)) h' nopin hr'⟩)
      exact zny hT hΓ h' (z3i hops ho) hF fun σ2 E2 v w2 hr2 h2 h3=>⟨hext h3,z61 hT hΓ hops hsel hQ hK fuel _ (hcl.put (by rw [hre]; exact hi)) h2 nopin hr2⟩
    ·cases hr
theorem zlo (hT:TOk P T) (hΓ:GAt P w0 lab0 Γ) (hm:P.follows .mixedOrders = true) (hops:zih n ops = true) {Q:Exit→Act→World→Prop} (hQ:NP Q) {K:St→Option ρ} {r:ρ} {id:Nat} {draw:Bool}
  (hK:∀ σ' E' a' w',K σ' = some r→R w0 lab0 oo n σ' E' a' w'→Q .normal a' w') (h:R w0 lab0 oo n σ E a w) (hr:zqx Γ T N ops draw σ K = some r):(Code.region id ops draw).wp P Q a w:=by
 unfold zqx at hr
 cases draw
 ·exact wp_region (z7i hT hΓ hops hK _ h (fun p hp=>by cases hp) hr)
 ·simp only [cond_true] at hr
  cases hsel:Region.noSelect ops
  ·rw [hsel] at hr; cases hr
  ·rw [hsel] at hr
   refine wp_region_any hm (zjh _ _ _ _ (z61 hT hΓ hops hsel hQ hK _ _ z7z.none (h.ext ?_) (fun p hp=>by cases hp) hr))
   exact ⟨rfl,rfl,rfl,Nat.le_refl _,fun _ _=>rfl⟩
end
end Go.Fw
namespace Go.Fw
open Go.RowKit
def z1n {α:Type}:List (Nat × α)→Nat→Option α
 | [],_=>none
 | (k,v) :: l,t=>cond (Nat.beq t k) (some v) (z1n l t)
structure Loc where
 bx:Bool
 k:Nat
 i:Nat
structure NilD where
 loc:Loc
 nm:Nat
 e:Nat
 t:Ty
 deep:Bool
structure z09 where
 slots:List Nat
 boxes:List Nat
 nils:List NilD
 frz:List (Loc × Nat × Ty)
 rows:List (Loc × Nat)
def zil (σ:St) (l:Loc):Option z1e :=
 cond l.bx (match σ.box l.k with
  | some (_,cs)=>cs[l.i]?
  | none=>none)
 (match σ.slot l.k with
  | .c x=>cond (Nat.beq l.i 0) (some x) none
  | .agg cs=>cs[l.i]?
  | .tup _=>none)
def setAt (σ:St) (l:Loc) (c:z1e):St :=
 cond l.bx (match σ.box l.k with
  | some (te,cs)=>⟨σ.slot,upd σ.box l.k (some (te,cs.set l.i c)),σ.row⟩
  | none=>σ)
 (match σ.slot l.k with
  | .c _=>σ.put l.k (.c c)
  | .agg cs=>σ.put l.k (.agg (cs.set l.i c))
  | .tup _=>σ)
def zsc (σ:St) (d:NilD):Option St:=match zil σ d.loc with
 | some .nil=>match σ.row d.nm with
  | none=>some (setAt (σ.withRow (upd σ.row d.nm (some ⟨d.e,d.t,[],d.deep,true⟩))) d.loc (.own d.nm))
  | some _=>none
 | _=>some σ
def zuq:List NilD→St→Option St
 | [],σ=>some σ
 | d :: ds,σ=>match zsc σ d with
  | some σ'=>zuq ds σ'
  | none=>none
def frz1 (σ:St) (d:Loc × Nat × Ty):Option St:=match zil σ d.1 with
 | some (.own r)=>absorb r none σ
 | some .nil=>some (setAt σ d.1 (.sn d.2.1 d.2.2 [] none))
 | _=>some σ
def frzs:List (Loc × Nat × Ty)→St→Option St
 | [],σ=>some σ
 | d :: ds,σ=>match frz1 σ d with
  | some σ'=>frzs ds σ'
  | none=>none
def mapOf (σ:St):List (Loc × Nat)→Option (List (Nat × Nat))
 | []=>some []
 | (l,q) :: ls=>match zil σ l,mapOf σ ls with
  | some (.own r),some m=>some ((r,q) :: m)
  | _,_=>none
def zwu (m:List (Nat × Nat)) (f:Nat→z1e) (r:Nat):z1e:=match z1n m r with
 | some q=>f q
 | none=>.undef
def zqa (m:List (Nat × Nat)) (bs:List Nat):z1e→z1e
 | .own r=>zwu m .own r
 | .part r lo n=>zwu m (fun q=>.part q lo n) r
 | .elt r i f=>zwu m (fun q=>.elt q i f) r
 | .sn e t xs (some r)=>zwu m (fun q=>.sn e t xs (some q)) r
 | .full e t xs (some r)=>zwu m (fun q=>.full e t xs (some q)) r
 | .selt t x (some r) f=>zwu m (fun q=>.selt t x (some q) f) r
 | .box b f=>cond (z6x b bs) (.box b f) .undef
 | .mp b=>cond (z6x b bs) (.mp b) .undef
 | .fn f caps=>cond (caps.all fun p=>z6x p.1 bs) (.fn f caps) .undef
 | c=>c
def zr0 (q:Nat):Bool:=Nat.ble 1000000000 q
def zgt (q:Nat) (row:Row):Row:=⟨row.e,row.t,row.xs,row.deep,zr0 q && row.nilE⟩
def zmf (σ:St) (f:z1e→z1e):List Nat→Option (List (Nat × (Nat × List z1e)))
 | []=>some []
 | b :: bs=>match σ.box b,zmf σ f bs with
  | some (te,cs),some l=>some ((b,(te,cs.map f)) :: l)
  | _,_=>none
def zjs (σ:St):List (Nat × Nat)→Option (List (Nat × Row))
 | []=>some []
 | (r,q) :: m=>match σ.row r,zjs σ m with
  | some row,some l=>some ((q,zgt q row) :: l)
  | _,_=>none
def z7l (sl:List (Nat × SV)) (t:Nat):SV:=match z1n sl t with
 | some s=>s
 | none=>.c .undef
def z1k (sl:List (Nat × SV)) (bx:List (Nat × (Nat × List z1e))) (rw:List (Nat × Row)):St:=⟨z7l sl,z1n bx,z1n rw⟩
def zgo (σ:St) (f:z1e→z1e):List Nat→List (Nat × SV)
 | []=>[]
 | t :: ts=>(t,(σ.slot t).map f) :: zgo σ f ts
def zij (cl:z09) (σ:St):Option St:=match (zuq cl.nils σ).bind (frzs cl.frz) with
 | some σ1=>match mapOf σ1 cl.rows with
  | some m=>cond (z4m (m.map (·.1)) && z4m (m.map (·.2))) (match zmf σ1 (zqa m cl.boxes) cl.boxes,zjs σ1 m with
   | some bx,some rw=>some (z1k (zgo σ1 (zqa m cl.boxes) cl.slots) bx rw)
   | _,_=>none) none
  | none=>none
 | none=>none
section
variable {P:Program} {σ σ':St} {E E':Env} {w w':World} {w0:World} {lab0:Nat→Lab} {oo:Nat→Value} {n:Nat} {a:Act}
theorem R.reslot (h:R w0 lab0 oo n σ E a w) {t:Nat} {s:SV} (hs:∀ v,z47 σ E w (σ.slot t) v→z47 σ E w s v):R w0 lab0 oo n (σ.put t s) E a w:=by
 have m:z68 σ E w (σ.put t s) E w:=z68.same rfl rfl
 refine ⟨h.bound,h.size,h.defers,fun t'=>?_,fun b te cs hb=>?_,h.rows,h.same⟩
 ·by_cases e:t' = t
  ·subst e
   show z47 _ _ _ (upd σ.slot t' s t') _
   rw [z14]
   exact (hs _ (h.slots t')).move m
  ·show z47 _ _ _ (upd σ.slot t s t') _
   rw [z26 _ _ e]
   exact (h.slots t').move m
 ·obtain ⟨arr,h1,h2,h3,h4⟩:=h.boxes b te cs hb
  exact ⟨arr,h1,h2,h3.imp fun _ _ h=>h.move m,h4⟩
theorem R.rebox (h:R w0 lab0 oo n σ E a w) {b te:Nat} {cs cs':List z1e} (hb:σ.box b = some (te,cs)) (hl:cs'.length = cs.length) (hs:∀ vs,z1u (z1v σ E w) cs vs→z1u (z1v σ E w) cs' vs) :
  R w0 lab0 oo n ⟨σ.slot,upd σ.box b (some (te,cs')),σ.row⟩ E a w:=by
 have m:z68 σ E w ⟨σ.slot,upd σ.box b (some (te,cs')),σ.row⟩ E w:=by
  refine ⟨fun r row h=>⟨row,h,rfl,rfl,Nat.le_refl _⟩,fun b' te' cs0 hb'=>?_,fun _ _ _ h1 h2=>⟨h1,h2⟩,fun _ _ _ _ h=>h⟩
  by_cases e:b' = b
  ·subst e
   rw [hb] at hb'
   injection hb' with hb'
   injection hb' with e1 e2
   subst e1 e2
   exact ⟨te,cs',z14 _ _ _,rfl,hl⟩
  ·exact ⟨te',cs0,(z26 _ _ e).trans hb',rfl,rfl⟩
 refine ⟨h.bound,h.size,h.defers,fun t'=>(h.slots t').move m,fun b' te' cs0 hb'=>?_,h.rows,h.same⟩
 by_cases e:b' = b
 ·subst e
  have hb':upd σ.box b' (some (te,cs')) b' = some (te',cs0):=hb'
  rw [z14] at hb'
  injection hb' with hb'
  injection hb' with e1 e2
  subst e1 e2
  obtain ⟨arr,h1,h2,h3,h4⟩:=h.boxes b' te cs hb
  exact ⟨arr,h1,h2,(hs _ h3).imp fun _ _ h=>h.move m,h4⟩
 ·have hb':upd σ.box b (some (te,cs')) b' = some (te',cs0):=hb'
  rw [z26 _ _ e] at hb'
  obtain ⟨arr,h1,h2,h3,h4⟩:=h.boxes b' te' cs0 hb'
  exact ⟨arr,h1,h2,h3.imp fun _ _ h=>h.move m,h4⟩
theorem z1u.reset {Q:z1e→Value→Prop} {c c':z1e} (hs:∀ v,Q c v→Q c' v):∀ {cs:List z1e} {vs:List Value} {i:Nat},cs[i]? = some c→z1u Q cs vs→z1u Q (cs.set i c') vs
 | [],_,_,h,_=>by simp at h
 | x :: cs,[],_,_,h=>h.elim
 | x :: cs,v :: vs,0,h,h2=>by
  simp at h
  subst h
  exact ⟨hs _ h2.1,h2.2⟩
 | x :: cs,v :: vs,i + 1,h,h2=>⟨h2.1,z1u.reset hs (by simpa using h) h2.2⟩
theorem R.resetAt (h:R w0 lab0 oo n σ E a w) {l:Loc} {c c':z1e} (hc:zil σ l = some c) (hs:∀ v,z1v σ E w c v→z1v σ E w c' v):R w0 lab0 oo n (setAt σ l c') E a w:=by
 obtain ⟨bx,k,i⟩:=l
 unfold zil at hc
 unfold setAt
 cases bx
 ·simp only [cond_false] at hc ⊢
  split at hc
  ·rename_i x hx
   cases hi:Nat.beq i 0
   ·rw [hi] at hc; cases hc
   ·rw [hi] at hc
    injection hc with hc
    subst hc
    exact h.reslot fun v hv=>by rw [hx] at hv; exact hs v hv
  ·rename_i cs hx
   refine h.reslot fun v hv=>?_
   rw [hx] at hv
   obtain ⟨arr,e,hv⟩:=hv
   exact ⟨arr,e,hv.reset hs hc⟩
  ·cases hc
 ·simp only [cond_true] at hc ⊢
  split at hc
  ·rename_i te cs hx
   exact h.rebox hx (by simp) fun vs hv=>hv.reset hs hc
  ·cases hc
theorem zmb (h:R w0 lab0 oo n σ E a w) {d:NilD} (hr:zsc σ d = some σ'):∃ E',R w0 lab0 oo n σ' E' a w:=by
 unfold zsc at hr
 split at hr
 ·rename_i hc
  split at hr
  ·rename_i hfree
   injection hr with hr
   subst hr
   have G:=h.nilRow (r:=d.nm) (e:=d.e) (t:=d.t) (deep:=d.deep) hfree
   refine ⟨_,R.resetAt (c:=.nil) G ?_ fun v hv=>?_⟩
   ·exact hc
   ·obtain rfl:v = _:=hv
    exact ⟨(z14 _ _ _).symm,by show (upd σ.row d.nm _ d.nm).isSome = true; rw [z14]; rfl,none,0,0,rfl⟩
  ·cases hr
 ·injection hr with hr
  subst hr
  exact ⟨E,h⟩
theorem zfg:∀ {ds:List NilD} {σ σ':St} {E:Env},R w0 lab0 oo n σ E a w→zuq ds σ = some σ'→∃ E',R w0 lab0 oo n σ' E' a w
 | [],σ,σ',E,h,hr=>by
  injection hr with hr
  subst hr
  exact ⟨E,h⟩
 | d :: ds,σ,σ',E,h,hr=>by
  simp only [zuq] at hr
  split at hr
  ·rename_i σ1 h1
   obtain ⟨E1,g1⟩:=zmb h h1
   exact zfg g1 hr
  ·cases hr
theorem zvv (h:R w0 lab0 oo n σ E a w) {d:Loc × Nat × Ty} (hr:frz1 σ d = some σ'):∃ E',R w0 lab0 oo n σ' E' a w:=by
 unfold frz1 at hr
 split at hr
 ·rename_i r hc
  obtain ⟨lab',g,_⟩:=R.absorbs (p:=none) (qs:=[r]) (σ':=σ') h (by simp [Fw.absorbs,hr]) (fun _ h=>by cases h)
  exact ⟨_,g⟩
 ·rename_i hc
  injection hr with hr
  subst hr
  exact ⟨E,h.resetAt hc fun v hv=>by
   obtain rfl:v = _:=hv
   exact ⟨none,0,0,rfl,rfl,Nat.le_refl _,Nat.zero_le _,.inl rfl⟩⟩
 ·injection hr with hr
  subst hr
  exact ⟨E,h⟩
theorem zk6:∀ {ds:List (Loc × Nat × Ty)} {σ σ':St} {E:Env},R w0 lab0 oo n σ E a w→frzs ds σ = some σ'→∃ E',R w0 lab0 oo n σ' E' a w
 | [],σ,σ',E,h,hr=>by
  injection hr with hr
  subst hr
  exact ⟨E,h⟩
 | d :: ds,σ,σ',E,h,hr=>by
  simp only [frzs] at hr
  split at hr
  ·rename_i σ1 h1
   obtain ⟨E1,g1⟩:=zvv h h1
   exact zk6 g1 hr
  ·cases hr
def zju (m:List (Nat × Nat)):Lab→Lab
 | .row r=>match z1n m r with
  | some q=>.row q
  | none=>.dead
 | .inn r=>match z1n m r with
  | some q=>.inn q
  | none=>.dead
 | l=>l
theorem zsy {m:List (Nat × Nat)} {p p':Option Nat} (h:(p = none∧p' = none)∨∃ r q,p = some r∧p' = some q∧z1n m r = some q):zju m (z3g p) = z3g p':=by
 rcases h with ⟨rfl,rfl⟩ | ⟨r,q,rfl,rfl,h⟩
 ·rfl
 ·simp [z3g,zju,h]
theorem R.ren (h:R w0 lab0 oo n σ E a w) {m:List (Nat × Nat)} {bs:List Nat} (hslot:∀ t,σ'.slot t = (σ.slot t).map (zqa m bs)∨σ'.slot t = .c .undef)
  (hbox:∀ b te cs,σ'.box b = some (te,cs)→∃ cs0,σ.box b = some (te,cs0)∧cs = cs0.map (zqa m bs))
  (hbox':∀ b te cs,z6x b bs = true→σ.box b = some (te,cs)→σ'.box b = some (te,cs.map (zqa m bs)))
  (hrow:∀ q row',σ'.row q = some row'→∃ r row,z1n m r = some q∧σ.row r = some row∧row' = zgt q row)
  (hrow':∀ r q row,z1n m r = some q→σ.row r = some row→σ'.row q = some (zgt q row))
  (inj:∀ r r' q,z1n m r = some q→z1n m r' = some q→r = r'):∃ E',R w0 lab0 oo n σ' E' a w:=by
 classical
 let E':Env:=⟨fun k=>zju m (E.lab k),fun q=>if hq:∃ r,z1n m r = some q then E.rv hq.choose else undef,E.bb⟩
 have hrv:∀ r q,z1n m r = some q→E'.rv q = E.rv r:=by
  intro r q hq
  have hex:∃ r,z1n m r = some q:=⟨r,hq⟩
  show (if hq:∃ r,z1n m r = some q then E.rv hq.choose else undef) = _
  rw [dif_pos hex,inj _ _ _ hex.choose_spec hq]
 have hlab:∀ k,E'.lab k = zju m (E.lab k):=fun k=>rfl
 have rd:∀ {p p':Option Nat} {t:Ty} {cs:List Value} {x:t.den},((p = none∧p' = none)∨∃ r q,p = some r∧p' = some q∧z1n m r = some q)→Rd w (fun k=>E.lab k = z3g p) t cs x→Rd w (fun k=>E'.lab k = z3g p') t cs x:=by
  intro p p' t cs x hp hr
  refine hr.mono fun k hk=>?_
  rw [hlab,hk]
  exact zsy hp
 have selt:∀ {p p':Option Nat} {t:Ty} {x:t.den} {f:Nat} {v:Value},((p = none∧p' = none)∨∃ r q,p = some r∧p' = some q∧z1n m r = some q)→z1v σ E w (.selt t x p f) v→z1v σ' E' w (.selt t x p' f) v:=by
  intro p p' t x f v hp hr
  obtain ⟨ad,cs,h1,h2,h3,h4,h5⟩:=hr
  exact ⟨ad,cs,h1,h2,by rw [hlab,h3]; exact zsy hp,rd hp h4,h5⟩
 have hc:∀ c v,z1v σ E w c v→z1v σ' E' w (zqa m bs c) v:=by
  intro c v hv
  cases c with
  | undef=>trivial
  | int _ _=>exact hv
  | bool _=>exact hv
  | str _=>exact hv
  | err _=>exact hv
  | bor v0 e t xs=>exact ⟨hv.1,rd (p:=none) (p':=none) (.inl ⟨rfl,rfl⟩) hv.2⟩
  | nil=>exact hv
  | sn e t xs p =>
   cases p with
   | none=>exact rd (p:=none) (p':=none) (.inl ⟨rfl,rfl⟩) hv
   | some r =>
    simp only [zqa,zwu]
    split
    ·rename_i q hq
     exact rd (p:=some r) (p':=some q) (.inr ⟨r,q,rfl,rfl,hq⟩) hv
    ·trivial
  | full e t xs p =>
   cases p with
   | none=>exact ⟨rd (p:=none) (p':=none) (.inl ⟨rfl,rfl⟩) hv.1,hv.2⟩
   | some r =>
    simp only [zqa,zwu]
    split
    ·rename_i q hq
     exact ⟨rd (p:=some r) (p':=some q) (.inr ⟨r,q,rfl,rfl,hq⟩) hv.1,hv.2⟩
    ·trivial
  | own r =>
   simp only [zqa,zwu]
   split
   ·rename_i q hq
    obtain ⟨rfl,h1,h2⟩:=hv
    obtain ⟨row,hr⟩:=Option.isSome_iff_exists.1 h1
    exact ⟨(hrv r q hq).symm,by rw [hrow' r q row hq hr]; rfl,h2⟩
   ·trivial
  | part r lo n =>
   simp only [zqa,zwu]
   split
   ·rename_i q hq
    obtain ⟨row,A,c,h1,h2,h3,h4,h5,h6,h7,h8⟩:=hv
    refine ⟨zgt q row,A,c,hrow' r q row hq h1,h2,h3,h4,h5,h6,h7,fun hn=>?_⟩
    rw [hrv r q hq]
    exact h8 hn
   ·trivial
  | box b f =>
   simp only [zqa]
   cases hb:z6x b bs
   ·trivial
   ·obtain ⟨rfl,te,cs,h1,h2⟩:=hv
    exact ⟨rfl,te,_,hbox' b te cs hb h1,by simpa using h2⟩
  | mp b =>
   simp only [zqa]
   cases hb:z6x b bs
   ·trivial
   ·obtain ⟨rfl,te,cs,h1⟩:=hv
    exact ⟨rfl,te,_,hbox' b te cs hb h1⟩
  | mset t xs=>exact hv
  | elt r i f =>
   simp only [zqa,zwu]
   split
   ·rename_i q hq
    obtain ⟨row,g,n,c,h1,h2,h3,h4,h5,h6⟩:=hv
    exact ⟨zgt q row,g,n,c,hrow' r q row hq h1,by rw [hrv r q hq]; exact h2,h3,h4,h5,h6⟩
   ·trivial
  | selt t x p f =>
   cases p with
   | none=>exact selt (p:=none) (p':=none) (.inl ⟨rfl,rfl⟩) hv
   | some r =>
    simp only [zqa,zwu]
    split
    ·rename_i q hq
     exact selt (p:=some r) (p':=some q) (.inr ⟨r,q,rfl,rfl,hq⟩) hv
    ·trivial
  | fn f caps =>
   simp only [zqa]
   cases hb:caps.all fun p=>z6x p.1 bs
   ·trivial
   ·obtain ⟨rfl,hv⟩:=hv
    refine ⟨rfl,fun p hp=>?_⟩
    obtain ⟨te,cs,h1,h2⟩:=hv p hp
    exact ⟨te,_,hbox' p.1 te cs (List.all_eq_true.1 hb p hp) h1,by simpa using h2⟩
 refine ⟨E',h.bound,h.size,h.defers,fun t=>?_,fun b te cs hb=>?_,fun q row' hq=>?_, ?_⟩
 ·rcases hslot t with e | e
  ·rw [e]; exact (h.slots t).mapl hc
  ·rw [e]
   show z47 σ' E' w (.c .undef) (z74 oo a t)
   exact True.intro
 ·obtain ⟨cs0,h1,rfl⟩:=hbox b te cs hb
  obtain ⟨arr,k1,k2,k3,k4⟩:=h.boxes b te cs0 h1
  exact ⟨arr,k1,by rw [hlab,k2]; rfl,k3.mapl hc,k4⟩
 ·obtain ⟨r,row,h1,h2,rfl⟩:=hrow q row' hq
  obtain ⟨css,k1,k2,k3,k4⟩:=h.rows r row h2
  rw [hrv r q h1]
  refine ⟨css,k1,fun k hk=>by rw [hlab,k2 k hk]; simp [zju,h1], ?_,fun h=>k4 (Bool.and_eq_true_iff.1 h).2⟩
  show cond row.deep _ _
  cases hd:row.deep
  ·rw [hd] at k3
   exact z1u.imp (fun c y hy=>Rd.mono (fun k hk=>(by rw [hlab,hk]; rfl)) hy) (show z1u (fun c y=>Rd w (fun k=>E.lab k = .st) row.t c y) css row.xs from k3)
  ·rw [hd] at k3
   obtain ⟨Ls,j1,j2,j3⟩:=k3
   exact ⟨Ls,j1,j2,fun k hk=>by rw [hlab,j3 k hk]; simp [zju,h1]⟩
 ·refine ⟨h.same.os,h.same.tape,h.same.output,h.same.size,fun k hk hl=>?_⟩
  obtain ⟨g1,g2⟩:=h.same.old k hk hl
  exact ⟨by rw [hlab,g1]; rfl,g2⟩
theorem zev {a b:Nat}:Nat.beq a b = true↔a = b:=⟨Nat.eq_of_beq_eq_true,fun e=>by subst e; exact Nat.beq_refl a⟩
theorem z3f {α:Type}:∀ {l:List (Nat × α)} {t:Nat} {v:α},z1n l t = some v→(t,v) ∈ l
 | [],_,_,h=>by cases h
 | (k,u) :: l,t,v,h=>by
  simp only [z1n] at h
  cases hb:Nat.beq t k
  ·rw [hb] at h
   exact List.mem_cons_of_mem _ (z3f h)
  ·rw [hb] at h
   injection h with h
   rw [← h,zev.1 hb]
   exact List.mem_cons_self
theorem zf1 {f:z1e→z1e} (t:Nat):∀ ts:List Nat,z1n (zgo σ f ts) t = some ((σ.slot t).map f)∨z1n (zgo σ f ts) t = none
 | []=>.inr rfl
 | t' :: ts=>by
  simp only [zgo,z1n]
  cases hb:Nat.beq t t'
  ·exact zf1 t ts
  ·rw [zev.1 hb]; exact .inl rfl
theorem zan {f:z1e→z1e} (b:Nat):∀ {bs:List Nat} {l:List (Nat × (Nat × List z1e))},zmf σ f bs = some l →
  (∀ te cs,z1n l b = some (te,cs)→∃ cs0,σ.box b = some (te,cs0)∧cs = cs0.map f)∧(∀ te cs,z6x b bs = true→σ.box b = some (te,cs)→z1n l b = some (te,cs.map f))
 | [],l,h=>by
  injection h with h
  subst h
  exact ⟨(fun te cs h=>by cases h),fun te cs h=>by cases h⟩
 | b' :: bs,l,h=>by
  simp only [zmf] at h
  split at h
  ·rename_i te cs l' hb hl
   injection h with h
   subst h
   obtain ⟨g1,g2⟩:=zan b hl
   simp only [z1n,z6x]
   cases hq:Nat.beq b b'
   ·exact ⟨g1,fun te cs hm=>g2 te cs (by simpa using hm)⟩
   ·obtain rfl:=zev.1 hq
    refine ⟨fun te' cs' h'=>?_,fun te' cs' _ h'=>?_⟩
    ·simp only [cond_true,Option.some.injEq,Prod.mk.injEq] at h'
     obtain ⟨rfl,rfl⟩:=h'
     exact ⟨cs,hb,rfl⟩
    ·rw [hb] at h'
     injection h' with h'
     injection h' with e1 e2
     rw [e1,e2]
     rfl
  ·cases h
theorem zgq (q:Nat):∀ {m:List (Nat × Nat)} {l:List (Nat × Row)},zjs σ m = some l→∀ row',z1n l q = some row'→∃ r row,(r,q) ∈ m∧σ.row r = some row∧row' = zgt q row
 | [],l,h,row',h'=>by
  injection h with h
  subst h
  cases h'
 | (r,q') :: m,l,h,row',h'=>by
  simp only [zjs] at h
  split at h
  ·rename_i row l' hr hl
   injection h with h
   subst h
   simp only [z1n] at h'
   cases hb:Nat.beq q q'
   ·rw [hb] at h'
    obtain ⟨r',row2,k1,k2,k3⟩:=zgq q hl row' h'
    exact ⟨r',row2,List.mem_cons_of_mem _ k1,k2,k3⟩
   ·rw [hb] at h'
    injection h' with h'
    obtain rfl:=zev.1 hb
    exact ⟨r,row,List.mem_cons_self,hr,h'.symm⟩
  ·cases h
theorem zjr {r q:Nat} {row:Row} (hrow:σ.row r = some row):∀ {m:List (Nat × Nat)} {l:List (Nat × Row)},zjs σ m = some l→(m.map (·.2)).Nodup→(r,q) ∈ m→z1n l q = some (zgt q row)
 | [],l,h,_,hm=>by cases hm
 | (r',q') :: m,l,h,hn,hm=>by
  simp only [zjs] at h
  split at h
  ·rename_i row' l' hr hl
   injection h with h
   subst h
   simp only [z1n]
   simp only [List.map_cons,List.nodup_cons] at hn
   rcases List.mem_cons.1 hm with e | hm
   ·injection e with e1 e2
    subst e1 e2
    rw [hr] at hrow
    injection hrow with hrow
    rw [Nat.beq_refl,hrow]
    rfl
   ·have hne:Nat.beq q q' = false:=by
     cases hb:Nat.beq q q'
     ·rfl
     ·exact absurd (List.mem_map.2 ⟨(r,q),hm,zev.1 hb⟩) hn.1
    rw [hne]
    exact zjr hrow hl hn.2 hm
  ·cases h
theorem zxq {m:List (Nat × Nat)} (h:(m.map (·.2)).Nodup) {r r' q:Nat} (h1:(r,q) ∈ m) (h2:(r',q) ∈ m):r = r':=by
 induction m with
 | nil=>cases h1
 | cons p m ih =>
  simp only [List.map_cons,List.nodup_cons] at h
  rcases List.mem_cons.1 h1 with e | h1
  ·rcases List.mem_cons.1 h2 with e' | h2
   ·rw [← e] at e'
    injection e' with e' _
    exact e'.symm
   ·exact absurd (List.mem_map.2 ⟨_,h2,by rw [← e]⟩) h.1
  ·rcases List.mem_cons.1 h2 with e' | h2
   ·exact absurd (List.mem_map.2 ⟨_,h1,by rw [← e']⟩) h.1
   ·exact ih h.2 h1 h2
theorem lookL_ex {m:List (Nat × Nat)} {r q:Nat} (h:(r,q) ∈ m) (hn:(m.map (·.1)).Nodup):z1n m r = some q:=by
 induction m with
 | nil=>cases h
 | cons p m ih =>
  obtain ⟨k,u⟩:=p
  simp only [List.map_cons,List.nodup_cons] at hn
  simp only [z1n]
  rcases List.mem_cons.1 h with e | h
  ·injection e with e1 e2
   subst e1 e2
   rw [Nat.beq_refl]; rfl
  ·cases hb:Nat.beq r k
   ·exact ih h hn.2
   ·exact absurd (List.mem_map.2 ⟨_,h,zev.1 hb⟩) hn.1
theorem zcv (h:R w0 lab0 oo n σ E a w) {cl:z09} (hr:zij cl σ = some σ'):∃ E',R w0 lab0 oo n σ' E' a w:=by
 unfold zij at hr
 split at hr
 ·rename_i σ1 h1
  obtain ⟨σ2,h1,h2⟩:=Option.bind_eq_some_iff.1 h1
  obtain ⟨E2,G2⟩:=zfg h h1
  obtain ⟨E1,G⟩:=zk6 G2 h2
  split at hr
  ·rename_i m hm
   cases hq:(z4m (m.map (·.1)) && z4m (m.map (·.2)))
   ·rw [hq] at hr; cases hr
   ·rw [hq] at hr
    simp only [Bool.and_eq_true] at hq
    simp only [cond_true] at hr
    have n1:=z3k hq.1
    have n2:=z3k hq.2
    split at hr
    ·rename_i bx rw' hbx hrw
     injection hr with hr
     subst hr
     refine G.ren (m:=m) (bs:=cl.boxes) (fun t=>?_) (fun b te cs hb=>?_) (fun b te cs hm hb=>?_) (fun q row' hq=>?_) (fun r q row hl hrow=>?_) (fun r r' q hl hl'=>?_)
     ·show z7l _ t = _∨z7l _ t = _
      unfold z7l
      rcases zf1 (σ:=σ1) (f:=zqa m cl.boxes) t cl.slots with e | e
      ·rw [e]; exact .inl rfl
      ·rw [e]; exact .inr rfl
     ·exact (zan b hbx).1 te cs hb
     ·exact (zan b hbx).2 te cs hm hb
     ·obtain ⟨r,row,k1,k2,k3⟩:=zgq q hrw row' hq
      exact ⟨r,row,lookL_ex k1 n1,k2,k3⟩
     ·exact zjr hrow hrw n2 (z3f hl)
     ·exact zxq n2 (z3f hl) (z3f hl')
    ·cases hr
  ·cases hr
 ·cases hr
end
end Go.Fw
namespace Go.Fw
open Go.RowKit
inductive Ex where
 | nrm
 | exit (id:Nat)
 | ret
def exOf:Ex→Exit
 | .nrm=>.normal
 | .exit id=>.exit id
 | .ret=>.ret
inductive z0p where
 | n
 | mk (join:Option z09) (lp:Option z09) (a b:z0p)
def z0p.fst:z0p→z0p
 | .n=>.n
 | .mk _ _ a _=>a
def z0p.snd:z0p→z0p
 | .n=>.n
 | .mk _ _ _ b=>b
def z0p.join:z0p→Option z09
 | .n=>none
 | .mk j _ _ _=>j
def z0p.lp:z0p→Option z09
 | .n=>none
 | .mk _ l _ _=>l
def zur:Option z09→St→Option St
 | none,σ=>some σ
 | some cl,σ=>zij cl σ
def pro1C (σ:St) (l:Loc):Bool:=match zil σ l with
 | some (.own r)=>match σ.row r with
  | some row=>row.nilE || Nat.blt 0 row.xs.length
  | none=>true
 | _=>true
def pro1 (σ:St) (l:Loc):St:=match zil σ l with
 | some (.own r)=>match σ.row r with
  | some row=>⟨σ.slot,σ.box,upd σ.row r (some ⟨row.e,row.t,row.xs,row.deep,true⟩)⟩
  | none=>σ
 | _=>σ
def rowsC:Option z09→List (Loc × Nat)
 | none=>[]
 | some cl=>cl.rows
section
variable {ρ:Type}
def proK (F:St→Option ρ):List (Loc × Nat)→St→Option ρ
 | [],σ=>F σ
 | (l,q) :: ls,σ=>cond (zr0 q) (cond (pro1C σ l) (proK F ls (pro1 σ l)) none) (proK F ls σ)
abbrev z00 (j:Option z09) (K:Ex→St→Option ρ):Ex→St→Option ρ
 | .nrm,σ=>(zur j σ).bind (K .nrm)
 | .exit i,σ=>K (.exit i) σ
 | .ret,σ=>K .ret σ
abbrev z16 (F:St→Option ρ) (K:Ex→St→Option ρ):Ex→St→Option ρ
 | .nrm,σ=>F σ
 | .exit i,σ=>K (.exit i) σ
 | .ret,σ=>K .ret σ
abbrev z1j (id:Nat) (K:Ex→St→Option ρ):Ex→St→Option ρ
 | .nrm,σ=>K .nrm σ
 | .exit i,σ=>cond (Nat.beq i id) (K .nrm σ) (K (.exit i) σ)
 | .ret,σ=>K .ret σ
def z2r (f:St→(Ex→St→Option ρ)→Option ρ) (cl:z09):Nat→St→(Ex→St→Option ρ)→Option ρ
 | 0,_,_=>none
 | N + 1,σ,K=>f σ (z00 (some cl) (z16 (fun σ''=>z2r f cl N σ'' K) K))
noncomputable def z1t (Γ:Gm) (T:Tab) (B:Nat→Option z09) (N:Nat):Code→z0p→St→(Ex→St→Option ρ)→Option ρ
 | .skip,_,σ,K=>K .nrm σ
 | .label _,_,σ,K=>K .nrm σ
 | .region _ ops draw,_,σ,K=>zqx Γ T N ops draw σ (K .nrm)
 | .seq a b,pl,σ,K=>z1t Γ T B N a pl.fst σ (z00 pl.join (z16 (fun σ'=>z1t Γ T B N b pl.snd σ' K) K))
 | .cond c a b,pl,σ,K=>match ev σ c with
  | .c (.bool t)=>cond t (z1t Γ T B N a pl.fst σ K) (z1t Γ T B N b pl.snd σ K)
  | _=>none
 | .block id c,pl,σ,K=>z1t Γ T B N c pl.fst σ (z00 pl.join (z1j id K))
 | .loop c,pl,σ,K=>match pl.lp with
  | some cl=>match pl.join with
   | none=>(zij cl σ).bind fun σ0=>z2r (fun σ K=>z1t Γ T B N c pl.fst σ K) cl N σ0 K
   | some cl1=>(zij cl1 σ).bind fun σ0=>z1t Γ T B N c pl.snd σ0 (z00 (some cl) (z16 (fun σ''=>z2r (fun σ K=>z1t Γ T B N c pl.fst σ K) cl N σ'' K) K))
  | none=>none
 | .exit id,_,σ,K=>(zur (B id) σ).bind (K (.exit id))
 | .ret,_,σ,K=>proK (fun σ=>(zur (B 1000000) σ).bind (K .ret)) (rowsC (B 1000000)) σ
 | _,_,_,_=>none
end
def z8q (n:Nat):Code→Bool
 | .region _ ops _=>zih n ops
 | .seq a b=>z8q n a && z8q n b
 | .cond _ a b=>z8q n a && z8q n b
 | .block _ c=>z8q n c
 | .loop c=>z8q n c
 | _=>true
section
variable {P:Program} {σ σ':St} {E E':Env} {w w':World} {w0:World} {lab0:Nat→Lab} {oo:Nat→Value} {n:Nat} {a:Act} {T:Tab} {Γ:Gm} {ρ:Type} {B:Nat→Option z09} {N:Nat}
theorem least {p:Nat→Prop} (h:∃ n,p n):∃ n,p n∧∀ m,p m→n≤m:=by
 classical
 obtain ⟨n,hn⟩:=h
 induction n using Nat.strongRecOn with
 | _ n ih =>
  by_cases hex:∃ m,m < n∧p m
  ·obtain ⟨m,h1,h2⟩:=hex
   exact ih m h1 h2
  ·exact ⟨n,hn,fun m hm=>Nat.le_of_not_lt fun hlt=>hex ⟨m,hlt,hm⟩⟩
noncomputable def z7o {p:Nat→Prop} (h:∃ n,p n):Nat:=(least h).choose
theorem znv {p:Nat→Prop} (h:∃ n,p n):p (z7o h):=(least h).choose_spec.1
theorem zvo {p:Nat→Prop} (h:∃ n,p n) {m:Nat} (hm:p m):z7o h≤m:=(least h).choose_spec.2 m hm
theorem zak (h:R w0 lab0 oo n σ E a w) {cl:Option z09} (hr:zur cl σ = some σ'):∃ E',R w0 lab0 oo n σ' E' a w:=by
 cases cl with
 | none =>
  injection hr with hr
  subst hr
  exact ⟨E,h⟩
 | some cl=>exact zcv h hr
theorem zvf (h:R w0 lab0 oo n σ E a w) {l:Loc} (hc:pro1C σ l = true):R w0 lab0 oo n (pro1 σ l) E a w:=by
 have key:∀ r row,σ.row r = some row→(row.nilE || Nat.blt 0 row.xs.length) = true→R w0 lab0 oo n ⟨σ.slot,σ.box,upd σ.row r (some ⟨row.e,row.t,row.xs,row.deep,true⟩)⟩ E a w:=by
  intro r row hrow' hc
  have m:z68 σ E w ⟨σ.slot,σ.box,upd σ.row r (some ⟨row.e,row.t,row.xs,row.deep,true⟩)⟩ E w:=by
   refine ⟨fun r' row1 h1=>?_,fun b te cs hb=>⟨te,cs,hb,rfl,rfl⟩,fun _ _ _ h1 h2=>⟨h1,h2⟩,fun _ _ _ _ h=>h⟩
   by_cases e:r' = r
   ·subst e
    rw [hrow'] at h1
    injection h1 with h1
    subst h1
    exact ⟨_,z14 _ _ _,rfl,rfl,Nat.le_refl _⟩
   ·exact ⟨row1,(z26 _ _ e).trans h1,rfl,rfl,Nat.le_refl _⟩
  refine ⟨h.bound,h.size,h.defers,fun t=>(h.slots t).move m,fun b te cs hb=>?_,fun r' row1 h1=>?_,h.same⟩
  ·obtain ⟨arr,h1,h2,h3,h4⟩:=h.boxes b te cs hb
   exact ⟨arr,h1,h2,h3.imp fun _ _ h=>h.move m,h4⟩
  ·by_cases e:r' = r
   ·subst e
    have h1':upd σ.row r' (some ⟨row.e,row.t,row.xs,row.deep,true⟩) r' = some row1:=h1
    rw [z14] at h1'
    injection h1' with h1'
    subst h1'
    obtain ⟨css,k1,k2,k3,k4⟩:=h.rows r' row hrow'
    refine ⟨css,k1,k2,k3,fun _ hl=>?_⟩
    have hl':row.xs.length = 0:=hl
    cases hn:row.nilE
    ·rw [hn,hl'] at hc
     cases hc
    ·exact k4 hn hl'
   ·have h1':upd σ.row r (some ⟨row.e,row.t,row.xs,row.deep,true⟩) r' = some row1:=h1
    rw [z26 _ _ e] at h1'
    exact h.rows r' row1 h1'
 unfold pro1
 split
 ·rename_i r hr
  split
  ·rename_i row hrow
   refine key r row hrow ?_
   unfold pro1C at hc
   rw [hr] at hc
   simp only [hrow] at hc
   exact hc
  ·exact h
 ·exact h
theorem ze9 {F:St→Option ρ} {r:ρ}:∀ {ls:List (Loc × Nat)} {σ:St} {E:Env},R w0 lab0 oo n σ E a w→proK F ls σ = some r→∃ σ',R w0 lab0 oo n σ' E a w∧F σ' = some r
 | [],σ,E,h,hr=>⟨σ,h,hr⟩
 | (l,q) :: ls,σ,E,h,hr=>by
  simp only [proK] at hr
  cases hq:zr0 q
  ·rw [hq] at hr
   exact ze9 h hr
  ·rw [hq] at hr
   cases hc:pro1C σ l
   ·rw [hc] at hr; cases hr
   ·rw [hc] at hr
    exact ze9 (zvf h hc) hr
theorem NP.then {Q:Exit→Act→World→Prop} (h:NP Q) (next:Act→World→Prop):NP (Exit.then next Q):=fun c a a' w hq=>h c a a' w hq
theorem NP.block {Q:Exit→Act→World→Prop} (h:NP Q) (id:Nat):NP (Exit.inBlock id Q):=fun c a a' w hq=>h c a a' w hq
def zg6 (w0:World) (lab0:Nat→Lab) (oo:Nat→Value) (n:Nat) (K:Ex→St→Option ρ) (r:ρ) (Q:Exit→Act→World→Prop):Prop :=
 ∀ e σ' E' a' w',K e σ' = some r→R w0 lab0 oo n σ' E' a' w'→Q (exOf e) a' w'
theorem zg6.join {K:Ex→St→Option ρ} {r:ρ} {Q:Exit→Act→World→Prop} (h:zg6 w0 lab0 oo n K r Q) (j:Option z09):zg6 w0 lab0 oo n (z00 j K) r Q:=by
 intro e σ' E' a' w' hr hR
 cases e with
 | nrm =>
  obtain ⟨σ2,h1,h2⟩:=Option.bind_eq_some_iff.1 hr
  obtain ⟨E2,g⟩:=zak hR h1
  exact h .nrm σ2 E2 a' w' h2 g
 | exit i=>exact h (.exit i) σ' E' a' w' hr hR
 | ret=>exact h .ret σ' E' a' w' hr hR
theorem z3w (hT:TOk P T) (hΓ:GAt P w0 lab0 Γ) (hm:P.follows .mixedOrders = true):∀ (c:Code) (pl:z0p) {σ:St} {E:Env} {a:Act} {w:World} {K:Ex→St→Option ρ} {r:ρ} {Q:Exit→Act→World→Prop},
  z8q n c = true→R w0 lab0 oo n σ E a w→z1t Γ T B N c pl σ K = some r→NP Q→zg6 w0 lab0 oo n K r Q→c.wp P Q a w
 | .skip,pl,σ,E,a,w,K,r,Q,_,h,hr,_,hK=>wp_skip (hK .nrm σ E a w hr h)
 | .label l,pl,σ,E,a,w,K,r,Q,_,h,hr,_,hK=>wp_label (hK .nrm σ E a w hr h)
 | .region id ops draw,pl,σ,E,a,w,K,r,Q,hc,h,hr,hQ,hK=>zlo hT hΓ hm hc hQ (fun σ' E' a' w' hr' h'=>hK .nrm σ' E' a' w' hr' h') h hr
 | .seq x y,pl,σ,E,a,w,K,r,Q,hc,h,hr,hQ,hK=>by
  simp only [z8q,Bool.and_eq_true] at hc
  refine wp_seq (z3w hT hΓ hm x pl.fst hc.1 h hr (hQ.then _) (zg6.join ?_ _))
  intro e σ' E' a' w' hr' h'
  cases e with
  | nrm=>exact z3w hT hΓ hm y pl.snd hc.2 h' hr' hQ hK
  | exit i=>exact hK (.exit i) σ' E' a' w' hr' h'
  | ret=>exact hK .ret σ' E' a' w' hr' h'
 | .cond c x y,pl,σ,E,a,w,K,r,Q,hc,h,hr,hQ,hK=>by
  simp only [z8q,Bool.and_eq_true] at hc
  simp only [z1t] at hr
  split at hr
  ·rename_i t ht
   have hv:=z1y h c
   rw [ht] at hv
   cases t
   ·exact wp_cond_false hv (z3w hT hΓ hm y pl.snd hc.2 h hr hQ hK)
   ·exact wp_cond_true hv (z3w hT hΓ hm x pl.fst hc.1 h hr hQ hK)
  ·cases hr
 | .block id c,pl,σ,E,a,w,K,r,Q,hc,h,hr,hQ,hK=>by
  refine wp_block (z3w hT hΓ hm c pl.fst hc h hr (hQ.block id) (zg6.join ?_ _))
  intro e σ' E' a' w' hr' h'
  cases e with
  | nrm=>exact hK .nrm σ' E' a' w' hr' h'
  | exit i =>
   show if i = id then Q .normal a' w' else Q (.exit i) a' w'
   simp only [z1j] at hr'
   cases hb:Nat.beq i id
   ·rw [hb] at hr'
    rw [if_neg fun e=>by subst e; rw [Nat.beq_refl] at hb; cases hb]
    exact hK (.exit i) σ' E' a' w' hr' h'
   ·rw [hb] at hr'
    rw [if_pos (Nat.eq_of_beq_eq_true hb)]
    exact hK .nrm σ' E' a' w' hr' h'
  | ret=>exact hK .ret σ' E' a' w' hr' h'
 | .loop c,pl,σ,E,a,w,K,r,Q,hc,h,hr,hQ,hK=>by
  simp only [z1t] at hr
  split at hr
  ·rename_i cl hcl
   classical
   let F:Nat→St→Option ρ:=fun M σ=>z2r (fun σ K=>z1t Γ T B N c pl.fst σ K) cl M σ K
   let At:Nat→Act→World→Prop:=fun M a w=>(∃ σ E,R w0 lab0 oo n σ E a w∧F M σ = some r) ∨
    (M = N + 1∧∃ σ E,R w0 lab0 oo n σ E a w∧z1t Γ T B N c pl.snd σ (z00 (some cl) (z16 (F N) K)) = some r)
   have hstart:∃ M,At M a w:=by
    split at hr
    ·obtain ⟨σ0,h1,h2⟩:=Option.bind_eq_some_iff.1 hr
     obtain ⟨E0,g⟩:=zcv h h1
     exact ⟨N,.inl ⟨σ0,E0,g,h2⟩⟩
    ·obtain ⟨σ0,h1,h2⟩:=Option.bind_eq_some_iff.1 hr
     obtain ⟨E0,g⟩:=zcv h h1
     exact ⟨N + 1,.inr ⟨rfl,σ0,E0,g,h2⟩⟩
   refine wp_loop (I:=fun a w=>∃ M,At M a w) (μ:=fun a w=>if hex:∃ M,At M a w then z7o hex else 0) hstart ?_
   intro a w hI
   have hμ:(if hex:∃ M,At M a w then z7o hex else 0) = z7o hI:=dif_pos hI
   simp only [hμ]
   have next:∀ M σ' E' a' w',M < z7o hI→F M σ' = some r→R w0 lab0 oo n σ' E' a' w'→(∃ M,At M a' w')∧(if hex:∃ M,At M a' w' then z7o hex else 0) < z7o hI:=by
    intro M σ' E' a' w' hM hr' h'
    have hA:At M a' w':=.inl ⟨σ',E',h',hr'⟩
    refine ⟨⟨M,hA⟩, ?_⟩
    have hμ':(if hex:∃ M,At M a' w' then z7o hex else 0) = z7o (⟨M,hA⟩:∃ M,At M a' w'):=dif_pos ⟨M,hA⟩
    rw [hμ']
    have:=zvo (⟨M,hA⟩:∃ M,At M a' w') hA
    omega
   rcases znv hI with ⟨σ1,E1,g1,hr1⟩ | ⟨hM,σ1,E1,g1,hr1⟩
   ·generalize hM:z7o hI = M at hr1 next
    cases M with
    | zero=>cases hr1
    | succ M =>
     simp only [F,z2r] at hr1
     refine z3w hT hΓ hm c pl.fst hc g1 hr1 (hQ.then _) (zg6.join ?_ _)
     intro e σ' E' a' w' hr' h'
     cases e with
     | nrm=>exact next M σ' E' a' w' (Nat.lt_succ_self M) hr' h'
     | exit i=>exact hK (.exit i) σ' E' a' w' hr' h'
     | ret=>exact hK .ret σ' E' a' w' hr' h'
   ·refine z3w hT hΓ hm c pl.snd hc g1 hr1 (hQ.then _) (zg6.join ?_ _)
    intro e σ' E' a' w' hr' h'
    cases e with
    | nrm=>exact next N σ' E' a' w' (by omega) hr' h'
    | exit i=>exact hK (.exit i) σ' E' a' w' hr' h'
    | ret=>exact hK .ret σ' E' a' w' hr' h'
  ·cases hr
 | .exit id,pl,σ,E,a,w,K,r,Q,_,h,hr,_,hK=>by
  obtain ⟨σ2,h1,h2⟩:=Option.bind_eq_some_iff.1 hr
  obtain ⟨E2,g⟩:=zak h h1
  exact wp_exit (hK (.exit id) σ2 E2 a w h2 g)
 | .ret,pl,σ,E,a,w,K,r,Q,_,h,hr,_,hK=>by
  obtain ⟨σ1,h,hr⟩:=ze9 h hr
  obtain ⟨σ2,h1,h2⟩:=Option.bind_eq_some_iff.1 hr
  obtain ⟨E2,g⟩:=zak h h1
  exact wp_ret (hK .ret σ2 E2 a w h2 g)
 | .rangeFunc _ _ _ _,_,_,_,_,_,_,_,_,_,_,hr,_,_=>by cases hr
 | .scope _,_,_,_,_,_,_,_,_,_,_,hr,_,_=>by cases hr
 | .goto _,_,_,_,_,_,_,_,_,_,_,hr,_,_=>by cases hr
 | .refuse _,_,_,_,_,_,_,_,_,_,_,hr,_,_=>by cases hr
end
end Go.Fw
namespace Go.Fw
open Go.RowKit
def mkSV (agg:Bool) (cs:List z1e):SV:=match agg,cs with
 | true,cs=>.agg cs
 | false,[c]=>.c c
 | false,_=>.c .undef
def zcc:(ps:List PT)→Dat ps→Nat→List (Nat × SV) × List (Nat × Row)
 | [],_,_=>([],[])
 | ⟨t,agg,io⟩ :: ps,X,i=>match io with
  | false=>((i,mkSV agg (z57 t X.1 none)) :: (zcc ps X.2 (i + 1)).1,(zcc ps X.2 (i + 1)).2)
  | true=>match z23 (100000 + i) t X.1 0 with
   | (cs,rows,_)=>((i,mkSV agg cs) :: (100000 + i,mkSV agg cs) :: (zcc ps X.2 (i + 1)).1,rows)
def z2j (ps:List PT) (X:Dat ps):St:=z1k (zcc ps X 0).1 [] (zcc ps X 0).2
def zd8 (T:Tab) (σ:St):List ResultVar→Option (List SV)
 | []=>some []
 | .tmp t :: rs=>match zd8 T σ rs with
  | some l=>some (ev σ (.tmp t) :: l)
  | none=>none
 | .cell x ty :: rs=>match ev σ (.tmp x),T ty,zd8 T σ rs with
  | .c c,some i,some l=>match zq6 σ c i.agg i.zero.length with
   | some s=>some (s :: l)
   | none=>none
  | _,_,_=>none
def zeb (look:Nat→Option Row):(rs:List PT)→List SV→Option (Dat rs)
 | [],[]=>some ()
 | p :: ps,s :: ss=>match z69 p.agg s with
  | some cs=>z9x (z78 look p.t cs) (zeb look ps ss)
  | none=>none
 | [],_ :: _=>none
 | _ :: _,[]=>none
def z5r:List PT→List SV→List z1e
 | p :: ps,s :: ss=>(match z69 p.agg s with | some cs=>cs | none=>[]) ++ z5r ps ss
 | _,_=>[]
def zyc (σ:St):(ps:List PT)→Nat→Option (IoT ps)
 | [],_=>some ()
 | ⟨t,agg,false⟩ :: ps,i=>zyc σ ps (i + 1)
 | ⟨t,agg,true⟩ :: ps,i=>match z69 agg (σ.slot (100000 + i)) with
  | some cs=>z78 σ.row t cs
  | none=>none
def zh6 (σ:St):(ps:List PT)→Nat→List z1e
 | [],_=>[]
 | ⟨t,agg,false⟩ :: ps,i=>zh6 σ ps (i + 1)
 | ⟨t,agg,true⟩ :: ps,i=>match z69 agg (σ.slot (100000 + i)) with
  | some cs=>cs
  | none=>[]
def nilC (look:Nat→Option Row):List z1e→Bool
 | [.nil]=>true
 | [.own r]=>match look r with
  | some row=>row.nilE || Nat.blt 0 row.xs.length
  | none=>false
 | _=>false
def zwv {α:Type} (look:Nat→Option Row):List PT→List SV→Option α→Option α
 | p :: ps,s :: ss,X=>cond p.io (match z69 p.agg s with
  | some cs=>cond (nilC look cs) (zwv look ps ss X) none
  | none=>none) (zwv look ps ss X)
 | [],_,X=>X
 | _ :: _,[],X=>X
def zxt (look:Nat→Option Row):List PT→List SV→Prop
 | p :: ps,s :: ss=>(p.io = true→∀ cs,z69 p.agg s = some cs→nilC look cs = true)∧zxt look ps ss
 | [],_=>True
 | _ :: _,[]=>True
theorem za9 {α:Type} {look:Nat→Option Row} {r:α}:∀ {rs:List PT} {ss:List SV} {X:Option α},zwv look rs ss X = some r→zxt look rs ss∧X = some r
 | [],_,_,h=>⟨trivial,h⟩
 | _ :: _,[],_,h=>⟨trivial,h⟩
 | p :: ps,s :: ss,X,h=>by
  simp only [zwv] at h
  cases hio:p.io
  ·rw [hio] at h
   obtain ⟨h1,h2⟩:=za9 (show zwv look ps ss X = some r from h)
   exact ⟨⟨(fun hq=>by rw [hio] at hq; cases hq),h1⟩,h2⟩
  ·rw [hio] at h
   simp only [cond_true] at h
   split at h
   ·rename_i cs hcs
    cases hq:nilC look cs
    ·rw [hq] at h; cases h
    rw [hq] at h
    obtain ⟨h1,h2⟩:=za9 (show zwv look ps ss X = some r from h)
    exact ⟨⟨fun _ cs' hcs'=>by rw [hcs] at hcs'; injection hcs' with hcs'; subst hcs'; exact hq,h1⟩,h2⟩
   ·cases h
def ztn (T:Tab) (sig:Sig) (rv:List ResultVar) (σ:St):Option (IoT sig.ps × Dat sig.rs) :=
 match zd8 T σ rv with
 | some ss=>cond (z4m (z15 (z5r sig.rs ss ++ zh6 σ sig.ps 0))) (zwv σ.row sig.rs ss (z9x (zyc σ sig.ps 0) (zeb σ.row sig.rs ss))) none
 | none=>none
def z3o (T:Tab) (sig:Sig) (rv:List ResultVar):Ex→St→Option (IoT sig.ps × Dat sig.rs)
 | .nrm,σ=>ztn T sig rv σ
 | .ret,σ=>ztn T sig rv σ
 | .exit _,_=>none
section
variable {P:Program} {σ σ':St} {E E':Env} {w w':World} {w0:World} {lab0:Nat→Lab} {oo:Nat→Value} {n:Nat} {a:Act} {T:Tab} {Γ:Gm} {B:Nat→Option z09} {N:Nat}
theorem zdf {agg:Bool} {cs:List z1e} {us:List Value} {v:Value} (hc:z5x agg v us) (h:z1u (z1v σ E w) cs us):z47 σ E w (mkSV agg cs) v:=by
 cases agg
 ·obtain rfl:us = [v]:=hc
  cases cs with
  | nil=>exact True.intro
  | cons c cs=>cases cs with
   | nil=>exact h.1
   | cons _ _=>exact True.intro
 ·obtain ⟨arr,rfl,rfl⟩:=hc
  exact ⟨arr,rfl,h⟩
theorem zaa {α:Type}:∀ {l l':List (Nat × α)} {t:Nat},z1n (l ++ l') t = match z1n l t with | some v=>some v | none=>z1n l' t
 | [],_,_=>rfl
 | (k,v) :: l,l',t=>by
  simp only [List.cons_append,z1n]
  cases Nat.beq t k
  ·exact zaa
  ·rfl
theorem zeh (d:Nat) (t:Ty):∀ (y:t.den) (j:Nat),∀ p ∈ (z23 d t y j).2.1,z1n (z23 d t y j).2.1 p.1 = some p.2:=by
 induction t with
 | int k=>intro y j p hp; simp [z23] at hp
 | bool=>intro y j p hp; simp [z23] at hp
 | fnc g=>intro y j p hp; simp [z23] at hp
 | str=>intro y j p hp; simp [z23] at hp
 | err=>intro y j p hp; simp [z23] at hp
 | sl e t _ =>
  intro y j p hp
  simp only [z23,List.mem_singleton] at hp
  subst hp
  simp [z23,z1n]
 | pair t1 t2 ih1 ih2 =>
  intro y j p hp
  simp only [z23,List.mem_append] at hp ⊢
  rw [zaa]
  rcases hp with hp | hp
  ·rw [ih1 _ _ p hp]
  ·cases hl:z1n (z23 d t1 y.1 j).2.1 p.1 with
   | none=>exact ih2 _ _ p hp
   | some v =>
    have h1:=(z3s d).2 _ (z3f hl)
    have h2:=(z3s d).2 p hp
    obtain ⟨i1,_,a1,b1⟩:=h1
    obtain ⟨i2,a2,_,b2⟩:=h2
    have:=z5u (b1.symm.trans b2)
    exact absurd (Nat.lt_of_lt_of_le a1 a2) (by rw [this]; exact Nat.lt_irrefl _)
theorem start_ok {L:List Nat}:∀ {ps:List PT} {vs:List Value} {X:Dat ps} {i:Nat},z63 w L ps vs X→(za8 ps = true→L = [])→z80 ps = true→L.Nodup →
  ∃ (f:Nat→Lab) (rvf:Nat→Value),(∀ k ∈ L,f k≠.st) ∧
   ∀ (σ:St) (E:Env),(∀ k,k ∈ L→E.lab k = f k)→(∀ k,k ∉ L→E.lab k = .st)→E.rv = rvf→(∀ r row,z1n (zcc ps X i).2 r = some row→σ.row r = some row) →
    (∀ p ∈ (zcc ps X i).1,∃ j v,vs[j]? = some v∧(p.1 = i + j∨p.1 = 100000 + (i + j))∧z47 σ E w p.2 v) ∧
    (∀ r row,z1n (zcc ps X i).2 r = some row→z2w w E.lab r row (E.rv r)):=by
 intro ps
 have ro:∀ {p:PT} {v:Value} {x:p.t.den} {σ:St} {E:Env},(∃ cs,z5x p.agg v cs∧Rd w (fun k=>k ∉ L) p.t cs x)→(∀ k,k ∉ L→E.lab k = .st)→z47 σ E w (mkSV p.agg (z57 p.t x none)) v:=by
  rintro p v x σ E ⟨cs,h1,h2⟩ hl
  exact zdf h1 (z6l (p:=none) (h2.mono fun k hk=>hl k hk))
 have ros:∀ {ps:List PT} {vs:List Value} {X:Dat ps} {i:Nat},za8 ps = true→z63 w L ps vs X→(zcc ps X i).2 = []∧∀ (σ:St) (E:Env),(∀ k,k ∉ L→E.lab k = .st)→∀ p ∈ (zcc ps X i).1,∃ j v,vs[j]? = some v∧(p.1 = i + j∨p.1 = 100000 + (i + j))∧z47 σ E w p.2 v:=by
  intro ps
  induction ps with
  | nil=>intro vs X i _ _; exact ⟨rfl,fun σ E _ p hp=>by simp [zcc] at hp⟩
  | cons p ps ih =>
   intro vs X i hn ha
   cases vs with
   | nil=>exact ha.elim
   | cons v vs =>
    obtain ⟨t,agg,io⟩:=p
    simp only [za8,List.all_cons,Bool.and_eq_true,Bool.not_eq_true'] at hn
    obtain ⟨hio,hn⟩:=hn
    subst hio
    obtain ⟨h1,h2⟩:=ha
    obtain ⟨g1,g2⟩:=ih (i:=i + 1) hn h2
    refine ⟨g1,fun σ E hl p hp=>?_⟩
    rcases List.mem_cons.1 hp with rfl | hp
    ·exact ⟨0,v,rfl,.inl rfl,ro (p:=⟨t,agg,false⟩) h1 hl⟩
    ·obtain ⟨j,v',k1,k2,k3⟩:=g2 σ E hl p hp
     exact ⟨j + 1,v',(by simpa using k1),k2.elim (fun e=>.inl (by omega)) (fun e=>.inr (by omega)),k3⟩
 induction ps with
 | nil =>
  intro vs X i ha hn ho hL
  have hL0:=hn rfl
  subst hL0
  refine ⟨fun _=>.dead,fun _=>undef,(fun k hk=>by cases hk),fun σ E _ _ _ _=>⟨fun p hp=>by simp [zcc] at hp,fun r row hr=>by simp [zcc,z1n] at hr⟩⟩
 | cons p ps ih =>
  intro vs X i ha hn ho hL
  cases vs with
  | nil=>exact ha.elim
  | cons v vs =>
   obtain ⟨t,agg,io⟩:=p
   obtain ⟨h1,h2⟩:=ha
   cases io
   ·obtain ⟨f,rvf,k1,k2⟩:=ih (i:=i + 1) h2 (fun hq=>hn (by simpa [za8] using hq)) ho hL
    refine ⟨f,rvf,k1,fun σ E e1 e2 e3 e4=>?_⟩
    obtain ⟨g1,g2⟩:=k2 σ E e1 e2 e3 e4
    refine ⟨fun p hp=>?_,g2⟩
    rcases List.mem_cons.1 hp with rfl | hp
    ·exact ⟨0,v,rfl,.inl rfl,ro (p:=⟨t,agg,false⟩) h1 e2⟩
    ·obtain ⟨j,v',k1,k2,k3⟩:=g1 p hp
     exact ⟨j + 1,v',(by simpa using k1),k2.elim (fun e=>.inl (by omega)) (fun e=>.inr (by omega)),k3⟩
   ·obtain ⟨cs,hcv,hown⟩:=h1
    have hown:Own w t L cs X.1:=hown
    obtain ⟨f,rvf,k1,k2⟩:=z7p (100000 + i) (j:=0) hown hL
    obtain ⟨r1,r2⟩:=ros (i:=i + 1) ho h2
    have hrows:(zcc (⟨t,agg,true⟩ :: ps) X i).2 = (z23 (100000 + i) t X.1 0).2.1:=rfl
    refine ⟨f,rvf,fun k hk=>?_,fun σ E e1 e2 e3 e4=>?_⟩
    ·obtain ⟨i',_,_,hf⟩:=k1 k hk
     rcases hf with hf | hf <;> rw [hf] <;> simp
    ·rw [hrows] at e4
     have hmem:∀ p ∈ (z23 (100000 + i) t X.1 0).2.1,z1n (z23 (100000 + i) t X.1 0).2.1 p.1 = some p.2:=zeh _ _ _ _
     obtain ⟨g1,g2⟩:=k2 σ E e1 (fun p hp=>by rw [e3]) (fun p hp=>e4 _ _ (hmem p hp))
     refine ⟨fun p hp=>?_,fun r row hr=>?_⟩
     ·rcases List.mem_cons.1 hp with rfl | hp
      ·exact ⟨0,v,rfl,.inl rfl,zdf hcv g1⟩
      rcases List.mem_cons.1 hp with rfl | hp
      ·exact ⟨0,v,rfl,.inr rfl,zdf hcv g1⟩
      ·obtain ⟨j,v',k1,k2,k3⟩:=r2 σ E e2 p hp
       exact ⟨j + 1,v',(by simpa using k1),k2.elim (fun e=>.inl (by omega)) (fun e=>.inr (by omega)),k3⟩
     ·rw [hrows] at hr
      exact g2 (r,row) (z3f hr)
theorem zjo {sl:List (Nat × SV)} {σ0:St} {v:Value} {t:Nat} (h:∀ p ∈ sl,p.1 = t→z47 σ0 E w p.2 v):z47 σ0 E w (z7l sl t) v:=by
 unfold z7l
 split
 ·rename_i s hs
  exact h _ (z3f hs) rfl
 ·exact (show z1v σ0 E w .undef v from True.intro)
def rvF (ts:Array Value):ResultVar→Sem Value
 | .tmp t=>pure (ts.getD t undef)
 | .cell x t=>do loadVar t (← asAddr (ts.getD x undef))
theorem zvc (fn:Func) (ts:Array Value):results fn ts = (do let vs ← fn.results.mapM (rvF ts); pure (if h:vs.size = 1 then vs[0] else .tuple vs)):=by
 unfold results
 have:(fun x:ResultVar=>match x with
  | .tmp t=>pure (ts.getD t undef)
  | .cell x t=>do loadVar t (← asAddr (ts.getD x undef))) = rvF ts:=by
  funext x
  cases x <;> rfl
 rw [← this]
 rfl
theorem zd7 (hT:TOk P T) (h:R w0 lab0 oo n σ E a w):∀ {rv:List ResultVar} {ss:List SV},zd8 T σ rv = some ss →
  ∃ vs:List Value,z1u (z47 σ E w) ss vs∧(rv.mapM (rvF a.tmps)).run P w = .ok vs w:=by
 intro rv
 induction rv with
 | nil =>
  intro ss hr
  injection hr with hr
  subst hr
  exact ⟨[],trivial,by simp⟩
 | cons r rv ih =>
  intro ss hr
  cases r with
  | tmp t =>
   simp only [zd8] at hr
   split at hr
   ·rename_i l hl
    injection hr with hr
    subst hr
    obtain ⟨vs,h1,h3⟩:=ih hl
    refine ⟨a.eval (.tmp t) :: vs,⟨z1y h (.tmp t),h1⟩, ?_⟩
    have h0:(rvF a.tmps (.tmp t)).run P w = .ok (a.eval (.tmp t)) w:=rfl
    rw [List.mapM_cons,Sem.run_bind,h0]
    show ((do let bs ← rv.mapM (rvF a.tmps); pure (a.eval (.tmp t) :: bs)):Sem (List Value)).run P w = _
    rw [Sem.run_bind,h3]
    rfl
   ·cases hr
  | cell x ty =>
   simp only [zd8] at hr
   split at hr
   ·rename_i c i l hc hi hl
    split at hr
    ·rename_i s hs
     injection hr with hr
     subst hr
     obtain ⟨vs,h1,h3⟩:=ih hl
     have hx:=z1y h (.tmp x)
     rw [hc] at hx
     obtain ⟨v,g1,g2⟩:=zao hT h hi hs hx
     have g1:=g1 w (Ext.refl w)
     have hx2:a.eval (.tmp x) = a.tmps.getD x undef:=rfl
     rw [hx2] at g1
     refine ⟨v :: vs,⟨g2,h1⟩, ?_⟩
     have h0:(rvF a.tmps (.cell x ty)).run P w = .ok v w:=by
      have ha:∃ ad,a.tmps.getD x undef = .pointer (some ad):=by
       obtain ⟨cs,hl',_⟩:∃ cs,zq7 σ c i.zero.length = some cs∧True:=by
        unfold zq6 at hs
        split at hs
        ·rename_i cs hcs; exact ⟨cs,hcs,trivial⟩
        ·cases hs
       obtain ⟨ad,vs',f,e,_⟩:=zcx h hl' (show z1v σ E w c (a.tmps.getD x undef) from hx)
       exact ⟨_,e⟩
      obtain ⟨ad,ha⟩:=ha
      show ((do loadVar ty (← asAddr (a.tmps.getD x undef)):Sem Value)).run P w = _
      rw [ha] at g1 ⊢
      exact g1
     rw [List.mapM_cons,Sem.run_bind,h0]
     show ((do let bs ← rv.mapM (rvF a.tmps); pure (v :: bs)):Sem (List Value)).run P w = _
     rw [Sem.run_bind,h3]
     rfl
    ·cases hr
   ·cases hr
theorem z8y {fn:Func} {vs:List Value} (h:(fn.results.toList.mapM (rvF a.tmps)).run P w = .ok vs w):∃ v,(results fn a.tmps).run P w = .ok v w∧RetV vs v:=by
 have h2:(fn.results.mapM (rvF a.tmps)).run P w = .ok vs.toArray w:=by
  rw [show fn.results = fn.results.toList.toArray from by simp,List.mapM_toArray]
  simp [h]
 rw [zvc,Sem.run_bind,h2]
 match vs with
 | []=>exact ⟨.tuple #[],by simp,rfl⟩
 | [u]=>exact ⟨u,by simp,rfl⟩
 | u :: u' :: vs=>exact ⟨.tuple (u :: u' :: vs).toArray,by simp,rfl⟩
theorem nilIf_of (h:R w0 lab0 oo n σ E a w) {io:Bool} {t:Ty} {cs:List z1e} {us:List Value} {y:t.den} (hz:io = true→nilC σ.row cs = true) (hp:z78 σ.row t cs = some y) (hc:z1u (z1v σ E w) cs us):NilIf io t us y:=by
 cases t with
 | sl e t =>
  intro hio hl
  have hz:=hz hio
  rcases zc3 (show za5 σ.row e t cs = some y from hp) with ⟨rfl,rfl⟩ | ⟨r,row,rfl,hr,rfl,hd,rfl,rfl⟩
  ·obtain ⟨u,rfl,hu⟩:=z1z hc
   obtain rfl:u = _:=hu
   rfl
  ·obtain ⟨u,rfl,hu⟩:=z1z hc
   obtain ⟨rfl,_⟩:=hu
   obtain ⟨css,_,_,_,h4⟩:=h.rows r row hr
   have hl:row.xs.length = 0:=hl
   simp only [nilC,hr,hl] at hz
   rw [h4 (by simpa using hz) hl]
 | int k=>trivial
 | bool=>trivial
 | str=>trivial
 | err=>trivial
 | fnc g=>trivial
 | pair a b=>trivial
theorem z8z (h:R w0 lab0 oo n σ E a w):∀ {rs:List PT} {ss:List SV} {vs:List Value} {Y:Dat rs},zeb σ.row rs ss = some Y→zxt σ.row rs ss→z1u (z47 σ E w) ss vs→(z15 (z5r rs ss)).Nodup →
  ∃ Lr,zsq w rs vs Y Lr∧Lr.Nodup∧∀ k ∈ Lr,∃ q ∈ z15 (z5r rs ss),z7a E.lab q k
 | [],[],[],Y,_,_,_,_=>⟨[],rfl,List.nodup_nil,fun k hk=>by cases hk⟩
 | p :: ps,s :: ss,v :: vs,Y,hp,hz,hs,hn=>by
  simp only [zeb] at hp
  split at hp
  ·rename_i cs hcs
   obtain ⟨h1,h2⟩:=z2y hp
   obtain ⟨us,k1,k2⟩:=z5t hcs hs.1
   have hcells:z5r (p :: ps) (s :: ss) = cs ++ z5r ps ss:=by simp [z5r,hcs]
   rw [hcells,z3r] at hn ⊢
   obtain ⟨n1,n2,n3⟩:=List.nodup_append.1 hn
   obtain ⟨L1,o1,o2,o3⟩:=z48 h h1 k2 n1
   obtain ⟨L2,g1,g2,g3⟩:=z8z h h2 hz.2 hs.2 n2
   refine ⟨L1 ++ L2,⟨us,L1,L2,rfl,k1,o1,nilIf_of h (fun hio=>hz.1 hio cs hcs) h1 k2,g1⟩,List.nodup_append.2 ⟨o2,g2,fun x hx y hy e=>?_⟩,fun k hk=>?_⟩
   ·subst e
    obtain ⟨q,q1,q2⟩:=o3 x hx
    obtain ⟨q',q1',q2'⟩:=g3 x hy
    exact n3 q q1 q' q1' (z6c q2 q2')
   ·rcases List.mem_append.1 hk with hk | hk
    ·obtain ⟨q,q1,q2⟩:=o3 k hk
     exact ⟨q,List.mem_append_left _ q1,q2⟩
    ·obtain ⟨q,q1,q2⟩:=g3 k hk
     exact ⟨q,List.mem_append_right _ q1,q2⟩
  ·cases hp
 | [],[],_ :: _,_,_,_,hs,_=>hs.elim
 | [],_ :: _,_,_,hp,_,_,_=>by cases hp
 | _ :: _,[],_,_,hp,_,_,_=>by cases hp
 | _ :: _,_ :: _,[],_,_,_,hs,_=>hs.elim
theorem zh5 (h:R w0 lab0 oo n σ E a w):∀ {ps:List PT} {i:Nat} {vs:List Value} {y:IoT ps},zyc σ ps i = some y→vs.length = ps.length→(∀ j v,vs[j]? = some v→oo (100000 + (i + j)) = v)→(z15 (zh6 σ ps i)).Nodup →
  ∃ L',zar w L' ps vs y∧L'.Nodup∧∀ k ∈ L',∃ q ∈ z15 (zh6 σ ps i),z7a E.lab q k
 | [],i,vs,y,_,_,_,_=>⟨[],rfl,List.nodup_nil,fun k hk=>by cases hk⟩
 | ⟨t,agg,false⟩ :: ps,i,v :: vs,y,hr,hl,hv,hn=>by
  obtain ⟨L',g1,g2,g3⟩:=zh5 h (ps:=ps) (i:=i + 1) (vs:=vs) (y:=y) hr (by simpa using hl) (fun j v' hj=>by
   have:=hv (j + 1) v' (by simpa using hj)
   rwa [show i + 1 + j = i + (j + 1) from by omega]) hn
  exact ⟨L',g1,g2,g3⟩
 | ⟨t,agg,true⟩ :: ps,i,v :: vs,y,hr,hl,hv,hn=>by
  simp only [zyc] at hr
  simp only [zh6] at hn ⊢
  split at hr
  ·rename_i cs hcs
   rw [hcs] at hn
   simp only at hn ⊢
   have hs:=h.slots (100000 + i)
   have hval:z74 oo a (100000 + i) = v:=by
    unfold z74
    rw [if_neg (by omega)]
    exact hv 0 v rfl
   rw [hval] at hs
   obtain ⟨us,k1,k2⟩:=z5t hcs hs
   obtain ⟨L,o1,o2,o3⟩:=z48 h hr k2 hn
   exact ⟨L,⟨us,k1,o1⟩,o2,o3⟩
  ·cases hr
 | _ :: _,_,[],_,_,hl,_,_=>by simp at hl
theorem z63.len {L:List Nat}:∀ {ps:List PT} {vs:List Value} {X:Dat ps},z63 w L ps vs X→vs.length = ps.length
 | [],[],_,_=>rfl
 | p :: ps,v :: vs,X,h=>by simp [z63.len h.2]
 | [],_ :: _,_,h=>h.elim
 | _ :: _,[],_,h=>h.elim
def Ty.bd:(t:Ty)→t.den→Prop
 | .sl _ t,xs=>xs.length≤maxLen∧∀ x ∈ xs,t.bd x
 | .pair a b,x=>a.bd x.1∧b.bd x.2
 | .int _,_=>True
 | .bool,_=>True
 | .str,_=>True
 | .err,_=>True
 | .fnc _,_=>True
theorem zuu {α β:Type} {Q:α→β→Prop} {p:β→Prop} (hp:∀ a b,Q a b→p b):∀ {as:List α} {bs:List β},z1u Q as bs→∀ b ∈ bs,p b
 | [],[],_,_,hb=>by cases hb
 | _ :: _,_ :: _,h,b,hb=>by
  rcases List.mem_cons.1 hb with rfl | hb
  ·exact hp _ _ h.1
  ·exact zuu hp h.2 b hb
 | [],_ :: _,h,_,_=>h.elim
 | _ :: _,[],h,_,_=>h.elim
theorem Rd.bd {S:Nat→Prop}:∀ {t:Ty} {cs:List Value} {x:t.den},Rd w S t cs x→t.bd x
 | .int _,_,_,_=>trivial
 | .bool,_,_,_=>trivial
 | .str,_,_,_=>trivial
 | .err,_,_,_=>trivial
 | .fnc _,_,_,_=>trivial
 | .pair a b,_,_,h=>by
  obtain ⟨c1,c2,_,h1,h2⟩:=h
  exact ⟨h1.bd,h2.bd⟩
 | .sl e t,_,xs,h=>by
  obtain ⟨A,n,c,_,h1,h2,h3,h4⟩:=h
  refine ⟨by omega,fun x hx=>?_⟩
  rcases h4 with rfl | ⟨ad,css,_,_,h5,_⟩
  ·rw [List.eq_nil_of_length_eq_zero h1] at hx
   cases hx
  ·exact zuu (p:=fun x=>t.bd x) (fun _ _ hr=>hr.bd) h5 x hx
theorem Own.bd:∀ {t:Ty} {L:List Nat} {cs:List Value} {x:t.den},Own w t L cs x→t.bd x:=fun h=>(h.rd (S:=fun _=>True) fun _ _=>trivial).bd
def DatB:(ps:List PT)→Dat ps→Prop
 | [],_=>True
 | p :: ps,X=>p.t.bd X.1∧DatB ps X.2
theorem z63.bd {L:List Nat}:∀ {ps:List PT} {vs:List Value} {X:Dat ps},z63 w L ps vs X→DatB ps X
 | [],[],_,_=>trivial
 | p :: ps,v :: vs,X,h=>by
  refine ⟨?_,h.2.bd⟩
  obtain ⟨cs,_,h1⟩:=h.1
  cases hio:p.io
  ·rw [hio] at h1; exact Rd.bd h1
  ·rw [hio] at h1; exact Own.bd h1
 | [],_ :: _,_,h=>h.elim
 | _ :: _,[],_,h=>h.elim
theorem z0k [Inv P] {f : Nat} {fn : Func} {c : Code} {sig : Sig} {pre : Option (Dat sig.ps → Bool)} {val : Dat sig.ps → IoT sig.ps × Dat sig.rs} {pl : z0p} {je : Option z09} (hf : P.funcs[f]? = some fn) (hb : fn.body = some c) (hname : (fn.name == "runtime.NumGoroutine") = false)
  (hm:P.follows .mixedOrders = true) (hT:TOk P T) (hΓ:GOk P Γ) (hc:z8q fn.ntmps c = true) (hn:Nat.ble sig.ps.length fn.ntmps = true) (hn2:Nat.ble fn.ntmps 100000 = true) (hone:z80 sig.ps = true)
  (hG:∀ X,DatB sig.ps X→z64 pre X = true→∃ N,z1t Γ T B N c pl (z2j sig.ps X) (z00 je (z3o T sig fn.results.toList)) = some (val X)):z0r P f ⟨sig,pre,val⟩:=by
 intro w args L X y Y ha hno hL hlt hg hI hBL
 have hg:cond (z64 pre X) (some (val X)) none = some (y,Y):=hg
 obtain ⟨N,hr⟩:∃ N,z1t Γ T B N c pl (z2j sig.ps X) (z00 je (z3o T sig fn.results.toList)) = some (y,Y):=by
  cases hp:z64 pre X
  ·rw [hp] at hg; cases hg
  ·rw [hp] at hg
   rw [← hg]
   exact hG X ha.bd hp
 have hn:=Nat.le_of_ble_eq_true hn
 have hn2:=Nat.le_of_ble_eq_true hn2
 have hlen:args.size = sig.ps.length:=by
  have:=z63.len ha
  simpa using this
 refine .inl ⟨?_, ?_⟩
 ·have h1 : ¬ fn.name = "runtime.NumGoroutine" := by simpa using hname
  have h2:¬ fn.body = none:=by rw [hb]; simp
  simp [callFunc,hf,h1,h2]
 obtain ⟨f0,rvf,k1,k2⟩:=start_ok (i:=0) ha hno hone hL
 classical
 let lab0:Nat→Lab:=fun k=>if k ∈ L then f0 k else .st
 let E:Env:=⟨lab0,rvf,fun _=>0⟩
 let oo:Nat→Value:=fun t=>args.getD (t - 100000) undef
 have hlab1:∀ k,k ∈ L→E.lab k = f0 k:=fun k hk=>if_pos hk
 have hlab2:∀ k,k ∉ L→E.lab k = .st:=fun k hk=>if_neg hk
 obtain ⟨g1,g2⟩:=k2 (z2j sig.ps X) E hlab1 hlab2 rfl (fun r row h=>h)
 have hsz:(args ++ Array.replicate (fn.ntmps - args.size) undef).size = fn.ntmps:=by
  rw [Array.size_append,Array.size_replicate]
  omega
 have hR:R w lab0 oo fn.ntmps (z2j sig.ps X) E { tmps:=args ++ Array.replicate (fn.ntmps - args.size) undef,defers:=[] } w:=by
  refine ⟨hn2,hsz,rfl,fun t=>?_,fun b te cs hb=>?_,fun r row hr=>g2 r row hr,⟨rfl,rfl,rfl,Nat.le_refl _,fun k hk hl=>⟨hl,rfl⟩⟩⟩
  ·show z47 _ E w (z7l (zcc sig.ps X 0).1 t) _
   refine zjo fun p hp e=>?_
   obtain ⟨j,v,j1,j2,j3⟩:=g1 p hp
   have hj:j < args.size:=by
    have:=(List.getElem?_eq_some_iff.1 j1).1
    simpa using this
   have hval:z74 oo { tmps:=args ++ Array.replicate (fn.ntmps - args.size) undef,defers:=[] } t = v:=by
    subst e
    unfold z74
    rcases j2 with j2 | j2
    ·rw [if_pos (by omega),j2]
     simp only [Nat.zero_add,Array.getD_eq_getD_getElem?]
     rw [Array.getElem?_append_left hj]
     have:args[j]? = some v:=by simpa using j1
     rw [this]; rfl
    ·rw [if_neg (by omega),j2]
     show args.getD (100000 + (0 + j) - 100000) undef = v
     rw [show 100000 + (0 + j) - 100000 = j from by omega,Array.getD_eq_getD_getElem?]
     have:args[j]? = some v:=by simpa using j1
     rw [this]; rfl
   rw [hval]
   exact j3
  ·cases hb
 have hend:∀ σ' E' a' w',ztn T sig fn.results.toList σ' = some (y,Y)→R w lab0 oo fn.ntmps σ' E' a' w'→a'.defers = []∧∃ v,(results fn a'.tmps).run P w' = .ok v w' ∧
   ∃ vs L' Lr,Ending.returned v = Ending.returned v∧After w sig args.toList L y Y v w' vs L' Lr:=by
  intro σ' E' a' w' hfin h'
  refine ⟨h'.defers, ?_⟩
  unfold ztn at hfin
  split at hfin
  ·rename_i ss hss
   cases hq:z4m (z15 (z5r sig.rs ss ++ zh6 σ' sig.ps 0))
   ·rw [hq] at hfin; cases hfin
   rw [hq] at hfin
   obtain ⟨hz,hfin⟩:=za9 (show zwv σ'.row sig.rs ss _ = some (y,Y) from hfin)
   obtain ⟨p1,p2⟩:=z2y (z:=(y,Y)) hfin
   have hnd:=z3k hq
   rw [z3r] at hnd
   obtain ⟨n1,n2,n3⟩:=List.nodup_append.1 hnd
   obtain ⟨vs,v1,v2⟩:=zd7 hT h' hss
   obtain ⟨v,r1,r2⟩:=z8y v2
   obtain ⟨Lr,l1,l2,l3⟩:=z8z h' p2 hz v1 n1
   obtain ⟨L',m1,m2,m3⟩:=zh5 h' (vs:=args.toList) p1 (z63.len ha) (fun j u hu=>by
    show args.getD (100000 + (0 + j) - 100000) undef = u
    rw [show 100000 + (0 + j) - 100000 = j from by omega,Array.getD_eq_getD_getElem?]
    have:args[j]? = some u:=by simpa using hu
    rw [this]; rfl) n2
   have hold:∀ k q,z7a E'.lab q k→k ∈ L∨w.heap.size≤k:=by
    intro k q hk
    by_cases h1:k ∈ L
    ·exact .inl h1
    ·refine .inr (Nat.le_of_not_lt fun hlt=>?_)
     have:=(h'.same.old k hlt (hlab2 k h1)).1
     rcases hk with hk | hk <;> rw [this] at hk <;> cases hk
   refine ⟨v,r1,vs,L',Lr,rfl,r2,l1,m1,List.nodup_append.2 ⟨l2,m2,fun x hx z hz e=>?_⟩,fun k hk=>?_,fun k hk=>?_,h'.same.os,h'.same.tape,h'.same.output,h'.same.size,fun k hk hkL=>(h'.same.old k hk (hlab2 k hkL)).2⟩
   ·subst e
    obtain ⟨q,q1,q2⟩:=l3 x hx
    obtain ⟨q',q1',q2'⟩:=m3 x hz
    exact n3 q q1 q' q1' (z6c q2 q2')
   ·obtain ⟨q,q1,q2⟩:=l3 k hk
    exact hold k q q2
   ·obtain ⟨q,q1,q2⟩:=m3 k hk
    exact hold k q q2
  ·cases hfin
 refine calls_of_wp hf hb (z3w hT (hΓ.at hI fun k hk=>hlab2 k fun hl=>hBL k hl hk) hm c pl hc hR hr ?_ (zg6.join ?_ _))
 ·intro ch a a' w' hq
  obtain ⟨_,v,vs,L',Lr,he,_⟩:=hq
  cases he
 ·intro e σ' E' a' w' hr' h'
  cases e with
  | nrm =>
   obtain ⟨d1,v,d2,vs,L',Lr,d3,d4⟩:=hend σ' E' a' w' hr' h'
   exact ⟨d1,v,d2,v,vs,L',Lr,rfl,d4⟩
  | ret =>
   obtain ⟨d1,v,d2,vs,L',Lr,d3,d4⟩:=hend σ' E' a' w' hr' h'
   exact ⟨d1,v,d2,v,vs,L',Lr,rfl,d4⟩
  | exit i=>cases hr'
end
def z4i:(ps:List PT)→Dat ps→Nat→Nat→List (Nat × SV) × List (Nat × Row)
 | [],_,_,_=>([],[])
 | ⟨t,agg,false⟩ :: ps,X,i,j=>((i,mkSV agg (z57 t X.1 none)) :: (z4i ps X.2 (i + 1) j).1,(z4i ps X.2 (i + 1) j).2)
 | ⟨t,agg,true⟩ :: ps,X,i,j=>match z23 100000 t X.1 j with
  | (cs,rows,j1)=>((i,mkSV agg cs) :: (z4i ps X.2 (i + 1) j1).1,rows ++ (z4i ps X.2 (i + 1) j1).2)
def rfEnd (σ:St):Rf→Option (List z1e)
 | none=>some []
 | some p=>match σ.box 100000 with
  | some (te,cs)=>cond (Nat.beq te p.1) (some cs) none
  | none=>none
def zjt (σ:St):Rf→Bool
 | none=>true
 | some _=>match σ.slot 100000 with
  | .c (.box 100000 0)=>true
  | _=>false
def zlw (T:Tab) (rf:Rf) (rs:List PT) (rv:List ResultVar) (σ:St):Option (RfD rf × Dat rs) :=
 match zd8 T σ rv,rfEnd σ rf with
 | some ss,some cs=>cond (zjt σ rf && z4m (z15 (z5r rs ss ++ cs))) (zwv σ.row rs ss (z9x (rfPack σ.row rf cs) (zeb σ.row rs ss))) none
 | _,_=>none
section
variable {P:Program} {σ σ':St} {E E':Env} {w w':World} {w0:World} {lab0:Nat→Lab} {oo:Nat→Value} {n:Nat} {a:Act} {T:Tab} {Γ:Gm} {B:Nat→Option z09} {N:Nat}
theorem z8s.len {S:Nat→Prop}:∀ {ps:List PT} {vs:List Value} {X:Dat ps} {L:List Nat},z8s w S ps vs X L→vs.length = ps.length
 | [],[],_,_,_=>rfl
 | p :: ps,v :: vs,X,L,h=>by
  obtain ⟨_,_,_,_,_,_,h⟩:=h
  simp [z8s.len h]
 | [],_ :: _,_,_,h=>h.elim
 | _ :: _,[],_,_,h=>h.elim
theorem z8s.bd {S:Nat→Prop}:∀ {ps:List PT} {vs:List Value} {X:Dat ps} {L:List Nat},z8s w S ps vs X L→DatB ps X
 | [],[],_,_,_=>trivial
 | p :: ps,v :: vs,X,L,h=>by
  obtain ⟨cs,L1,L2,_,_,h1,h2⟩:=h
  refine ⟨?_,h2.bd⟩
  cases hio:p.io
  ·rw [hio] at h1; exact Rd.bd h1.2
  ·rw [hio] at h1; exact Own.bd h1
 | [],_ :: _,_,_,h=>h.elim
 | _ :: _,[],_,_,h=>h.elim
theorem zcb {ps:List PT}:∀ {X:Dat ps} {i j:Nat},∀ p ∈ (z4i ps X i j).2,∃ q,j≤q∧p.1 = z1a 100000 q:=by
 induction ps with
 | nil=>intro X i j p hp; simp [z4i] at hp
 | cons p0 ps ih =>
  intro X i j p hp
  obtain ⟨t,agg,io⟩:=p0
  cases io
  ·exact ih (X:=X.2) p hp
  ·simp only [z4i,List.mem_append] at hp
   rcases hp with hp | hp
   ·obtain ⟨q,q1,_,q2⟩:=(z3s 100000).2 p hp
    exact ⟨q,q1,q2⟩
   ·obtain ⟨q,q1,q2⟩:=ih (X:=X.2) p hp
    exact ⟨q,Nat.le_trans (z3s 100000).1 q1,q2⟩
theorem ztb {l1 l2:List (Nat × Row)} {j1:Nat} (h1:∀ p ∈ l1,z1n l1 p.1 = some p.2) (h2:∀ p ∈ l2,z1n l2 p.1 = some p.2) (m1:∀ p ∈ l1,∃ q,q < j1∧p.1 = z1a 100000 q) (m2:∀ p ∈ l2,∃ q,j1≤q∧p.1 = z1a 100000 q):∀ p ∈ l1 ++ l2,z1n (l1 ++ l2) p.1 = some p.2:=by
 intro p hp
 rw [zaa]
 rcases List.mem_append.1 hp with hp | hp
 ·rw [h1 p hp]
 ·cases hl:z1n l1 p.1 with
  | none=>exact h2 p hp
  | some v =>
   obtain ⟨q,q1,q2⟩:=m1 _ (z3f hl)
   obtain ⟨q',q3,q4⟩:=m2 p hp
   have:=z5u (q2.symm.trans q4)
   omega
theorem zln {t:Ty} {y:t.den} {j:Nat}:∀ p ∈ (z23 100000 t y j).2.1,∃ q,q < (z23 100000 t y j).2.2∧p.1 = z1a 100000 q:=fun p hp=>by
 obtain ⟨q,_,q1,q2⟩:=(z3s 100000).2 p hp
 exact ⟨q,q1,q2⟩
theorem zej {ps:List PT}:∀ {X:Dat ps} {i j:Nat},∀ p ∈ (z4i ps X i j).2,z1n (z4i ps X i j).2 p.1 = some p.2:=by
 induction ps with
 | nil=>intro X i j p hp; simp [z4i] at hp
 | cons p0 ps ih =>
  intro X i j
  obtain ⟨t,agg,io⟩:=p0
  cases io
  ·exact ih (X:=X.2)
  ·exact ztb (zeh 100000 t X.1 j) (ih (X:=X.2)) zln zcb
theorem zd5 {S:Nat→Prop}:∀ {ps:List PT} {vs:List Value} {X:Dat ps} {L:List Nat} {i j:Nat},z8s w S ps vs X L→L.Nodup →
  ∃ (f:Nat→Lab) (rvf:Nat→Value),(∀ k ∈ L,∃ q,f k = .row (z1a 100000 q)∨f k = .inn (z1a 100000 q)) ∧
   ∀ (σ:St) (E:Env),(∀ k ∈ L,E.lab k = f k)→(∀ k,S k→E.lab k = .st)→(∀ p ∈ (z4i ps X i j).2,E.rv p.1 = rvf p.1)→(∀ p ∈ (z4i ps X i j).2,σ.row p.1 = some p.2) →
    (∀ p ∈ (z4i ps X i j).1,∃ m v,vs[m]? = some v∧p.1 = i + m∧z47 σ E w p.2 v)∧∀ p ∈ (z4i ps X i j).2,z2w w E.lab p.1 p.2 (E.rv p.1):=by
 intro ps
 induction ps with
 | nil =>
  intro vs X L i j ha hn
  cases vs with
  | cons _ _=>exact ha.elim
  | nil =>
   obtain rfl:L = []:=ha
   exact ⟨fun _=>.st,fun _=>undef,(fun k hk=>by cases hk),fun σ E _ _ _ _=>⟨fun p hp=>by simp [z4i] at hp,fun p hp=>by simp [z4i] at hp⟩⟩
 | cons p0 ps ih =>
  intro vs X L i j ha hn
  cases vs with
  | nil=>exact ha.elim
  | cons v vs =>
   obtain ⟨cs,L1,L2,rfl,hcv,h1,h2⟩:=ha
   obtain ⟨n1,n2,n3⟩:=List.nodup_append.1 hn
   obtain ⟨t,agg,io⟩:=p0
   cases io
   ·obtain ⟨rfl,hrd⟩:=h1
    obtain ⟨f,rvf,k1,k2⟩:=ih (i:=i + 1) (j:=j) h2 n2
    refine ⟨f,rvf,k1,fun σ E e1 e2 e3 e4=>?_⟩
    obtain ⟨g1,g2⟩:=k2 σ E e1 e2 e3 e4
    refine ⟨fun p hp=>?_,g2⟩
    rcases List.mem_cons.1 hp with rfl | hp
    ·exact ⟨0,v,rfl,rfl,zdf hcv (z6l (p:=none) (hrd.mono fun k hk=>e2 k hk))⟩
    ·obtain ⟨m,v',q1,q2,q3⟩:=g1 p hp
     exact ⟨m + 1,v',by simpa using q1,by omega,q3⟩
   ·have hown:Own w t L1 cs X.1:=h1
    obtain ⟨f1,v1,a1,b1⟩:=z7p 100000 (j:=j) hown n1
    obtain ⟨f2,v2,a2,b2⟩:=ih (i:=i + 1) (j:=(z23 100000 t X.1 j).2.2) h2 n2
    have m1:∀ p ∈ (z23 100000 t X.1 j).2.1,∃ q,q < (z23 100000 t X.1 j).2.2∧p.1 = z1a 100000 q:=zln
    have m2:∀ p ∈ (z4i ps X.2 (i + 1) (z23 100000 t X.1 j).2.2).2,∃ q,(z23 100000 t X.1 j).2.2≤q∧p.1 = z1a 100000 q:=zcb
    refine ⟨fun k=>if k ∈ L1 then f1 k else f2 k,fun q=>if ∃ p ∈ (z23 100000 t X.1 j).2.1,p.1 = q then v1 q else v2 q,fun k hk=>?_,fun σ E e1 e2 e3 e4=>?_⟩
    ·by_cases hk1:k ∈ L1
     ·obtain ⟨q,_,_,hq⟩:=a1 k hk1
      exact ⟨q,by simpa [hk1] using hq⟩
     ·obtain ⟨q,hq⟩:=a2 k ((List.mem_append.1 hk).resolve_left hk1)
      exact ⟨q,by simpa [hk1] using hq⟩
    ·have hm:(z4i (⟨t,agg,true⟩ :: ps) X i j) = ((i,mkSV agg (z23 100000 t X.1 j).1) :: (z4i ps X.2 (i + 1) (z23 100000 t X.1 j).2.2).1,(z23 100000 t X.1 j).2.1 ++ (z4i ps X.2 (i + 1) (z23 100000 t X.1 j).2.2).2):=rfl
     rw [hm] at e3 e4 ⊢
     obtain ⟨g1,g2⟩:=b1 σ E (fun k hk=>(e1 k (List.mem_append_left _ hk)).trans (if_pos hk)) (fun p hp=>(e3 p (List.mem_append_left _ hp)).trans (if_pos ⟨p,hp,rfl⟩)) (fun p hp=>e4 p (List.mem_append_left _ hp))
     obtain ⟨g3,g4⟩:=b2 σ E (fun k hk=>(e1 k (List.mem_append_right _ hk)).trans (if_neg fun h'=>n3 k h' k hk rfl)) e2 (fun p hp=>(e3 p (List.mem_append_right _ hp)).trans (if_neg fun ⟨p',hp',e⟩=>by
      obtain ⟨q,q1,q2⟩:=m1 p' hp'
      obtain ⟨q',q3,q4⟩:=m2 p hp
      have:=z5u (q2.symm.trans (e.trans q4))
      omega)) (fun p hp=>e4 p (List.mem_append_right _ hp))
     refine ⟨fun p hp=>?_,fun p hp=>?_⟩
     ·rcases List.mem_cons.1 hp with rfl | hp
      ·exact ⟨0,v,rfl,rfl,zdf hcv g1⟩
      ·obtain ⟨m,v',q1,q2,q3⟩:=g3 p hp
       exact ⟨m + 1,v',by simpa using q1,by omega,q3⟩
     ·rcases List.mem_append.1 hp with hp | hp
      ·exact g2 p hp
      ·exact g4 p hp
theorem zae {args:Array Value} {m:Nat} {v:Value} (h:args.toList[m]? = some v):args.getD m undef = v:=by
 rw [Array.getD_eq_getD_getElem?]
 have:args[m]? = some v:=by simpa using h
 rw [this]; rfl
end
def z24:Gm:=⟨fun _=>none,fun _=>none,fun _=>none,fun _=>none⟩
theorem GOk.nil {P:Program} [Inv P]:GOk P z24:=⟨fun f en h=>(by cases h),fun f en h=>(by cases h),fun f en h=>(by cases h),fun f en h=>(by cases h)⟩
def z4p (Γ:Gm) (f:Nat) (en:z2v):Gm:=⟨fun k=>cond (Nat.beq k f) (some en) (Γ.g k),Γ.m,Γ.v,Γ.n⟩
def addM (Γ:Gm) (f:Nat) (en:zat):Gm:=⟨Γ.g,fun k=>cond (Nat.beq k f) (some en) (Γ.m k),Γ.v,Γ.n⟩
def addV (Γ:Gm) (f:Nat) (en:z5q):Gm:=⟨Γ.g,Γ.m,fun k=>cond (Nat.beq k f) (some en) (Γ.v k),Γ.n⟩
def addN (Γ:Gm) (f:Nat) (en:zas):Gm:=⟨Γ.g,Γ.m,Γ.v,fun k=>cond (Nat.beq k f) (some en) (Γ.n k)⟩
def flatB (rs:List PT):Bool:=rs.all fun p=>p.agg || Nat.beq p.t.nc 1
theorem zek {rs:List PT} (hf:flatB rs = true):∀ p ∈ rs,p.agg = false→p.t.nc = 1:=fun p hp ha=>by
 have:=List.all_eq_true.1 hf p hp
 rw [ha] at this
 exact Nat.eq_of_beq_eq_true (by simpa using this)
theorem GOk.add {P:Program} [Inv P] {Γ:Gm} (h:GOk P Γ) {f:Nat} {en:z2v} (he:z0r P f en) (hf:flatB en.sig.rs = true):GOk P (z4p Γ f en):=by
 refine ⟨fun k en' hk=>?_,h.m,h.v,h.n⟩
 simp only [z4p] at hk
 cases hb:Nat.beq k f
 ·rw [hb] at hk; exact h.g k en' hk
 ·rw [hb] at hk
  injection hk with hk
  subst hk
  obtain rfl:=Nat.eq_of_beq_eq_true hb
  exact ⟨he,zek hf⟩
theorem GOk.addM {P:Program} [Inv P] {Γ:Gm} (h:GOk P Γ) {f:Nat} {en:zat} (he:z56 P f en) (hf:flatB en.rs = true):GOk P (addM Γ f en):=by
 refine ⟨h.g,fun k en' hk=>?_,h.v,h.n⟩
 simp only [Fw.addM] at hk
 cases hb:Nat.beq k f
 ·rw [hb] at hk; exact h.m k en' hk
 ·rw [hb] at hk
  injection hk with hk
  subst hk
  obtain rfl:=Nat.eq_of_beq_eq_true hb
  exact ⟨he,zek hf⟩
theorem GOk.addV {P:Program} [Inv P] {Γ:Gm} (h:GOk P Γ) {f:Nat} {en:z5q} (he:z2u P f en) (hf:flatB en.rs = true):GOk P (addV Γ f en):=by
 refine ⟨h.g,h.m,fun k en' hk=>?_,h.n⟩
 simp only [Fw.addV] at hk
 cases hb:Nat.beq k f
 ·rw [hb] at hk; exact h.v k en' hk
 ·rw [hb] at hk
  injection hk with hk
  subst hk
  obtain rfl:=Nat.eq_of_beq_eq_true hb
  exact ⟨he,zek hf⟩
theorem GOk.addN {P:Program} [Inv P] {Γ:Gm} (h:GOk P Γ) {f:Nat} {en:zas} (he:z9k P f en):GOk P (addN Γ f en):=by
 refine ⟨h.g,h.m,h.v,fun k en' hk=>?_⟩
 simp only [Fw.addN] at hk
 cases hb:Nat.beq k f
 ·rw [hb] at hk; exact h.n k en' hk
 ·rw [hb] at hk
  injection hk with hk
  subst hk
  obtain rfl:=Nat.eq_of_beq_eq_true hb
  exact he
def zkt:Code→List Nat→Code
 | c,[]=>c
 | .seq a _,0 :: p=>zkt a p
 | .seq _ b,_ :: p=>zkt b p
 | .cond _ a _,0 :: p=>zkt a p
 | .cond _ _ b,_ :: p=>zkt b p
 | .block _ c,_ :: p=>zkt c p
 | .loop c,_ :: p=>zkt c p
 | c,_=>c
def z25 (f:Func):Code:=match f.body with | some c=>c | none=>.skip
def w64 (n:Int):Int:=IntKind.i64.wrap n
def w8 (n:Int):Int:=IntKind.u8.wrap n
def inB (n:Int) (m:Nat):Bool:=decide (0≤n) && decide (n < (m:Int))
end Go.Fw
namespace Go.Fw
open Go.RowKit
def zvn:(l:List (Nat × Ty))→List Value→FxD l→List z1e
 | [],_,_=>[]
 | p :: l,v :: vs,x=>.bor v p.1 p.2 x.1 :: zvn l vs x.2
 | _ :: _,[],_=>[]
def ioIx:List PT→Nat→List Nat
 | [],_=>[]
 | p :: ps,i=>cond p.io (i :: ioIx ps (i + 1)) (ioIx ps (i + 1))
def pinSl (l:List (Nat × SV)):List Nat→List (Nat × SV)
 | []=>[]
 | i :: is=>(100000 + i,z7l l i) :: pinSl l is
def ztd (ps:List PT) (X:Dat ps):List (Nat × SV):=(0,.c (.box 100000 0)) :: (100000,.c (.box 100000 0)) :: ((z4i ps X 1 0).1 ++ pinSl (z4i ps X 1 0).1 (ioIx ps 1))
def z3v (k:zey) (ps:List PT) (lit:List Value) (X:(FxD k.fx × k.t.den) × Dat ps):St :=
 z1k (ztd ps X.2) [(100000,(k.te,zvn k.fx lit X.1.1 ++ z57 k.t X.1.2 none))] (z4i ps X.2 1 0).2
def zy4:List z1e→Option (List Value)
 | []=>some []
 | .bor v _ _ _ :: cs=>match zy4 cs with
  | some l=>some (v :: l)
  | none=>none
 | _=>none
def y6l (σ:St):(back:Bool)→(ps:List PT)→Option (zjg back ps)
 | true,ps=>zyc σ ps 1
 | false,_=>some ()
def y6m (σ:St):Bool→List PT→List z1e
 | true,ps=>zh6 σ ps 1
 | false,_=>[]
def zlu (T:Tab) (k:zey) (ps:List PT) (back:Bool) (rs:List PT) (rv:List ResultVar) (σ:St):Option (List Value × (k.t.den × (zjg back ps × Dat rs))) :=
 match zd8 T σ rv,rfEnd σ (some (k.te,k.t)) with
 | some ss,some cs=>cond (zjt σ (some (k.te,k.t)) && (z4m (z15 (z5r rs ss ++ y6m σ back ps)) && (z15 (cs.drop k.fx.length)).isEmpty))
  (zwv σ.row rs ss (z9x (zy4 (cs.take k.fx.length)) (z9x (z78 σ.row k.t (cs.drop k.fx.length)) (z9x (y6l σ back ps) (zeb σ.row rs ss))))) none
 | _,_=>none
def z7q (T:Tab) (k:zey) (ps:List PT) (back:Bool) (rs:List PT) (rv:List ResultVar):Ex→St→Option (List Value × (k.t.den × (zjg back ps × Dat rs)))
 | .nrm,σ=>zlu T k ps back rs rv σ
 | .ret,σ=>zlu T k ps back rs rv σ
 | .exit _,_=>none
def FxB:(l:List (Nat × Ty))→FxD l→Prop
 | [],_=>True
 | p :: l,x=>(Ty.sl p.1 p.2).bd x.1∧FxB l x.2
section
variable {P:Program} {σ σ':St} {E E':Env} {w w':World} {w0:World} {lab0:Nat→Lab} {oo:Nat→Value} {n:Nat} {a:Act} {T:Tab} {Γ:Gm} {B:Nat→Option z09} {N:Nat}
theorem y73.bd {S:Nat→Prop}:∀ {l:List (Nat × Ty)} {vs:List Value} {x:FxD l},y73 w S l vs x→FxB l x
 | [],[],_,_=>trivial
 | p :: l,v :: vs,x,h=>⟨Rd.bd (t:=.sl p.1 p.2) h.1,h.2.bd⟩
 | [],_ :: _,_,h=>h.elim
 | _ :: _,[],_,h=>h.elim
theorem znt:∀ {l:List (Nat × Ty)} {vs:List Value} {x:FxD l},y73 w (fun k=>E.lab k = .st) l vs x→z1u (z1v σ E w) (zvn l vs x) vs
 | [],[],_,_=>trivial
 | p :: l,v :: vs,x,h=>⟨⟨rfl,h.1⟩,znt h.2⟩
 | [],_ :: _,_,h=>h.elim
 | _ :: _,[],_,h=>h.elim
theorem zh3:∀ {cs:List z1e} {l us:List Value},zy4 cs = some l→z1u (z1v σ E w) cs us→us = l
 | [],l,[],h,_=>by
  injection h with h
 | [],l,_ :: _,h,hc=>hc.elim
 | c :: cs,l,[],h,hc=>hc.elim
 | c :: cs,l,u :: us,h,hc=>by
  cases c with
  | bor v e t xs =>
   simp only [zy4] at h
   split at h
   ·rename_i l' hl
    injection h with h
    subst h
    rw [zh3 hl hc.2,show u = v from hc.1.1]
   ·cases h
  | _=>cases h
theorem zne {l:List (Nat × SV)}:∀ {is:List Nat} {p:Nat × SV},p ∈ pinSl l is→∃ i ∈ is,p = (100000 + i,z7l l i)
 | i :: is,p,h=>by
  rcases List.mem_cons.1 h with rfl | h
  ·exact ⟨i,List.mem_cons_self,rfl⟩
  ·obtain ⟨j,h1,h2⟩:=zne h
   exact ⟨j,List.mem_cons_of_mem _ h1,h2⟩
structure StartV (w:World) (k:zey) (ps:List PT) (args:Array Value) (lit:List Value) (X:(FxD k.fx × k.t.den) × Dat ps) (g:Nat) (L:List Nat) (E:Env):Prop where
 out:∀ k,k ∉ g :: L→E.lab k = .st
 slots:∀ t s,z1n (ztd ps X.2) t = some s→z47 (z3v k ps lit X) E w s (if t < 100000 then args.getD t undef else args.getD (t - 100000) undef)
 boxes:∀ b te cs,(z3v k ps lit X).box b = some (te,cs)→zbx (z3v k ps lit X) E w b te cs
 rows:∀ r row,(z3v k ps lit X).row r = some row→z2w w E.lab r row (E.rv r)
theorem zv6 {k:zey} {ps:List PT} {args:Array Value} {lit:List Value} {X:(FxD k.fx × k.t.den) × Dat ps} {g:Nat} {L:List Nat} (ha:ArgsV w (fun k=>k ∉ g :: L) k ps args.toList X lit g L) (hn:(g :: L).Nodup) (hlen:ps.length + 1≤100000) (hsm:Nat.blt k.te z2f = true):∃ E,StartV w k ps args lit X g L E:=by
 classical
 obtain ⟨v0,vs0,hal,⟨hv0,arr,cm,m1,m2,m3,m4,m5⟩,ha⟩:=ha
 obtain ⟨ng,hnL⟩:=List.nodup_cons.1 hn
 obtain ⟨f2,v2,a2,b2⟩:=zd5 (i:=1) (j:=0) ha hnL
 have hl:=ha.len
 let E:Env:=⟨fun k=>if k = g then .box 100000 else if k ∈ L then f2 k else .st,v2,fun _=>g⟩
 have lg:E.lab g = .box 100000:=if_pos rfl
 have l2:∀ k ∈ L,E.lab k = f2 k:=fun k hk=>(if_neg fun (e:k = g)=>ng (by rw [← e]; exact hk)).trans (if_pos hk)
 have lo:∀ k,k ∉ g :: L→E.lab k = .st:=fun k hk=>(if_neg fun e=>hk (by simp [e])).trans (if_neg fun h'=>hk (by simp [h']))
 obtain ⟨g3,g4⟩:=b2 (z3v k ps lit X) E l2 lo (fun q hq=>rfl) (fun q hq=>zej q hq)
 have hbox:(z3v k ps lit X).box 100000 = some (k.te,zvn k.fx lit X.1.1 ++ z57 k.t X.1.2 none):=rfl
 have hflat:z1u (z1v (z3v k ps lit X) E w) (z57 k.t X.1.2 none) cm:=z7n m5
 have hcs:0 < (zvn k.fx lit X.1.1 ++ z57 k.t X.1.2 none).length:=by
  have e1:=hflat.len
  have e2:=m5.len
  have:=k.t.nc_pos
  rw [List.length_append]
  omega
 have h0:args.getD 0 undef = v0:=zae (by rw [hal]; rfl)
 have hptr:z47 (z3v k ps lit X) E w (.c (.box 100000 0)) v0:=⟨hv0,_,_,hbox,hcs⟩
 have hsl:∀ t s,z1n (z4i ps X.2 1 0).1 t = some s→1≤t∧t < 100000∧z47 (z3v k ps lit X) E w s (args.getD t undef):=fun t s hs=>by
  obtain ⟨m,v,q1,q2,q3⟩:=g3 _ (z3f hs)
  have hm':m < vs0.length:=(List.getElem?_eq_some_iff.1 q1).1
  simp only at q2
  refine ⟨by omega,by omega, ?_⟩
  rw [show t = m + 1 by omega,zae (by rw [hal]; simpa using q1)]
  exact q3
 refine ⟨E,⟨lo,fun t s hs=>?_,fun b te cs hb=>?_,fun r row hr=>g4 (r,row) (z3f hr)⟩⟩
 ·unfold ztd at hs
  have hs2:z1n ([(0,.c (.box 100000 0)),(100000,.c (.box 100000 0))] ++ ((z4i ps X.2 1 0).1 ++ pinSl (z4i ps X.2 1 0).1 (ioIx ps 1))) t = some s:=hs
  rw [zaa] at hs2
  split at hs2
  ·rename_i s' hs'
   injection hs2 with hs2
   subst hs2
   rcases List.mem_cons.1 (z3f hs') with e | hm
   ·injection e with e1 e2
    subst e1 e2
    rw [if_pos (by omega),h0]
    exact hptr
   rcases List.mem_cons.1 hm with e | hm
   ·injection e with e1 e2
    subst e1 e2
    rw [if_neg (by omega),Nat.sub_self,h0]
    exact hptr
   ·cases hm
  ·rw [zaa] at hs2
   split at hs2
   ·rename_i s' hs'
    injection hs2 with hs2
    subst hs2
    obtain ⟨q1,q2,q3⟩:=hsl t _ hs'
    rw [if_pos q2]
    exact q3
   ·obtain ⟨i,_,e⟩:=zne (z3f hs2)
    injection e with e1 e2
    subst e1 e2
    rw [if_neg (by omega),show 100000 + i - 100000 = i by omega]
    unfold z7l
    split
    ·rename_i s' hs'
     exact (hsl i _ hs').2.2
    ·show True
     trivial
 ·have hb':z1n [(100000,(k.te,zvn k.fx lit X.1.1 ++ z57 k.t X.1.2 none))] b = some (te,cs):=hb
  have:=z3f hb'
  simp only [List.mem_singleton,Prod.mk.injEq] at this
  obtain ⟨rfl,rfl,rfl⟩:=this
  refine ⟨arr,.inl ⟨by simpa using hsm,m1⟩,lg, ?_,m2⟩
  rw [m3]
  exact z1u.app (znt (m4.mono lo)) hflat
theorem back_end (h:R w0 lab0 oo n σ E a w):∀ {back:Bool} {ps:List PT} {vs:List Value} {y:zjg back ps},y6l σ back ps = some y→vs.length = ps.length→(∀ j v,vs[j]? = some v→oo (100000 + (1 + j)) = v)→(z15 (y6m σ back ps)).Nodup →
  ∃ Lb,zv1 w Lb back ps vs y∧Lb.Nodup∧∀ q ∈ Lb,∃ r ∈ z15 (y6m σ back ps),z7a E.lab r q
 | false,ps,vs,y,_,_,_,_=>⟨[],rfl,List.nodup_nil,fun q hq=>by cases hq⟩
 | true,ps,vs,y,hr,hl,hv,hn=>zh5 h (i:=1) (vs:=vs) hr hl hv hn
theorem z30 [Inv P] {f : Nat} {fn : Func} {c : Code} {k : zey} {ps rs : List PT} {back : Bool} {pre : Option ((FxD k.fx × k.t.den) × Dat ps → Bool)} {val : (FxD k.fx × k.t.den) × Dat ps → k.t.den × (zjg back ps × Dat rs)} {pl : z0p} {je : Option z09} (hf : P.funcs[f]? = some fn) (hb : fn.body = some c) (hname : (fn.name == "runtime.NumGoroutine") = false)
  (hm:P.follows .mixedOrders = true) (hT:TOk P T) (hΓ:GOk P Γ) (hc:z8q fn.ntmps c = true) (hn:Nat.ble (ps.length + 1) fn.ntmps = true) (hn2:Nat.ble fn.ntmps 100000 = true)
  (hG:∀ lit X,lit.length = k.fx.length→FxB k.fx X.1.1→DatB ps X.2→z64 pre X = true→∃ N,z1t Γ T B N c pl (z3v k ps lit X) (z00 je (z7q T k ps back rs fn.results.toList)) = some (lit,val X)) (hsm:Nat.blt k.te z2f = true:=by rfl):z2u P f ⟨k,ps,back,rs,pre,val⟩:=by
 intro w args L g lit X ha hL hlt hpre hI hBL
 have ha0:=ha
 obtain ⟨v0,vs0,hal,⟨hv0,arr0,cm0,m1,m2,m3,m4,m5⟩,hag⟩:=ha0
 obtain ⟨N,hr⟩:=hG lit X m4.len m4.bd hag.bd hpre
 have hn:=Nat.le_of_ble_eq_true hn
 have hn2:=Nat.le_of_ble_eq_true hn2
 have hlen:args.size = ps.length + 1:=by
  have hl0:vs0.length = ps.length:=hag.len
  have e:=congrArg List.length hal
  simp at e
  omega
 refine .inl ⟨?_, ?_⟩
 ·have h1 : ¬ fn.name = "runtime.NumGoroutine" := by simpa using hname
  have h2:¬ fn.body = none:=by rw [hb]; simp
  simp [callFunc,hf,h1,h2]
 obtain ⟨E,st⟩:=zv6 ha hL (show ps.length + 1≤100000 by omega) hsm
 let oo:Nat→Value:=fun t=>args.getD (t - 100000) undef
 have hsz:(args ++ Array.replicate (fn.ntmps - args.size) undef).size = fn.ntmps:=by
  rw [Array.size_append,Array.size_replicate]
  omega
 have hund:∀ t,args.size≤t→(args ++ Array.replicate (fn.ntmps - args.size) undef).getD t undef = undef:=by
  intro t ht
  rw [Array.getD_eq_getD_getElem?,Array.getElem?_append_right ht]
  by_cases h:t - args.size < fn.ntmps - args.size
  ·simp [Array.getElem?_replicate,h]
  ·simp [Array.getElem?_replicate,h]
 have hR:R w E.lab oo fn.ntmps (z3v k ps lit X) E { tmps:=args ++ Array.replicate (fn.ntmps - args.size) undef,defers:=[] } w:=by
  refine ⟨hn2,hsz,rfl,fun t=>?_,st.boxes,st.rows,⟨rfl,rfl,rfl,Nat.le_refl _,fun k hk hl=>⟨hl,rfl⟩⟩⟩
  have hval:z74 oo { tmps:=args ++ Array.replicate (fn.ntmps - args.size) undef,defers:=[] } t = if t < 100000 then args.getD t undef else args.getD (t - 100000) undef:=by
   unfold z74
   by_cases ht:t < 100000
   ·rw [if_pos ht,if_pos ht]
    by_cases hlt:t < args.size
    ·simp only [Array.getD_eq_getD_getElem?]
     rw [Array.getElem?_append_left hlt]
    ·rw [hund t (by omega),Array.getD_eq_getD_getElem?,Array.getElem?_eq_none (by omega)]
     rfl
   ·rw [if_neg ht,if_neg ht]
  rw [hval]
  show z47 (z3v k ps lit X) E w (z7l (ztd ps X.2) t) _
  unfold z7l
  split
  ·rename_i s hs
   exact st.slots t s hs
  ·show True
   trivial
 have hend:∀ σ' E' a' w',zlu T k ps back rs fn.results.toList σ' = some (lit,val X)→R w E.lab oo fn.ntmps σ' E' a' w'→a'.defers = []∧∃ v,(results fn a'.tmps).run P w' = .ok v w' ∧
   ∃ vs Lb Lr,Ending.returned v = Ending.returned v∧y74 w ⟨k,ps,back,rs,pre,val⟩ args.toList lit g L (val X) v w' vs Lb Lr:=by
  intro σ' E' a' w' hfin h'
  refine ⟨h'.defers, ?_⟩
  unfold zlu at hfin
  split at hfin
  ·rename_i ss cs hss hrf
   cases hq:(zjt σ' (some (k.te,k.t)) && (z4m (z15 (z5r rs ss ++ y6m σ' back ps)) && (z15 (cs.drop k.fx.length)).isEmpty))
   ·rw [hq] at hfin; cases hfin
   rw [hq] at hfin
   simp only [Bool.and_eq_true,List.isEmpty_iff] at hq
   obtain ⟨hkept,hnd,hnone⟩:=hq
   obtain ⟨hz,hfin⟩:=za9 (show zwv σ'.row rs ss _ = some (lit,val X) from hfin)
   obtain ⟨p0,p123⟩:=z2y (z:=(lit,val X)) hfin
   obtain ⟨p1,p23⟩:=z2y (z:=val X) p123
   obtain ⟨p2,p3⟩:=z2y (z:=(val X).2) p23
   have hnd:=z3k hnd
   rw [z3r] at hnd
   obtain ⟨n1,n2,n3⟩:=List.nodup_append.1 hnd
   obtain ⟨vs,v1,v2⟩:=zd7 hT h' hss
   obtain ⟨v,r1,r2⟩:=z8y v2
   obtain ⟨Lr,l1,l2,l3⟩:=z8z h' p3 hz v1 n1
   simp only [rfEnd] at hrf
   split at hrf
   ·rename_i te cs' hbx
    cases hte:Nat.beq te k.te
    ·rw [hte] at hrf; cases hrf
    rw [hte] at hrf
    injection hrf with hrf
    subst hrf
    obtain rfl:=Nat.eq_of_beq_eq_true hte
    obtain ⟨arr,k1,k2,k3,k4⟩:=h'.boxes 100000 _ _ hbx
    have k1:=k1.cells (by simpa using hsm)
    have hs0:z47 σ' E' w' (σ'.slot 100000) (z74 oo a' 100000):=h'.slots 100000
    simp only [zjt] at hkept
    split at hkept
    ·rename_i hsl
     rw [hsl] at hs0
     obtain ⟨hp,_⟩:=(show z1v σ' E' w' (.box 100000 0) _ from hs0)
     have hu:z74 oo a' 100000 = v0:=by
      unfold z74
      rw [if_neg (by omega)]
      exact zae (by rw [hal]; rfl)
     rw [hu,hv0] at hp
     injection hp with hp
     injection hp with hp
     injection hp with hp
     rw [← hp] at k1 k2
     have e0:arr.toList.take k.fx.length = lit:=zh3 p0 (k3.take k.fx.length)
     obtain ⟨L1,o1,o2,o3⟩:=z48 h' p1 (k3.drop k.fx.length) (by rw [hnone]; exact List.nodup_nil)
     have hL1:L1 = []:=by
      cases L1 with
      | nil=>rfl
      | cons x xs =>
       obtain ⟨q,q1,_⟩:=o3 x List.mem_cons_self
       rw [hnone] at q1
       cases q1
     subst hL1
     obtain ⟨Lb,b1,b2,b3⟩:∃ Lb,zv1 w' Lb back ps args.toList.tail (val X).2.1∧Lb.Nodup∧∀ q ∈ Lb,∃ r ∈ z15 (y6m σ' back ps),z7a E'.lab r q:=by
      rw [hal]
      exact back_end (vs:=vs0) h' p2 hag.len (fun j u hu=>by
       show args.getD (100000 + (1 + j) - 100000) undef = u
       rw [show 100000 + (1 + j) - 100000 = j + 1 from by omega]
       exact zae (by rw [hal]; simpa using hu)) n2
     have hold:∀ q r,z7a E'.lab r q→q ∈ L∨w.heap.size≤q:=by
      intro q r hk
      by_cases h1:q ∈ g :: L
      ·rcases List.mem_cons.1 h1 with rfl | h1
       ·rcases hk with hk | hk <;> rw [k2] at hk <;> cases hk
       ·exact .inl h1
      ·refine .inr (Nat.le_of_not_lt fun hlt=>?_)
       have:=(h'.same.old q hlt (st.out q h1)).1
       rcases hk with hk | hk <;> rw [this] at hk <;> cases hk
     refine ⟨v,r1,vs,Lb,Lr,rfl,r2,l1,⟨arr,_,k1,k4, ?_,o1⟩,b1,List.nodup_append.2 ⟨l2,b2,fun x hx z hz e=>?_⟩,fun q hq=>?_,h'.same.os,h'.same.tape,h'.same.output,h'.same.size,fun q hq hqL=>(h'.same.old q hq (st.out q hqL)).2⟩
     ·rw [← e0]
      exact (List.take_append_drop _ _).symm
     ·subst e
      obtain ⟨q,q1,q2⟩:=l3 x hx
      obtain ⟨q',q1',q2'⟩:=b3 x hz
      exact n3 q q1 q' q1' (z6c q2 q2')
     ·rcases List.mem_append.1 hq with hq | hq
      ·obtain ⟨r,q1,q2⟩:=l3 q hq
       exact hold q r q2
      ·obtain ⟨r,q1,q2⟩:=b3 q hq
       exact hold q r q2
    ·cases hkept
   ·cases hrf
  ·cases hfin
 refine calls_of_wp hf hb (z3w hT (hΓ.at hI fun k hk=>st.out k fun hl=>hBL k hl hk) hm c pl hc hR hr ?_ (zg6.join ?_ _))
 ·intro ch a a' w' hq
  obtain ⟨_,v,vs,L',Lr,he,_⟩:=hq
  cases he
 ·intro e σ' E' a' w' hr' h'
  cases e with
  | nrm =>
   obtain ⟨d1,v,d2,vs,L',Lr,d3,d4⟩:=hend σ' E' a' w' hr' h'
   exact ⟨d1,v,d2,v,vs,L',Lr,rfl,d4⟩
  | ret =>
   obtain ⟨d1,v,d2,vs,L',Lr,d3,d4⟩:=hend σ' E' a' w' hr' h'
   exact ⟨d1,v,d2,v,vs,L',Lr,rfl,d4⟩
  | exit i=>cases hr'
def zei (e:Nat) (t0:Ty) (ps:List PT) (v0:Value) (X:List t0.den × Dat ps):St:=z1k ((0,.c (.bor v0 e t0 X.1)) :: (z4i ps X.2 1 0).1) [] []
def zlv (T:Tab) (k:zey) (rv:List ResultVar) (σ:St):Option (List Value × k.t.den) :=
 match zd8 T σ rv with
 | some [.c (.box b 0)]=>match σ.box b with
  | some (te,cs)=>cond (Nat.beq te k.te && (z15 (cs.drop k.fx.length)).isEmpty) (z9x (zy4 (cs.take k.fx.length)) (z78 σ.row k.t (cs.drop k.fx.length))) none
  | none=>none
 | _=>none
def finKN (T:Tab) (k:zey) (rv:List ResultVar):Ex→St→Option (List Value × k.t.den)
 | .nrm,σ=>zlv T k rv σ
 | .ret,σ=>zlv T k rv σ
 | .exit _,_=>none
theorem zje [Inv P] {f : Nat} {fn : Func} {c : Code} {te e : Nat} {t0 t : Ty} {ps : List PT} {pre : Option (Dat (⟨.sl e t0, false, false⟩ :: ps) → Bool)} {val : Dat (⟨.sl e t0, false, false⟩ :: ps) → t.den} {pl : z0p} {je : Option z09} (hf : P.funcs[f]? = some fn) (hb : fn.body = some c) (hname : (fn.name == "runtime.NumGoroutine") = false)
  (hm:P.follows .mixedOrders = true) (hT:TOk P T) (hΓ:GOk P Γ) (hc:z8q fn.ntmps c = true) (hn:Nat.ble (ps.length + 1) fn.ntmps = true) (hn2:Nat.ble fn.ntmps 100000 = true) (hno:za8 ps = true)
  (hG:∀ v0 X,DatB (⟨.sl e t0,false,false⟩ :: ps) X→z64 pre X = true→∃ N,z1t Γ T B N c pl (zei e t0 ps v0 X) (z00 je (finKN T ⟨te,[(e,t0)],t⟩ fn.results.toList)) = some ([v0],val X)) (hsm:Nat.blt te z2f = true:=by rfl):z9k P f ⟨⟨te,[(e,t0)],t⟩,⟨.sl e t0,false,false⟩ :: ps,pre,val⟩:=by
 intro w args X ha hpre hI
 have ha:z8s w (fun _=>True) (⟨.sl e t0,false,false⟩ :: ps) args.toList X []:=ha
 have hbd:=ha.bd
 match hal:args.toList,ha with
 | [],ha=>exact ha.elim
 | v0 :: vs0,ha =>
 obtain ⟨cs0,L1,L2,hLL,hcv,hrd,ha⟩:=ha
 have hcv:cs0 = [v0]:=hcv
 subst hcv
 obtain ⟨rfl,hrd⟩:L1 = []∧Rd w (fun _=>True) (.sl e t0) [v0] X.1:=hrd
 have hL2:L2 = []:=by simpa using hLL.symm
 subst hL2
 obtain ⟨N,hr⟩:=hG v0 X hbd hpre
 have hn:=Nat.le_of_ble_eq_true hn
 have hn2:=Nat.le_of_ble_eq_true hn2
 have hl:=ha.len
 have hlen:args.size = ps.length + 1:=by
  have e:=congrArg List.length hal
  simp at e
  omega
 refine .inl ⟨?_, ?_⟩
 ·have h1 : ¬ fn.name = "runtime.NumGoroutine" := by simpa using hname
  have h2:¬ fn.body = none:=by rw [hb]; simp
  simp [callFunc,hf,h1,h2]
 obtain ⟨f2,v2,a2,b2⟩:=zd5 (i:=1) (j:=0) ha List.nodup_nil
 let E:Env:=⟨fun _=>.st,v2,fun _=>0⟩
 have hrows:(z4i ps X.2 1 0).2 = []:=by
  have:∀ {ps:List PT} {X:Dat ps} {i j:Nat},za8 ps = true→(z4i ps X i j).2 = []:=by
   intro ps
   induction ps with
   | nil=>intro X i j _; rfl
   | cons p ps ih =>
    intro X i j h
    obtain ⟨t,agg,io⟩:=p
    simp only [za8,List.all_cons,Bool.and_eq_true,Bool.not_eq_true'] at h
    obtain ⟨hio,h⟩:=h
    subst hio
    exact ih h
  exact this hno
 obtain ⟨g3,_⟩:=b2 (zei e t0 ps v0 X) E (fun k hk=>by cases hk) (fun _ _=>rfl) (fun p hp=>rfl) (fun p hp=>by rw [hrows] at hp; cases hp)
 let oo:Nat→Value:=fun t=>undef
 have hsz:(args ++ Array.replicate (fn.ntmps - args.size) undef).size = fn.ntmps:=by
  rw [Array.size_append,Array.size_replicate]
  omega
 have hget:∀ m v,args.toList[m]? = some v→(args ++ Array.replicate (fn.ntmps - args.size) undef).getD m undef = v:=fun m v h=>by
  have hlt:m < args.size:=by
   have:=(List.getElem?_eq_some_iff.1 h).1
   simpa using this
  rw [Array.getD_eq_getD_getElem?,Array.getElem?_append_left hlt]
  have:args[m]? = some v:=by simpa using h
  rw [this]; rfl
 have hR:R w E.lab oo fn.ntmps (zei e t0 ps v0 X) E { tmps:=args ++ Array.replicate (fn.ntmps - args.size) undef,defers:=[] } w:=by
  refine ⟨hn2,hsz,rfl,fun t=>?_,fun b te cs hb=>(by cases hb),fun r row hr=>(by cases hr),⟨rfl,rfl,rfl,Nat.le_refl _,fun k hk hl=>⟨hl,rfl⟩⟩⟩
  show z47 (zei e t0 ps v0 X) E w (z7l ((0,.c (.bor v0 e t0 X.1)) :: (z4i ps X.2 1 0).1) t) _
  refine zjo fun p hp ep=>?_
  have hv:∀ m v,args.toList[m]? = some v→t = m→z74 oo { tmps:=args ++ Array.replicate (fn.ntmps - args.size) undef,defers:=[] } t = v:=fun m v h1 h2=>by
   have hlt:m < args.size:=by
    have:=(List.getElem?_eq_some_iff.1 h1).1
    simpa using this
   unfold z74
   rw [if_pos (by omega),h2]
   exact hget m v h1
  rcases List.mem_cons.1 hp with rfl | hp
  ·rw [hv 0 v0 (by rw [hal]; rfl) ep.symm]
   exact (show z1v (zei e t0 ps v0 X) E w (.bor v0 e t0 X.1) v0 from ⟨rfl,hrd.mono fun _ _=>rfl⟩)
  ·obtain ⟨m,v,q1,q2,q3⟩:=g3 p hp
   rw [hv (m + 1) v (by rw [hal]; simpa using q1) (by omega)]
   exact q3
 have hend:∀ σ' E' a' w',zlv T ⟨te,[(e,t0)],t⟩ fn.results.toList σ' = some ([v0],val X)→R w E.lab oo fn.ntmps σ' E' a' w'→a'.defers = []∧∃ v,(results fn a'.tmps).run P w' = .ok v w' ∧
   ∃ g,Ending.returned v = Ending.returned v∧y75 w ⟨⟨te,[(e,t0)],t⟩,⟨.sl e t0,false,false⟩ :: ps,pre,val⟩ (v0 :: vs0) (val X) v w' g:=by
  intro σ' E' a' w' hfin h'
  refine ⟨h'.defers, ?_⟩
  unfold zlv at hfin
  split at hfin
  ·rename_i b hss
   split at hfin
   ·rename_i te' cs hbx
    simp only at hfin
    cases hq:(Nat.beq te' te && (z15 (cs.drop ([(e,t0)]:List (Nat × Ty)).length)).isEmpty)
    ·rw [hq] at hfin; cases hfin
    rw [hq] at hfin
    simp only [Bool.and_eq_true,List.isEmpty_iff] at hq
    obtain ⟨hte,hnone⟩:=hq
    obtain rfl:=Nat.eq_of_beq_eq_true hte
    obtain ⟨p0,p1⟩:=z2y (z:=([v0],val X)) hfin
    obtain ⟨vs,v1,v2⟩:=zd7 hT h' hss
    obtain ⟨v,r1,r2⟩:=z8y v2
    match vs,v1 with
    | [],v1=>exact v1.elim
    | _ :: _ :: _,v1=>exact v1.2.elim
    | [u],v1 =>
    obtain rfl:v = u:=r2
    obtain ⟨hp,_⟩:=(show z1v σ' E' w' (.box b 0) v from v1.1)
    obtain ⟨arr,k1,k2,k3,k4⟩:=h'.boxes b _ _ hbx
    have k1:=k1.cells (by simpa using hsm)
    have e0:arr.toList.take ([(e,t0)]:List (Nat × Ty)).length = [v0]:=zh3 p0 (k3.take _)
    obtain ⟨L1,o1,o2,o3⟩:=z48 h' p1 (k3.drop _) (by rw [hnone]; exact List.nodup_nil)
    have hL1:L1 = []:=by
     cases L1 with
     | nil=>rfl
     | cons x xs =>
      obtain ⟨q,q1,_⟩:=o3 x List.mem_cons_self
      rw [hnone] at q1
      cases q1
    subst hL1
    refine ⟨v,r1,E'.bb b,rfl,hp,Nat.le_of_not_lt fun hlt=>?_,⟨arr,_,k1,k4, ?_,o1⟩,h'.same.os,h'.same.tape,h'.same.output,h'.same.size,fun q hq=>(h'.same.old q hq rfl).2⟩
    ·have:=(h'.same.old _ hlt rfl).1
     rw [k2] at this
     cases this
    ·show arr.toList = (v0 :: vs0).take 1 ++ _
     rw [show (v0 :: vs0).take 1 = [v0] from rfl,← e0]
     exact (List.take_append_drop _ _).symm
   ·cases hfin
  ·cases hfin
 refine calls_of_wp hf hb (z3w hT (hΓ.at hI fun k hk=>rfl) hm c pl hc hR hr ?_ (zg6.join ?_ _))
 ·intro ch a a' w' hq
  obtain ⟨_,v,g,he,_⟩:=hq
  cases he
 ·intro ex σ' E' a' w' hr' h'
  cases ex with
  | nrm =>
   obtain ⟨d1,v,d2,g,d3,d4⟩:=hend σ' E' a' w' hr' h'
   exact ⟨d1,v,d2,v,g,rfl,d4⟩
  | ret =>
   obtain ⟨d1,v,d2,g,d3,d4⟩:=hend σ' E' a' w' hr' h'
   exact ⟨d1,v,d2,v,g,rfl,d4⟩
  | exit i=>cases hr'
end
end Go.Fw
namespace Go.Fw
open Go.RowKit
abbrev KT (ρ:Type):Type:=Ex→St→Option ρ
section
variable {ρ:Type} {Γ:Gm} {T:Tab} {B:Nat→Option z09} {N:Nat} {c a b:Code} {p pa pb:z0p} {σ:St} {K:KT ρ}
theorem viaSeq {β:Type} (f:β→Option ρ) {lm:z09} {Z W:Option ρ} {k k':β} (hc:c = .seq a b) (hp:p = .mk (some lm) none pa pb)
  (h1:z1t Γ T B N a pa σ (z00 (some lm) (z16 (fun σ'=>z1t Γ T B N b pb σ' K) K)) = Z) (h2:k = k') (e2:Z = f k) (e3:f k' = W):z1t Γ T B N c p σ K = W:=by
 subst hc hp h2
 exact (show z1t Γ T B N (.seq a b) (.mk (some lm) none pa pb) σ K = _ from rfl).trans (h1.trans (e2.trans e3))
theorem viaCond {x:Operand} {t:Bool} {A A' W:Option ρ} (hc:c = .cond x a b) (hp:p = .mk none none pa pb) (hx:ev σ x = .c (.bool t))
  (h1:z1t Γ T B N a pa σ K = A) (h2:z1t Γ T B N b pb σ K = A') (e:cond t A A' = W):z1t Γ T B N c p σ K = W:=by
 subst hc hp h1 h2
 rw [← e]
 show (match ev σ x with | .c (.bool t)=>cond t (z1t Γ T B N a pa σ K) (z1t Γ T B N b pb σ K) | _=>none) = _
 rw [hx]
theorem viaBlock {id:Nat} {lm:z09} {Z W:Option ρ} (hc:c = .block id a) (hp:p = .mk (some lm) none pa .n)
  (h1:z1t Γ T B N a pa σ (z00 (some lm) (z1j id K)) = Z) (e:Z = W):z1t Γ T B N c p σ K = W:=by
 subst hc hp e
 exact h1
theorem viaLoop {cl:z09} {σ':St} {Z W:Option ρ} (hc:c = .loop a) (hp:p = .mk none (some cl) pa .n) (hs:zij cl σ = some σ')
  (h1:z2r (fun σ K=>z1t Γ T B N a pa σ K) cl N σ' K = Z) (e:Z = W):z1t Γ T B N c p σ K = W:=by
 subst hc hp e
 show ((zij cl σ).bind fun σ0=>z2r (fun σ K=>z1t Γ T B N a pa σ K) cl N σ0 K) = _
 rw [hs]
 exact h1
theorem z05 {β:Type} (f:β→Option ρ) {lm:z09} {Z W:Option ρ} {k k':β} (hc:(c,p) = (Code.seq a b,z0p.mk (some lm) none pa pb))
  (h1:z1t Γ T B N a pa σ (z00 (some lm) (z16 (fun σ'=>z1t Γ T B N b pb σ' K) K)) = Z) (h2:k = k') (e:(Z,f k') = (f k,W)):z1t Γ T B N c p σ K = W :=
 viaSeq f (congrArg Prod.fst hc) (congrArg Prod.snd hc) h1 h2 (congrArg Prod.fst e) (congrArg Prod.snd e)
theorem zg7 {x:Operand} {t:Bool} {A A' W:Option ρ} (hc:(c,p,ev σ x) = (Code.cond x a b,z0p.mk none none pa pb,SV.c (.bool t)))
  (h1:z1t Γ T B N a pa σ K = A) (h2:z1t Γ T B N b pb σ K = A') (e:cond t A A' = W):z1t Γ T B N c p σ K = W :=
 viaCond (congrArg Prod.fst hc) (congrArg (fun q=>q.2.1) hc) (congrArg (fun q=>q.2.2) hc) h1 h2 e
theorem z0n {id:Nat} {lm:z09} {Z W:Option ρ} (hc:(c,p) = (Code.block id a,z0p.mk (some lm) none pa .n))
  (h1:z1t Γ T B N a pa σ (z00 (some lm) (z1j id K)) = Z) (e:Z = W):z1t Γ T B N c p σ K = W :=
 viaBlock (congrArg Prod.fst hc) (congrArg Prod.snd hc) h1 e
theorem z1d {cl:z09} {σ':St} {Z W:Option ρ} (hc:(c,p,zij cl σ) = (Code.loop a,z0p.mk none (some cl) pa .n,some σ'))
  (h1:z2r (fun σ K=>z1t Γ T B N a pa σ K) cl N σ' K = Z) (e:Z = W):z1t Γ T B N c p σ K = W :=
 viaLoop (congrArg Prod.fst hc) (congrArg (fun q=>q.2.1) hc) (congrArg (fun q=>q.2.2) hc) h1 e
theorem viaPeelS {β:Type} (f:β→Option ρ) {cl1 cl:z09} {σ':St} {Z W:Option ρ} {k k':β} (hc:(c,p,zij cl1 σ) = (Code.loop a,z0p.mk (some cl1) (some cl) pa pb,some σ'))
  (h1:z1t Γ T B N a pb σ' (z00 (some cl) (z16 (fun σ''=>z2r (fun σ K=>z1t Γ T B N a pa σ K) cl N σ'' K) K)) = Z) (h2:k = k') (e:(Z,f k') = (f k,W)):z1t Γ T B N c p σ K = W:=by
 obtain ⟨rfl,rfl,hs⟩:c = Code.loop a∧p = z0p.mk (some cl1) (some cl) pa pb∧zij cl1 σ = some σ':=⟨congrArg Prod.fst hc,congrArg (fun q=>q.2.1) hc,congrArg (fun q=>q.2.2) hc⟩
 subst h2
 have e1:Z = f k:=congrArg Prod.fst e
 have e2:f k = W:=congrArg Prod.snd e
 rw [← e2,← e1,← h1]
 show ((zij cl1 σ).bind fun σ0=>z1t Γ T B N a pb σ0 (z00 (some cl) (z16 (fun σ''=>z2r (fun σ K=>z1t Γ T B N a pa σ K) cl N σ'' K) K))) = _
 rw [hs]
 rfl
theorem viaRound {β:Type} (f:β→Option ρ) {F:St→KT ρ→Option ρ} {cl:z09} {M:Nat} {Z W:Option ρ} {k k':β}
  (h1:F σ (z00 (some cl) (z16 (fun σ''=>z2r F cl M σ'' K) K)) = Z) (h2:k = k') (e2:Z = f k) (e3:f k' = W):z2r F cl (M + 1) σ K = W:=by
 subst h2
 exact (show z2r F cl (M + 1) σ K = _ from rfl).trans (h1.trans (e2.trans e3))
theorem z12 {β:Type} (f:β→Option ρ) {F:St→KT ρ→Option ρ} {cl:z09} {M:Nat} {Z W:Option ρ} {k k':β}
  (h1:F σ (z00 (some cl) (z16 (fun σ''=>z2r F cl M σ'' K) K)) = Z) (h2:k = k') (e:(Z,f k') = (f k,W)):z2r F cl (M + 1) σ K = W :=
 viaRound f h1 h2 (congrArg Prod.fst e) (congrArg Prod.snd e)
end
abbrev I2 (α:Type):Type:=Int→Int→α
abbrev I3 (α:Type):Type:=Int→Int→Int→α
abbrev I4 (α:Type):Type:=Int→Int→Int→Int→α
abbrev I5 (α:Type):Type:=Int→Int→Int→Int→Int→α
abbrev I6 (α:Type):Type:=Int→Int→Int→Int→Int→Int→α
abbrev I7 (α:Type):Type:=Int→Int→Int→Int→Int→Int→Int→α
abbrev I8 (α:Type):Type:=Int→Int→Int→Int→Int→Int→Int→Int→α
def z2x:Nat→Code→Nat→Code
 | 0,c,_=>c
 | F + 1,c,n=>cond (Nat.ble n 1) c (match c with
  | .seq a b=>cond (Nat.beq (n % 2) 0) (z2x F a (n / 2)) (z2x F b (n / 2))
  | .cond _ a b=>cond (Nat.beq (n % 2) 0) (z2x F a (n / 2)) (z2x F b (n / 2))
  | .block _ c=>z2x F c (n / 2)
  | .loop c=>z2x F c (n / 2)
  | c=>c)
abbrev yi (n:Int):z1e:=.int .i64 n
abbrev xi (n:Int):SV:=.c (.int .i64 n)
abbrev xo (n:Nat):SV:=.c (.own n)
abbrev xb (n:Nat):SV:=.c (.box n 0)
abbrev xB (b:Bool):SV:=.c (.bool b)
abbrev tI:Ty:=.int .i64
abbrev LI:Type:=List Int
abbrev LL:Type:=List (List Int)
abbrev MT:Type:=Int × Int × List Int
theorem fx2 {α0 α1 β:Type} {f g:α0→α1→β} (h:∀ x0 x1,f x0 x1 = g x0 x1):f = g:=funext fun x0=>funext fun x1=>h x0 x1
theorem fx3 {α0 α1 α2 β:Type} {f g:α0→α1→α2→β} (h:∀ x0 x1 x2,f x0 x1 x2 = g x0 x1 x2):f = g:=funext fun x0=>funext fun x1=>funext fun x2=>h x0 x1 x2
theorem fx4 {α0 α1 α2 α3 β:Type} {f g:α0→α1→α2→α3→β} (h:∀ x0 x1 x2 x3,f x0 x1 x2 x3 = g x0 x1 x2 x3):f = g:=funext fun x0=>funext fun x1=>funext fun x2=>funext fun x3=>h x0 x1 x2 x3
theorem fx5 {α0 α1 α2 α3 α4 β:Type} {f g:α0→α1→α2→α3→α4→β} (h:∀ x0 x1 x2 x3 x4,f x0 x1 x2 x3 x4 = g x0 x1 x2 x3 x4):f = g:=funext fun x0=>funext fun x1=>funext fun x2=>funext fun x3=>funext fun x4=>h x0 x1 x2 x3 x4
theorem fx6 {α0 α1 α2 α3 α4 α5 β:Type} {f g:α0→α1→α2→α3→α4→α5→β} (h:∀ x0 x1 x2 x3 x4 x5,f x0 x1 x2 x3 x4 x5 = g x0 x1 x2 x3 x4 x5):f = g:=funext fun x0=>funext fun x1=>funext fun x2=>funext fun x3=>funext fun x4=>funext fun x5=>h x0 x1 x2 x3 x4 x5
theorem fx7 {α0 α1 α2 α3 α4 α5 α6 β:Type} {f g:α0→α1→α2→α3→α4→α5→α6→β} (h:∀ x0 x1 x2 x3 x4 x5 x6,f x0 x1 x2 x3 x4 x5 x6 = g x0 x1 x2 x3 x4 x5 x6):f = g:=funext fun x0=>funext fun x1=>funext fun x2=>funext fun x3=>funext fun x4=>funext fun x5=>funext fun x6=>h x0 x1 x2 x3 x4 x5 x6
theorem fx8 {α0 α1 α2 α3 α4 α5 α6 α7 β:Type} {f g:α0→α1→α2→α3→α4→α5→α6→α7→β} (h:∀ x0 x1 x2 x3 x4 x5 x6 x7,f x0 x1 x2 x3 x4 x5 x6 x7 = g x0 x1 x2 x3 x4 x5 x6 x7):f = g:=funext fun x0=>funext fun x1=>funext fun x2=>funext fun x3=>funext fun x4=>funext fun x5=>funext fun x6=>funext fun x7=>h x0 x1 x2 x3 x4 x5 x6 x7
theorem fx9 {α0 α1 α2 α3 α4 α5 α6 α7 α8 β:Type} {f g:α0→α1→α2→α3→α4→α5→α6→α7→α8→β} (h:∀ x0 x1 x2 x3 x4 x5 x6 x7 x8,f x0 x1 x2 x3 x4 x5 x6 x7 x8 = g x0 x1 x2 x3 x4 x5 x6 x7 x8):f = g:=funext fun x0=>funext fun x1=>funext fun x2=>funext fun x3=>funext fun x4=>funext fun x5=>funext fun x6=>funext fun x7=>funext fun x8=>h x0 x1 x2 x3 x4 x5 x6 x7 x8
theorem zb5 {α0 α1 α2 α3 α4 α5 α6 α7 α8 α9 β:Type} {f g:α0→α1→α2→α3→α4→α5→α6→α7→α8→α9→β} (h:∀ x0 x1 x2 x3 x4 x5 x6 x7 x8 x9,f x0 x1 x2 x3 x4 x5 x6 x7 x8 x9 = g x0 x1 x2 x3 x4 x5 x6 x7 x8 x9):f = g:=funext fun x0=>funext fun x1=>funext fun x2=>funext fun x3=>funext fun x4=>funext fun x5=>funext fun x6=>funext fun x7=>funext fun x8=>funext fun x9=>h x0 x1 x2 x3 x4 x5 x6 x7 x8 x9
theorem zk5 {α0 α1 α2 α3 α4 α5 α6 α7 α8 α9 α10 β:Type} {f g:α0→α1→α2→α3→α4→α5→α6→α7→α8→α9→α10→β} (h:∀ x0 x1 x2 x3 x4 x5 x6 x7 x8 x9 x10,f x0 x1 x2 x3 x4 x5 x6 x7 x8 x9 x10 = g x0 x1 x2 x3 x4 x5 x6 x7 x8 x9 x10):f = g:=funext fun x0=>funext fun x1=>funext fun x2=>funext fun x3=>funext fun x4=>funext fun x5=>funext fun x6=>funext fun x7=>funext fun x8=>funext fun x9=>funext fun x10=>h x0 x1 x2 x3 x4 x5 x6 x7 x8 x9 x10
theorem ztk {α0 α1 α2 α3 α4 α5 α6 α7 α8 α9 α10 α11 β:Type} {f g:α0→α1→α2→α3→α4→α5→α6→α7→α8→α9→α10→α11→β} (h:∀ x0 x1 x2 x3 x4 x5 x6 x7 x8 x9 x10 x11,f x0 x1 x2 x3 x4 x5 x6 x7 x8 x9 x10 x11 = g x0 x1 x2 x3 x4 x5 x6 x7 x8 x9 x10 x11):f = g:=funext fun x0=>funext fun x1=>funext fun x2=>funext fun x3=>funext fun x4=>funext fun x5=>funext fun x6=>funext fun x7=>funext fun x8=>funext fun x9=>funext fun x10=>funext fun x11=>h x0 x1 x2 x3 x4 x5 x6 x7 x8 x9 x10 x11
theorem zvu {α0 α1 α2 α3 α4 α5 α6 α7 α8 α9 α10 α11 α12 β:Type} {f g:α0→α1→α2→α3→α4→α5→α6→α7→α8→α9→α10→α11→α12→β} (h:∀ x0 x1 x2 x3 x4 x5 x6 x7 x8 x9 x10 x11 x12,f x0 x1 x2 x3 x4 x5 x6 x7 x8 x9 x10 x11 x12 = g x0 x1 x2 x3 x4 x5 x6 x7 x8 x9 x10 x11 x12):f = g:=funext fun x0=>funext fun x1=>funext fun x2=>funext fun x3=>funext fun x4=>funext fun x5=>funext fun x6=>funext fun x7=>funext fun x8=>funext fun x9=>funext fun x10=>funext fun x11=>funext fun x12=>h x0 x1 x2 x3 x4 x5 x6 x7 x8 x9 x10 x11 x12
theorem fx14 {α0 α1 α2 α3 α4 α5 α6 α7 α8 α9 α10 α11 α12 α13 β:Type} {f g:α0→α1→α2→α3→α4→α5→α6→α7→α8→α9→α10→α11→α12→α13→β} (h:∀ x0 x1 x2 x3 x4 x5 x6 x7 x8 x9 x10 x11 x12 x13,f x0 x1 x2 x3 x4 x5 x6 x7 x8 x9 x10 x11 x12 x13 = g x0 x1 x2 x3 x4 x5 x6 x7 x8 x9 x10 x11 x12 x13):f = g:=funext fun x0=>funext fun x1=>funext fun x2=>funext fun x3=>funext fun x4=>funext fun x5=>funext fun x6=>funext fun x7=>funext fun x8=>funext fun x9=>funext fun x10=>funext fun x11=>funext fun x12=>funext fun x13=>h x0 x1 x2 x3 x4 x5 x6 x7 x8 x9 x10 x11 x12 x13
theorem fx15 {α0 α1 α2 α3 α4 α5 α6 α7 α8 α9 α10 α11 α12 α13 α14 β:Type} {f g:α0→α1→α2→α3→α4→α5→α6→α7→α8→α9→α10→α11→α12→α13→α14→β} (h:∀ x0 x1 x2 x3 x4 x5 x6 x7 x8 x9 x10 x11 x12 x13 x14,f x0 x1 x2 x3 x4 x5 x6 x7 x8 x9 x10 x11 x12 x13 x14 = g x0 x1 x2 x3 x4 x5 x6 x7 x8 x9 x10 x11 x12 x13 x14):f = g:=funext fun x0=>funext fun x1=>funext fun x2=>funext fun x3=>funext fun x4=>funext fun x5=>funext fun x6=>funext fun x7=>funext fun x8=>funext fun x9=>funext fun x10=>funext fun x11=>funext fun x12=>funext fun x13=>funext fun x14=>h x0 x1 x2 x3 x4 x5 x6 x7 x8 x9 x10 x11 x12 x13 x14
theorem fx16 {α0 α1 α2 α3 α4 α5 α6 α7 α8 α9 α10 α11 α12 α13 α14 α15 β:Type} {f g:α0→α1→α2→α3→α4→α5→α6→α7→α8→α9→α10→α11→α12→α13→α14→α15→β} (h:∀ x0 x1 x2 x3 x4 x5 x6 x7 x8 x9 x10 x11 x12 x13 x14 x15,f x0 x1 x2 x3 x4 x5 x6 x7 x8 x9 x10 x11 x12 x13 x14 x15 = g x0 x1 x2 x3 x4 x5 x6 x7 x8 x9 x10 x11 x12 x13 x14 x15):f = g:=funext fun x0=>funext fun x1=>funext fun x2=>funext fun x3=>funext fun x4=>funext fun x5=>funext fun x6=>funext fun x7=>funext fun x8=>funext fun x9=>funext fun x10=>funext fun x11=>funext fun x12=>funext fun x13=>funext fun x14=>funext fun x15=>h x0 x1 x2 x3 x4 x5 x6 x7 x8 x9 x10 x11 x12 x13 x14 x15
@[reducible] def Inv.triv (P:Program):Inv P:=⟨fun _=>True,fun _=>False,fun _ _ _ h=>h,fun _ _ _ h=>h.elim⟩
end Go.Fw
namespace Go.Fw
section
variable {ρ:Type} {N:Nat} {b:Bool} {x y:ρ}
theorem ct (h:b = true):cond (lk N b) x y = x:=by rw [z1x,h]; rfl
theorem cf (h:b = false):cond (lk N b) x y = y:=by rw [z1x,h]; rfl
theorem ct' (h:b = true):cond b x y = x:=by rw [h]; rfl
theorem cf' (h:b = false):cond b x y = y:=by rw [h]; rfl
end
theorem dt {p:Prop} [Decidable p] (h:p):decide p = true:=decide_eq_true h
theorem df {p:Prop} [Decidable p] (h:¬ p):decide p = false:=decide_eq_false h
theorem nt {p:Prop} [Decidable p] (h:¬ p):(!(decide p)) = true:=by simp [h]
theorem nf {p:Prop} [Decidable p] (h:p):(!(decide p)) = false:=by simp [h]
theorem z0z:maxLen = 9223372036854775807:=rfl
theorem z1b {j m:Nat} (h:j < m):inB (j:Int) m = true:=by
 have:(j:Int) < m:=by omega
 simp [inB,this]
theorem zyh {i:Int} {m:Nat} (h0:0≤i) (h1:i < m):inB i m = true:=by simp [inB,h0,h1]
theorem z1g {n:Int} (h0:-9223372036854775808≤n) (h1:n < 9223372036854775808):w64 n = n:=by
 show (if (true && decide (n % 18446744073709551616 ≥ 9223372036854775808)) = true then n % 18446744073709551616 - 18446744073709551616 else n % 18446744073709551616) = n
 by_cases h:n % 18446744073709551616 ≥ 9223372036854775808
 ·rw [if_pos (by simp [h])]; omega
 ·rw [if_neg (by simp [h])]; omega
theorem z1c {j:Nat} (h:j < maxLen):w64 ((j:Int) + 1) = ((j + 1:Nat):Int):=by
 rw [z1g (by omega) (by rw [z0z] at h; omega)]
 omega
theorem mx_eq (a b:Int):mx a b = max a b:=by unfold mx; omega
theorem zfo {a b:Int} (h:a≤b):leB a b = true:=by simp [leB,h]
end Go.Fw
namespace Go.Fw
theorem z3z {α:Type} {l:List α} {j:Nat} (d:α) (h:j < l.length):l.drop j = l.getD j d :: l.drop (j + 1):=by
 rw [List.drop_eq_getElem_cons h,List.getD_eq_getElem?_getD,List.getElem?_eq_getElem h,Option.getD_some]
theorem zn1 {α:Type} {l:List α} {j:Nat} (d:α) (h:j < l.length):l.take j ++ [l.getD j d] = l.take (j + 1):=by
 rw [List.take_add_one,List.getD_eq_getElem?_getD,List.getElem?_eq_getElem h]
 rfl
theorem z1m {α:Type} {l:List α} {j:Nat} (d:α) (h:j < l.length):l.getD j d ∈ l:=by
 rw [List.getD_eq_getElem?_getD,List.getElem?_eq_getElem h]
 exact List.getElem_mem h
theorem zdl {α:Type} {l:List α} {j:Nat} {d x:α} (h:j < l.length):(l.set j x).getD j d = x:=by
 rw [List.getD_eq_getElem?_getD,List.getElem?_set_self h]
 rfl
end Go.Fw
namespace Go.Fw
def i64P (n:Int):Bool:=decide (-9223372036854775808≤n) && decide (n≤9223372036854775807)
def ztc (xs:List Int) (i:Int) (ys:List Int):List Int:=xs.take i.toNat ++ ys ++ xs.drop i.toNat
def insP (xs:List Int) (i:Int) (ys:List Int):Bool:=Nat.ble i.toNat xs.length && (decide (0≤i) && (Nat.blt 0 ys.length && Nat.blt (xs.length + ys.length) 1099511627776))
end Go.Fw
namespace Go.Fw
open Go.RowKit
def zdm (ok:Nat→Ty→Bool) (P:Program):List Field→Ty→Nat→Bool
 | [f],ty,off=>Nat.beq f.offset off && (Nat.beq (P.cellsOf f.type) ty.nc && ok f.type ty)
 | f :: g :: fs,.pair a b,off=>(Nat.beq f.offset off && (Nat.beq (P.cellsOf f.type) a.nc && ok f.type a)) && zdm ok P (g :: fs) b (off + a.nc)
 | _,_,_=>false
def tyOk (P:Program):Nat→Nat→Ty→Bool
 | 0,_,_=>false
 | n + 1,t,ty=>match P.underlying t,ty with
  | some .bool,.bool=>true
  | some (.int k),.int k'=>ikEq k k'
  | some .string,.str=>true
  | some (.slice e),.sl e' ty'=>Nat.beq e' e && (Nat.beq (P.cellsOf e) ty'.nc && tyOk P n e ty')
  | some (.struct fs),ty=>Nat.beq (P.cellsOf t) ty.nc && zdm (tyOk P n) P fs.toList ty 0
  | _,_=>false
def Ty.wfb:(t:Ty)→t.den→Bool
 | .int k,n=>(Lit.int k n).wf
 | .bool,_=>true
 | .str,s=>decide (s.size≤maxLen)
 | .fnc _,_=>false
 | .err,_=>false
 | .sl _ t,xs=>xs.all t.wfb
 | .pair a b,x=>a.wfb x.1 && b.wfb x.2
theorem ztm {α:Type} {m:Nat} (hm:0 < m):∀ {css:List (List α)} {k:Nat} {u:α},(∀ c ∈ css,c.length = m)→css.flatten[k]? = some u→∃ i j c,i < css.length∧k = i * m + j∧css[i]? = some c∧c[j]? = some u
 | [],k,u,_,h=>by simp at h
 | c :: css,k,u,hc,h=>by
  have hl:=hc c List.mem_cons_self
  rw [List.flatten_cons] at h
  by_cases hk:k < m
  ·rw [List.getElem?_append_left (by omega)] at h
   exact ⟨0,k,c,by simp,by omega,rfl,h⟩
  ·rw [List.getElem?_append_right (by omega),hl] at h
   obtain ⟨i,j,c',h1,h2,h3,h4⟩:=ztm hm (fun c h=>hc c (List.mem_cons_of_mem _ h)) h
   refine ⟨i + 1,j,c',by simpa using h1, ?_,h3,h4⟩
   rw [Nat.add_mul]
   omega
section
variable {H:Type} {enc:TypeId × Value→H} {P:Program} {w:World}
theorem y6i {α:Type} {Q:Nat→List Value→α→Prop}:∀ (n:Nat),(∀ i,i < n→∃ c x,Q i c x)→∃ (css:List (List Value)) (xs:List α),css.length = n∧xs.length = n∧∀ i c x,css[i]? = some c→xs[i]? = some x→Q i c x:=by
 intro n
 induction n with
 | zero=>intro _; exact ⟨[],[],rfl,rfl,fun i c x h=>by simp at h⟩
 | succ n ih =>
  intro h
  obtain ⟨css,xs,h1,h2,h3⟩:=ih fun i hi=>h i (by omega)
  obtain ⟨c,x,hq⟩:=h n (by omega)
  refine ⟨css ++ [c],xs ++ [x],by simp [h1],by simp [h2],fun i c' x' hc hx=>?_⟩
  by_cases hi:i < n
  ·rw [List.getElem?_append_left (by omega)] at hc hx
   exact h3 i c' x' hc hx
  ·have hlt:=(List.getElem?_eq_some_iff.1 hc).1
   have:i = n:=by simp [h1] at hlt; omega
   subst this
   rw [List.getElem?_append_right (by omega),h1] at hc
   rw [List.getElem?_append_right (by omega),h2] at hx
   simp at hc hx
   subst hc hx
   exact hq
theorem y6p {α β:Type} {R:α→β→Prop}:∀ {as:List α} {bs:List β},as.length = bs.length→(∀ (i:Nat) a b,as[i]? = some a→bs[i]? = some b→R a b)→z1u R as bs
 | [],[],_,_=>trivial
 | a :: as,b :: bs,hl,h=>⟨h 0 a b rfl rfl,y6p (by simpa using hl) fun i a b ha hb=>h (i + 1) a b (by simpa using ha) (by simpa using hb)⟩
 | [],_ :: _,hl,_=>by simp at hl
 | _ :: _,[],hl,_=>by simp at hl
theorem trod_rd:∀ (n:Nat) {fuel t:Nat} {ty:Ty} {cs:List Value} {d:DataW H} {ps:List MemPlace},tyOk P n t ty = true→DataW.trod enc P w 0 (fun _=>true) true fuel t cs = some (d,ps) →
  ∃ x:ty.den,Rd w (fun _=>True) ty cs x∧ty.wfb x = true:=by
 intro n
 induction n with
 | zero=>intro _ _ _ _ _ _ h; cases h
 | succ n ih =>
  have fields:∀ {fuel:Nat} {cs:List Value} (fs:List Field) {ty:Ty} {off:Nat} (xs:List (DataW H × List MemPlace)),zdm (tyOk P n) P fs ty off = true→cs.length = off + ty.nc →
    (∀ (i:Nat) (f:Field),fs[i]? = some f→DataW.trod enc P w 0 (fun _=>true) true fuel f.type ((cs.drop f.offset).take (P.cellsOf f.type)) = xs[i]?)→xs.length = fs.length →
    ∃ x:ty.den,Rd w (fun _=>True) ty (cs.drop off) x∧ty.wfb x = true:=by
   intro fuel cs fs
   induction fs with
   | nil=>intro ty off xs h; cases ty <;> cases h
   | cons f fs ihf =>
    intro ty off xs h hlen hx hxl
    cases fs with
    | nil =>
     simp only [zdm,Bool.and_eq_true] at h
     obtain ⟨e1,e2,e3⟩:=h
     have e1:=Nat.eq_of_beq_eq_true e1
     have e2:=Nat.eq_of_beq_eq_true e2
     have h0:=hx 0 f rfl
     rw [e1,e2,List.take_of_length_le (by rw [List.length_drop]; omega)] at h0
     obtain ⟨⟨d,ps⟩,hd⟩:∃ y,xs[0]? = some y:=⟨xs[0]'(by rw [hxl]; simp),List.getElem?_eq_getElem _⟩
     rw [hd] at h0
     exact ih e3 h0
    | cons g fs =>
     cases ty with
     | pair a b =>
      simp only [zdm,Bool.and_eq_true] at h
      obtain ⟨⟨e1,e2,e3⟩,e4⟩:=h
      have e1:=Nat.eq_of_beq_eq_true e1
      have e2:=Nat.eq_of_beq_eq_true e2
      have hlen:cs.length = off + (a.nc + b.nc):=hlen
      have h0:=hx 0 f rfl
      rw [e1,e2] at h0
      obtain ⟨⟨d,ps⟩,hd⟩:∃ y,xs[0]? = some y:=⟨xs[0]'(by rw [hxl]; simp),List.getElem?_eq_getElem _⟩
      rw [hd] at h0
      obtain ⟨x1,r1,w1⟩:=ih e3 h0
      cases xs with
      | nil=>simp at hxl
      | cons x0 xs =>
       obtain ⟨x2,r2,w2⟩:=ihf (ty:=b) (off:=off + a.nc) xs e4 (by omega) (fun i f hf=>by simpa using hx (i + 1) f (by simpa using hf)) (by simpa using hxl)
       refine ⟨(x1,x2),⟨(cs.drop off).take a.nc,cs.drop (off + a.nc), ?_,r1,r2⟩,by simp [Ty.wfb,w1,w2]⟩
       rw [← List.drop_drop,List.take_append_drop]
     | _=>cases h
  intro fuel t ty cs d ps hok htr
  unfold tyOk at hok
  split at hok
  ·rename_i hu
   obtain ⟨b,rfl,_⟩:=DataW.trod_bool hu htr
   exact ⟨b,rfl,rfl⟩
  ·rename_i k k' hu
   obtain rfl:=zh9 hok
   obtain ⟨m,rfl,_,hw⟩:=DataW.trod_int hu htr
   exact ⟨m,rfl,hw⟩
  ·rename_i hu
   obtain ⟨s,rfl,_,hs⟩:=DataW.trod_string hu htr
   exact ⟨s,rfl,by simp [Ty.wfb,hs]⟩
  ·rename_i e e' ty' hu
   simp only [Bool.and_eq_true] at hok
   obtain ⟨e1,e2,e3⟩:=hok
   obtain rfl:=Nat.eq_of_beq_eq_true e1
   have e2:=Nat.eq_of_beq_eq_true e2
   rcases DataW.trod_slice hu htr with ⟨rfl,_⟩ | ⟨a,len,cap,elems,rest,m,_,rfl,_,_,h1,h2,h3,h4,_⟩
   ·exact ⟨[],⟨none,0,0,rfl,rfl,Nat.le_refl _,Nat.zero_le _,.inl rfl⟩,rfl⟩
   ·obtain ⟨css,xs,k1,k2,k3⟩:=y6i (Q:=fun i c (x:ty'.den)=>w.cells? 0 (a.add (i * ty'.nc)) ty'.nc = some c∧Rd w (fun _=>True) ty' c x∧ty'.wfb x = true) len (fun i hi=>by
     have:=h4 i hi
     rw [e2] at this
     obtain ⟨⟨d,ps⟩,hd⟩:∃ y,elems[i]? = some y:=⟨elems[i]'(by omega),List.getElem?_eq_getElem _⟩
     rw [hd] at this
     obtain ⟨c,hc,hc2⟩:=Option.bind_eq_some_iff.1 this
     obtain ⟨x,hx1,hx2⟩:=ih e3 hc2
     exact ⟨c,x,hc,hx1,hx2⟩)
    have hall:z1u (fun c (x:ty'.den)=>Rd w (fun _=>True) ty' c x) css xs:=y6p (by omega) fun i c x hc hx=>(k3 i c x hc hx).2.1
    refine ⟨xs,⟨some a,len,cap,rfl,k2,h1,h2,.inr ⟨a,css,rfl,trivial,hall,fun k u hk=>?_⟩⟩, ?_⟩
    ·obtain ⟨i,j,c,i1,rfl,i3,i4⟩:=ztm ty'.nc_pos (hall.fst (len:=List.length) fun c x h=>h.len) hk
     obtain ⟨x,hx⟩:∃ x,xs[i]? = some x:=⟨xs[i]'(by omega),List.getElem?_eq_getElem _⟩
     obtain ⟨q1,q2,_⟩:=k3 i c x i3 hx
     obtain ⟨_,q3,q4⟩:=World.cells?_some q1
     have hj:j < ty'.nc:=by rw [← q3]; exact (List.getElem?_eq_some_iff.1 i4).1
     rw [← zip,q4 j hj]
     exact i4
    ·simp only [Ty.wfb,List.all_eq_true]
     intro x hx
     obtain ⟨i,hi,rfl⟩:=List.getElem_of_mem hx
     exact (k3 i (css[i]'(by omega)) xs[i] (List.getElem?_eq_getElem _) (List.getElem?_eq_getElem _)).2.2
  ·rename_i ty fs hu
   simp only [Bool.and_eq_true] at hok
   obtain ⟨e1,e2⟩:=hok
   have e1:=Nat.eq_of_beq_eq_true e1
   obtain ⟨xs,m,_,_,h1,h2,h3⟩:=DataW.trod_struct hu htr
   have:=fields (fuel:=m) fs.toList xs e2 (by omega) (fun i f hf=>h3 i f (by simpa using hf)) (by simpa using h2)
   simpa using this
  ·cases hok
def zqe (P:Program) (t:Nat):Bool:=match P.underlying t with
 | some (.struct _)=>true
 | _=>false
def parOk (P:Program):List Nat→List PT→Bool
 | [],[]=>true
 | t :: ts,p :: ps=>(!p.io && (tyOk P 20 t p.t && zqe P t == p.agg)) && parOk P ts ps
 | _,_=>false
def datW:(ps:List PT)→Dat ps→Bool
 | [],_=>true
 | p :: ps,X=>p.t.wfb X.1 && datW ps X.2
open Go.WideShapes in
theorem y6n {base:Nat}:∀ {ts:List Nat} {ps:List PT} {vs:List Value} {ds:List (DataW H)} {pl:List MemPlace},parOk P ts ps = true→(∀ (j:Nat) t v,ts[j]? = some t→vs[j]? = some v→Value.okWide P w .any base t v) →
  DataW.TrodAll enc P w 0 (fun _=>true) true ts vs ds pl→∃ X:Dat ps,z63 w [] ps vs X∧datW ps X = true
 | [],[],[],_,_,_,_,_=>⟨(),trivial,rfl⟩
 | t :: ts,p :: ps,v :: vs,[],_,_,_,hd=>hd.elim
 | t :: ts,p :: ps,v :: vs,d :: ds,pl,hp,hv,hd=>by
  obtain ⟨p1,p2,⟨fuel,h1⟩,h2,_⟩:=hd
  simp only [parOk,Bool.and_eq_true,Bool.not_eq_true'] at hp
  obtain ⟨⟨hio,hty,hag⟩,hps⟩:=hp
  obtain ⟨X,x1,x2⟩:=y6n hps (fun j t v ht hv'=>hv (j + 1) t v (by simpa using ht) (by simpa using hv')) h2
  obtain ⟨x,r1,r2⟩:=trod_rd 20 hty h1
  have hw:=hv 0 t v rfl rfl
  have hag:zqe P t = p.agg:=by simpa using hag
  refine ⟨(x,X),⟨⟨v.cells.toList, ?_, ?_⟩,x1⟩,by simp [datW,r2,x2]⟩
  ·rw [← hag]
   unfold zqe
   have hty':=hty
   unfold tyOk at hty'
   split at hty'
   ·rename_i hu _
    obtain ⟨b,rfl⟩:=okWide_bool hu hw
    rw [hu]; rfl
   ·rename_i hu _
    obtain ⟨b,rfl⟩:=okWide_int hu hw
    rw [hu]; rfl
   ·rename_i hu _
    obtain ⟨b,rfl⟩:=okWide_string hu hw
    rw [hu]; rfl
   ·rename_i hu _
    obtain ⟨a,l,c,rfl⟩:=okWide_slice hu hw
    rw [hu]; rfl
   ·rename_i hu
    obtain ⟨cs,rfl,_⟩:=okWide_struct hu hw
    rw [hu]; exact ⟨cs,rfl,rfl⟩
   ·cases hty'
  ·rw [hio]
   exact r1.mono fun k _ hk=>by cases hk
 | [],_ :: _,_,_,_,h,_,_=>by cases h
 | _ :: _,[],_,_,_,h,_,_=>by cases h
 | [],[],_ :: _,[],_,_,_,h=>h.elim
 | [],[],_ :: _,_ :: _,_,_,_,h=>h.elim
 | _ :: _,_ :: _,[],[],_,_,_,h=>h.elim
 | _ :: _,_ :: _,[],_ :: _,_,_,_,h=>h.elim
theorem zd1 (hl:laidOutB P = true) {w':World} (hb:Below w.heap.size w w'):∀ {ts:List Nat} {vs:List Value} {ds:List (DataW H)} {pl:List MemPlace},(ts.all fun t=>P.readableRec t && decide (t < P.types.size)) = true →
  DataW.TrodAll enc P w 0 (fun _=>true) true ts vs ds pl→(∀ p ∈ pl,p.block < w.heap.size)→DataW.TrodAll enc P w' 0 (fun b=>decide (b < w.heap.size)) true ts vs ds pl
 | [],[],[],_,_,h,_=>h
 | t :: ts,v :: vs,d :: ds,pl,hr,h,hlt=>by
  obtain ⟨p,q,h1,h2,rfl⟩:=h
  simp only [List.all_cons,Bool.and_eq_true,decide_eq_true_eq] at hr
  exact ⟨p,q,Below.trod hl hr.1.1 hr.1.2 h1 hb fun x hx=>hlt x (List.mem_append_left _ hx),zd1 hl hb hr.2 h2 fun x hx=>hlt x (List.mem_append_right _ hx),rfl⟩
 | [],[],_ :: _,_,_,h,_=>h.elim
 | [],_ :: _,[],_,_,h,_=>h.elim
 | [],_ :: _,_ :: _,_,_,h,_=>h.elim
 | _ :: _,[],[],_,_,h,_=>h.elim
 | _ :: _,[],_ :: _,_,_,h,_=>h.elim
 | _ :: _,_ :: _,[],_,_,h,_=>h.elim
theorem zqd {ts:List Nat}:∀ {vs:List Value} {ds:List (DataW H)} {pl:List MemPlace} {base:Nat} {sp:Nat→Bool} {held:Bool},DataW.TrodAll enc P w base sp held ts vs ds pl→ds.length = ts.length:=by
 intro vs ds pl base sp held h
 exact (trodAll_length h).2
theorem zwj [Inv P] {f : Nat} {fn : Func} {ps : List PT} {pre : Option (Dat ps → Bool)} {val : Dat ps → IoT ps × Dat [⟨.bool, false, false⟩]} (hE : z0r P f ⟨⟨ps, [⟨.bool, false, false⟩]⟩, pre, val⟩) (hf : P.funcs[f]? = some fn) (hb : fn.body.isSome = true) (hname : (fn.name == "runtime.NumGoroutine") = false)
  (hno:za8 ps = true) (hval:∀ X,(val X).2 = (true,())) {args:Array Value} {X:Dat ps} (hX:z63 w [] ps args.toList X) (hp:z64 pre X = true) (hI:Inv.I P w) :
  Calls P f args w fun e w'=>e = .returned (.bool true)∧Below w.heap.size w w':=by
 have hG:(z2v.G ⟨⟨ps,[⟨.bool,false,false⟩]⟩,pre,val⟩ X) = some (val X):=by
  show cond (z64 pre X) (some (val X)) none = _
  rw [hp]; rfl
 rcases hE w args [] X (val X).1 (val X).2 hX (fun _=>rfl) List.nodup_nil (fun k hk=>by cases hk) hG hI (fun k hk=>by cases hk) with ⟨_,h⟩ | ⟨v,w',h,_⟩
 ·refine h.mono ?_
  rintro e w' ⟨v,vs,L',Lr,rfl,A⟩
  have hr:=A.res
  rw [hval X] at hr
  have hret:=A.ret
  cases vs with
  | nil=>exact hr.elim
  | cons u us=>cases us with
   | cons _ _ =>
    obtain ⟨_,_,_,_,_,_,_,h⟩:=hr
    exact h.elim
   | nil =>
    obtain ⟨cs,L1,L2,_,hc,ho,_,_⟩:=hr
    obtain rfl:cs = [u]:=hc
    obtain ⟨e1,_⟩:=ho
    injection e1 with e1
    subst e1
    obtain rfl:v = .bool true:=hret
    exact ⟨rfl,A.os,A.tape,A.output,A.size,fun k hk=>A.old k hk (by simp)⟩
 ·exfalso
  have h1 : ¬ fn.name = "runtime.NumGoroutine" := by simpa using hname
  have h2:¬ fn.body = none:=fun e=>by rw [e] at hb; cases hb
  simp [callFunc,hf,h1,h2] at h
theorem row_true [Inv P] {f : Nat} {fn : Func} {ps : List PT} {pre : Option (Dat ps → Bool)} {val : Dat ps → IoT ps × Dat [⟨.bool, false, false⟩]} (hE : z0r P f ⟨⟨ps, [⟨.bool, false, false⟩]⟩, pre, val⟩) (hf : P.funcs[f]? = some fn) (hb : fn.body.isSome = true) (hname : (fn.name == "runtime.NumGoroutine") = false)
  (hno:za8 ps = true) (hval:∀ X,(val X).2 = (true,())) (hpre:∀ X,datW ps X = true→z64 pre X = true) (hpar:parOk P fn.params.toList ps = true) (hl:laidOutB P = true) (hrd:(fn.params.toList.all fun t=>P.readableRec t && decide (t < P.types.size)) = true)
  {bt:Nat} (hres:fn.resultTypes = #[bt]) (hbt:P.underlying bt = some .bool) {s:ChangeSpec} (hsv:s.vars = []) (hsf:∀ (H:Type) (ds:List (DataW H)),ds.length = fn.params.toList.length→s.fn H ds = { results:=[.lit (.bool true)],args:=ds })
  (W:World) (base:Nat) (args:Array Value) (ds gs:List (DataW H)) (z8a:List MemPlace) (hval0:∀ (j:Nat) t v,fn.params[j]? = some t→args[j]? = some v→Value.okWide P W .any base t v)
  (hW:DataW.Whole enc P fn.params.toList s.vars false W args.toList ds gs z8a) (hI:Inv.I P W) :
  Calls P f args W fun e W'=>∃ v,e = .returned v∧s.post enc P fn false true false false W args v W':=by
 obtain ⟨p,q,hA,hV,hbf,hfz,hnd⟩:=id hW
 have hgs:gs = []∧q = []:=by
  rw [hsv] at hV
  cases gs with
  | nil=>exact ⟨rfl,hV⟩
  | cons _ _=>exact hV.elim
 obtain ⟨rfl,rfl⟩:=hgs
 obtain ⟨X,hX,hXw⟩:=y6n hpar (fun j t v ht hv=>hval0 j t v (by simpa using ht) (by simpa using hv)) hA
 refine (zwj hE hf hb hname hno hval hX (hpre X hXw) hI).mono ?_
 rintro e W' ⟨rfl,bel⟩
 have hfn:=hsf H (ds ++ []) (by rw [List.append_nil]; exact zqd hA)
 refine ⟨_,rfl,ds,[],z8a,[],p,[],hW, ?_, ?_, ?_,bel.frame _,fun h=>by cases h⟩
 ·rw [hfn,hres]
  exact ChangeShapes.trodAll_mk1 (shut_bool hbt _)
 ·rw [hfn]
  simp only [List.append_nil]
  exact zd1 hl bel hrd hA hA.lt
 ·rw [hfn,hsv]
  rfl
end
end Go.Fw
