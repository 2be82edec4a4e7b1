/- The framework: functions of the library that are met by their contracts. Nothing is assumed. -/
import Derived.Test.YtkjnhmjfdfiklaaGreatDoorFwd
import Derived.Shelf.Strconv.Itoa3
import Derived.Shelf.Strings.OnBuilder
import Derived.Lib.LaidTab
import Derived.Lib.LaidU8
import Derived.Lay
import Derived.Handed
import Derived.Shelf.Vars
import Derived.Shelf.Strings.SplitShaped
import Derived.Shelf.Strconv.AtoiAll
set_option linter.defProp false
set_option linter.unusedVariables false
set_option linter.unusedSimpArgs false
namespace Go.Fw
open Go.RowKit Go.Proofs Go.Shelf Go.Sort
def zqb{P:Program}{w w':World}{name:String}{g:Nat}(hg:P.globalNamed name=some g)(h:w'.heap[g]? = w.heap[g]?):w'.var? P name=w.var? P name:=by
 unfold World.var?
 rw[hg]
 simp only[Option.bind_some,h]
def zmt{P:Program}{w:World}{name:String}{cs:Array Value}(h:w.var? P name=some cs):∃g,P.globalNamed name=some g/\g<w.heap.size:=by
 unfold World.var? at h
 obtain⟨g,h1,h2⟩:=Option.bind_eq_some_iff.1 h
 refine⟨g,h1, ?_⟩
 split at h2
 ·rename_i hg
  exact(Array.getElem?_eq_some_iff.1 hg).1
 ·cases h2
def TabsI(P:Program)(l:List (String×IntKind×List Int))(q:List (String×IntKind))(es:List String)(w:World):Prop :=
 (∀p∈l,Lib.TabIs P w p.1 p.2.1 p.2.2)/\(∀p∈q,∃g,P.globalNamed p.1=some g/\∃m,w.cell? ⟨g,0,none⟩=some (.int p.2 m)) /\
  ∀p∈es,∃g,P.globalNamed p=some g/\∃v b,w.cell? ⟨g,0,none⟩=some v/\zib v b
@[reducible] def Inv.tabs(P:Program)(l:List (String×IntKind×List Int))(q:List (String×IntKind))(es:List String):Inv P where
 I:=TabsI P l q es
 B k:=(∃p∈l,P.globalNamed p.1=some k)\/(∃p∈q,P.globalNamed p.1=some k)\/∃p∈es,P.globalNamed p=some k
 keep w w' h hI:=by
  refine⟨λp hp=>?_,λp hp=>?_,λp hp=>?_⟩
  ·have:=hI.1 p hp
   obtain⟨g,h1,h2⟩:=zmt this
   show w'.var? P p.1=_
   rw[zqb h1 (h g (.inl ⟨p,hp,h1⟩))]
   exact this
  ·obtain⟨g,h1,m,h2⟩:=hI.2.1 p hp
   refine⟨g,h1,m, ?_⟩
   rw[World.cell?_of_block (w:=w) (h g (.inr (.inl ⟨p,hp,h1⟩)))]
   exact h2
  ·obtain⟨g,h1,v,b,h2,h3⟩:=hI.2.2 p hp
   refine⟨g,h1,v,b, ?_,h3⟩
   rw[World.cell?_of_block (w:=w) (h g (.inr (.inr ⟨p,hp,h1⟩)))]
   exact h2
 lt w k hI hk:=by
  rcases hk with⟨p,hp,hk⟩ | ⟨p,hp,hk⟩ | ⟨p,hp,hk⟩
  ·obtain⟨g,h1,h2⟩:=zmt (hI.1 p hp)
   rw[hk]at h1
   injection h1 with h1
   omega
  ·obtain⟨g,h1,m,h2⟩:=hI.2.1 p hp
   rw[hk]at h1
   injection h1 with h1
   subst h1
   exact World.block_lt_of_cell? _ _ h2
  ·obtain⟨g,h1,v,b,h2,h3⟩:=hI.2.2 p hp
   rw[hk]at h1
   injection h1 with h1
   subst h1
   exact World.block_lt_of_cell? _ _ h2
section
variable {P : Program} {l : List (String × IntKind × List Int)} {q : List (String × IntKind)} {es : List String}
theorem Inv.tab_mem(p:String×IntKind×List Int)(hp:p∈l)(w:World)(h:(Inv.tabs P l q es).I w):Lib.TabIs P w p.1 p.2.1 p.2.2:=h.1 p hp
theorem Inv.int_mem(p:String×IntKind)(hp:p∈q)(w:World)(h:(Inv.tabs P l q es).I w):∃g,P.globalNamed p.1=some g/\∃m,w.cell? ⟨g,0,none⟩=some (.int p.2 m):=h.2.1 p hp
theorem Inv.err_mem(p:String)(hp:p∈es)(w:World)(h:(Inv.tabs P l q es).I w):∃g,P.globalNamed p=some g/\∃v b,w.cell? ⟨g,0,none⟩=some v/\zib v b:=h.2.2 p hp
end
def zii{P:Program}{w:World}{name:String}{k:IntKind}{zs:List Int}{g:Nat}{t e:TypeId}{n:Nat}{l:List (String×DataW Unit)}(h:laidMet P l w)(hm:(name,Lib.tabData k zs)∈l)
  (hg:P.globalNamed name=some g) (hty:(P.globals[g]?).map (·.type)=some t) (ht:P.underlying t=some (.array n e)) (he:P.underlying e=some (.int k)) (hce:P.cellsOf e=1) (hct:P.cellsOf t=n):Lib.TabIs P w name k zs:=by
 obtain⟨g',t',cs,fuel,p,h1,h2,h3,h4⟩:=Lib.laidMet.reads h hm
 obtain rfl:=Option.some.inj (hg.symm.trans h1)
 obtain rfl:=Option.some.inj (hty.symm.trans h2)
 unfold Lib.TabIs
 rw[h3,<-Lib.cells_of_tab ht he hce hct h4]
def zkf{P:Program}{w:World}{name nm:String}{d:DataW Unit}{g:Nat}{t:TypeId}{ms:Array (String×TypeId)}{l:List (String×DataW Unit)}(h:laidMet P l w)(hm:(name,.iface nm d)∈l)
  (hg:P.globalNamed name=some g) (hty:(P.globals[g]?).map (·.type)=some t) (hi:P.underlying t=some (.interface ms)):∃g,P.globalNamed name=some g/\∃v b,w.cell? ⟨g,0,none⟩=some v/\zib v b:=by
 obtain⟨g',t',cs,fuel,p,h1,h2,h3,h4⟩:=Lib.laidMet.reads h hm
 obtain rfl:=Option.some.inj (hg.symm.trans h1)
 obtain rfl:=Option.some.inj (hty.symm.trans h2)
 obtain⟨_,u,v,hcs,_,_⟩:=iface_of_trod hi h4
 have h0:=World.var?_cell hg h3 0
 refine⟨g,hg,.iface u v,true, ?_,.inr ⟨u,v,rfl,rfl⟩⟩
 rw[h0,<-Array.getElem?_toList,hcs]
 rfl
def zci{P:Program}{w:World}{name:String}{D:DataW Unit}{g:Nat}{t:TypeId}{ms:Array (String×TypeId)}{l:List (String×DataW Unit)}(h:laidMet P l w)(hm:(name,D)∈l)(hD:∃nm d,D=.iface nm d)
  (hg:P.globalNamed name=some g) (hty:(P.globals[g]?).map (·.type)=some t) (hi:P.underlying t=some (.interface ms)):∃g,P.globalNamed name=some g/\∃v b,w.cell? ⟨g,0,none⟩=some v/\zib v b:=by
 obtain⟨nm,d,rfl⟩:=hD
 exact zkf h hm hg hty hi
section
variable {P : Program} {ρ : Ren} [Inv P]
theorem itoa_ok (hI : ∀ w, Inv.I P w → Lib.TabIs P w "internal/strconv.uint64pow10" .u64 Lib.pow10Tab) (L : LaysM.n171 P ρ) : z0l P (ρ.f 171) ⟨⟨[⟨.int .i64, false, false⟩], [⟨.str, false, false⟩]⟩, some fun X => zf0 X.1, fun X => ((), (⟨(Lib.itoa X.1).toArray⟩, ()))⟩ := by
 intro w args LL X y Y ha hno hnd hlt hG hIw hB
 obtain⟨args⟩:=args
 obtain⟨n,u⟩:=X
 have hL:LL=[]:=hno rfl
 subst hL
 have hG':cond (zf0 n) (some ((),((⟨(Lib.itoa n).toArray⟩:ByteArray),()))) none=some (y,Y):=hG
 cases hp:zf0 n
 ·rw[hp]at hG';cases hG'
 rw[hp]at hG'
 simp only[cond_true,Option.some.injEq,Prod.mk.injEq]at hG'
 obtain⟨rfl,rfl⟩:=hG'
 simp only[zf0,Bool.and_eq_true,decide_eq_true_eq]at hp
 match args,ha with
 | [],ha=>exact ha.elim
 | _::_::_,ha=>exact ha.2.elim
 | [v],ha =>
  obtain⟨⟨cs,h1,h2⟩,_⟩:=ha
  have h1:cs=[v]:=h1
  subst h1
  have h2:[v]=[Value.int .i64 n]:=h2
  simp only[List.cons.injEq,and_true]at h2
  subst h2
  refine .inl ⟨by simp[callFunc,L.f171,Body.n171],(Any.strconv_Itoa L n hp.1 hp.2 w (hI w hIw)).mono ?_⟩
  rintro e w' ⟨rfl,k,os,rfl⟩
  refine⟨_,[.string ⟨(Lib.itoa n).toArray⟩],[],[],rfl,rfl,⟨_,[],[],rfl,rfl,⟨rfl,rfl⟩,trivial,rfl⟩,rfl,List.nodup_nil,(λk hk=>by cases hk),(λk hk=>by cases hk),rfl,rfl,rfl, ?_,λk' hk _=>?_⟩
  ·rw[size_grow]
   exact Nat.le_add_right _ _
  ·show(w.heap++os)[k']? = _
   rw[Array.getElem?_append_left hk]
variable {H : Type} {enc : TypeId × Value → H} in
def returnsInHanded_and_shaped{a:Assume}{C:Checked}{os:Os}{f:FuncId}{fn:Func}{s:ChangeSpec}{conds:List PathCond}{apart fresh handsOn again:Bool}{X:World->Array Value->Prop}
  (hX:∀(w w':World) (args:Array Value),w.heap=w'.heap->X w args->X w' args)
  (own:ownKnob C.prog.godebug=none) (started:os.Started) (noInit:C.prog.inits.idxOf? f=none) (hfn:C.prog.funcs[f]? = some fn)
  (witness:∃(w:World) (tape:Tape) (i:Input),w.os=os/\(w.forCall tape i).Shaped C.prog/\i.vars=[]/\Input.okWide C.prog (w.forCall tape i) .any w.heap.size f i /\
   ((s.pre enc C.prog fn conds apart (w.forCall tape i).memory i.args/\X (w.forCall tape i).memory i.args)/\sizedMet enc C.prog fn (OpenSpec.ofChange s) apart (w.forCall tape i).memory i.args)/\a.holds C.prog (lone (Frame.enter C.prog f i.args .normal) [] (w.forCall tape i)))
  (contract:∀(W:World) (base:Nat) (args:Array Value) (ds gs:List (DataW H)) (z5e:List MemPlace),
   (∀(j:Nat) t v,fn.params[j]? = some t->args[j]? = some v->Value.okWide C.prog W .any base t v) ->
   DataW.Whole enc C.prog fn.params.toList s.vars apart W args.toList ds gs z5e->X W args->W.ShapedOpen C.prog ->
   Calls C.prog f args W λe W'=>∃v,e=.returned v/\s.post enc C.prog fn apart fresh handsOn again W args v W') :
  ReturnsInHanded a C os f .any (λw args=>(s.pre enc C.prog fn conds apart w args/\X w args)/\sizedMet enc C.prog fn (OpenSpec.ofChange s) apart w args) (s.post enc C.prog fn apart fresh handsOn again):=by
 refine returnsInHanded_of_calls own started noInit witness ?_
 intro w tape i _ hsh _ hok hpre hholds
 obtain⟨_,_,_,fn',hfn',_,_,_,_,hval⟩:=hok
 have e:fn'=fn:=Option.some.inj (hfn'.symm.trans hfn)
 subst e
 obtain⟨⟨⟨ds,gs,z5e,hw,hc⟩,hx⟩,hz⟩:=hpre
 have hw':=DataW.Whole.of_heap (w':=w.forCall tape i) (by rfl) hw
 refine(contract (w.forCall tape i) w.heap.size i.args ds gs z5e hval hw' (hX _ _ _ (by rfl) hx) hsh).mono λe W' ⟨v,he,hp⟩=>?_
 subst he
 exact ChangeSpec.post_blind hp
def joinP(xs:List ByteArray)(sep:ByteArray):Bool:=Nat.ble xs.length 140737488355328&&Nat.ble (Lib.join (xs.map (·.data.toList)) sep.data.toList).length 140737488355328
def rd_strs{w:World}{S:Nat->Prop}{e:Nat}{cs:List Value}{xs:List ByteArray}(h:Rd w S (.sl e .str) cs xs) :
  ∃(A:Option Addr) (c:Nat),cs=[.slice A xs.length c]/\xs.length<=c/\(xs=[]\/∃bk o,A=some ⟨bk,o,none⟩/\bk<w.heap.size/\∀(j:Nat) x,xs[j]? = some x->w.cell? ⟨bk,o+j,none⟩=some (.string x)):=by
 obtain⟨A,n,c,rfl,rfl,h1,h2,h3⟩:=h
 refine⟨A,c,rfl,h1, ?_⟩
 rcases h3 with h3 | ⟨ad,css,rfl,_,h4,h5⟩
 ·exact .inl (List.length_eq_zero_iff.1 h3)
 ·have hf:css.flatten=xs.map Value.string:=by
   clear h1 h2 h5
   induction css generalizing xs with
   | nil =>
    cases xs with
    | nil=>rfl
    | cons _ _=>exact h4.elim
   | cons c css ih =>
    cases xs with
    | nil=>exact h4.elim
    | cons x xs =>
     have hc:c=[Value.string x]:=h4.1
     rw[List.flatten_cons,hc,ih h4.2]
     rfl
  rw[hf]at h5
  cases xs with
  | nil=>exact .inl rfl
  | cons x xs =>
   right
   have h0:=h5 0 (.string x) rfl
   obtain⟨bk,o,sp⟩:=ad
   have hsp:sp=none:=by
    have e:(⟨bk,o,sp⟩:Addr).add 0=⟨bk,o,sp⟩:=by unfold Addr.add;simp
    rw[e]at h0
    unfold World.cell? at h0
    split at h0
    ·cases sp with
     | none=>rfl
     | some _=>simp at h0
    ·cases h0
   subst hsp
   refine⟨bk,o,rfl, ?_,λj y hj=>?_⟩
   ·have:=World.block_lt_of_cell? _ _ h0
    have e:((⟨bk,o,none⟩:Addr).add 0).block=bk:=by unfold Addr.add;simp
    rwa [e]at this
   ·have:=h5 j (.string y) (by rw[List.getElem?_map,hj];rfl)
    rwa [Addr.add_lit]at this
def join_ok(L:Lays.n156 P ρ)(E:Builder.Extra P ρ):z0l P (ρ.f 156) ⟨⟨[⟨.sl (ρ.t 9) .str,false,false⟩,⟨.str,false,false⟩],[⟨.str,false,false⟩]⟩,some λX=>joinP X.1 X.2.1,
  λX=>((),(⟨(Lib.join (X.1.map (·.data.toList)) X.2.1.data.toList).toArray⟩,()))⟩:=by
 intro w args LL X y Y ha hno hnd hlt hG hIw hB
 obtain⟨args⟩:=args
 obtain⟨xs,sep,u⟩:=X
 have hL:LL=[]:=hno rfl
 subst hL
 have hG':cond (joinP xs sep) (some ((),((⟨(Lib.join (xs.map (·.data.toList)) sep.data.toList).toArray⟩:ByteArray),()))) none=some (y,Y):=hG
 cases hp:joinP xs sep
 ·rw[hp]at hG';cases hG'
 rw[hp]at hG'
 simp only[cond_true,Option.some.injEq,Prod.mk.injEq]at hG'
 obtain⟨rfl,rfl⟩:=hG'
 simp only[joinP,Bool.and_eq_true]at hp
 have hp1:=Nat.le_of_ble_eq_true hp.1
 have hp2:=Nat.le_of_ble_eq_true hp.2
 match args,ha with
 | [],ha=>exact ha.elim
 | [_],ha=>exact ha.2.elim
 | _::_::_::_,ha=>exact ha.2.2.elim
 | [v1,v2],ha =>
  obtain⟨⟨cs,h1,h2⟩,⟨cs2,k1,k2⟩,_⟩:=ha
  have h1:cs=[v1]:=h1
  have k1:cs2=[v2]:=k1
  subst h1 k1
  have k2:[v2]=[Value.string sep]:=k2
  simp only[List.cons.injEq,and_true]at k2
  subst k2
  obtain⟨A,c,e1,hc,hor⟩:=rd_strs (show Rd w (λk=>k∉([]:List Nat)) (.sl (ρ.t 9) .str) [v1] xs from h2)
  simp only[List.cons.injEq,and_true]at e1
  subst e1
  refine .inl ⟨by simp[callFunc,L.f156,Body.n156], ?_⟩
  have fin:∀w',Below w.heap.size w w'->∃v vs L' Lr,Ending.returned (.string ⟨(Lib.join (xs.map (·.data.toList)) sep.data.toList).toArray⟩)=.returned v /\
    zut w ⟨[⟨.sl (ρ.t 9) .str,false,false⟩,⟨.str,false,false⟩],[⟨.str,false,false⟩]⟩ [.slice A xs.length c,.string sep] [] () (⟨(Lib.join (xs.map (·.data.toList)) sep.data.toList).toArray⟩,()) v w' vs L' Lr:=by
   intro w' hb
   generalize(⟨(Lib.join (xs.map (·.data.toList)) sep.data.toList).toArray⟩:ByteArray)=r
   exact⟨_,[.string r],[],[],rfl,rfl,⟨_,[],[],rfl,rfl,⟨rfl,rfl⟩,trivial,rfl⟩,rfl,List.nodup_nil,(λk hk=>by cases hk),(λk hk=>by cases hk),hb.os,hb.tape,hb.output,hb.size,λk' hk _=>hb.block k' hk⟩
  rcases hor with rfl | ⟨bk,o,rfl,hbk,hcells⟩
  ·refine(Any.strings_Join_none L E A c sep w).mono ?_
   rintro e w' ⟨rfl,rfl⟩
   exact fin _ (Below.refl _ _)
  ·refine(Any.strings_Join L E bk o c xs sep w hcells hbk hp1 hc hp2).mono ?_
   rintro e w' ⟨rfl,hb⟩
   exact fin _ hb
end
end Go.Fw
namespace Go.Fw
open Go.RowKit Go.Proofs Go.Shelf
def strs_own{w:World}{e:Nat}{v:Value}{xs:List ByteArray}(h:w.ownsRow 0 e 1 v xs.length (xs.map Value.string)):Own w (.sl e .str) v.ownBlock.toList [v] xs:=by
 refine⟨v,xs.map λx=>[Value.string x],xs.map λ_=>[],rfl, ?_, ?_, ?_⟩
 ·have:(xs.map λx=>[Value.string x]).flatten=xs.map Value.string:=by
   clear h
   induction xs with
   | nil=>rfl
   | cons x xs ih=>simp[ih]
  rw[this]
  exact h
 ·have:(xs.map λ_=>([]:List Nat)).flatten=[]:=by
   clear h
   induction xs with
   | nil=>rfl
   | cons x xs ih=>simp
  rw[this,List.append_nil]
 ·clear h
  induction xs with
  | nil=>trivial
  | cons x xs ih=>exact⟨⟨rfl,rfl⟩,ih⟩
noncomputable def zdi(s sep:ByteArray):List ByteArray:=Lib.splitB sep 0 (Lib.countB s sep) s
def zmw(s sep:ByteArray):Bool:=Nat.blt s.size 4294967281&&Nat.ble 1 sep.size
section
variable {P : Program} {ρ : Ren} [Inv P]
def split_ok(hI:∀w,Inv.I P w->∃m,w.cell? ⟨ρ.g 1,0,none⟩=some (.int .i64 m))(L:LaysM.n146 P ρ):z0l P (ρ.f 146) ⟨⟨[⟨.str,false,false⟩,⟨.str,false,false⟩],[⟨.sl (ρ.t 9) .str,false,false⟩]⟩,some λX=>zmw X.1 X.2.1,λX=>((),(zdi X.1 X.2.1,()))⟩:=by
 intro w args LL X y Y ha hno hnd hlt hG hIw hB
 obtain⟨args⟩:=args
 obtain⟨s,sep,u⟩:=X
 have hL:LL=[]:=hno rfl
 subst hL
 have hG':cond (zmw s sep) (some ((),(zdi s sep,()))) none=some (y,Y):=hG
 cases hp:zmw s sep
 ·rw[hp]at hG';cases hG'
 rw[hp]at hG'
 simp only[cond_true,Option.some.injEq,Prod.mk.injEq]at hG'
 obtain⟨rfl,rfl⟩:=hG'
 simp only[zmw,Bool.and_eq_true]at hp
 have hp1:s.size<4294967281:=Nat.le_of_ble_eq_true hp.1
 have hp2:1<=sep.size:=Nat.le_of_ble_eq_true hp.2
 match args,ha with
 | [],ha=>exact ha.elim
 | [_],ha=>exact ha.2.elim
 | _::_::_::_,ha=>exact ha.2.2.elim
 | [v1,v2],ha =>
  obtain⟨⟨cs,h1,h2⟩,⟨cs2,k1,k2⟩,_⟩:=ha
  have h1:cs=[v1]:=h1
  have k1:cs2=[v2]:=k1
  subst h1 k1
  have h2:[v1]=[Value.string s]:=h2
  have k2:[v2]=[Value.string sep]:=k2
  simp only[List.cons.injEq,and_true]at h2 k2
  subst h2 k2
  obtain⟨m,hm⟩:=hI w hIw
  refine .inl ⟨by simp[callFunc,L.f146,Body.n146],(Any.strings_Split { L with } L.i9 s sep m w hp1 hm hp2).mono ?_⟩
  rintro e w' ⟨rfl,rfl⟩
  have hlen:(zdi s sep).length=Lib.countB s sep+1:=Lib.splitB_all sep hp2 0 _ s rfl
  have hcl:=Lib.countB_le sep hp2 s.size s (Nat.le_refl _)
  have hown:=World.ownsRow_lit (base:=0) (e:=ρ.t 9) (size:=1) w ((zdi s sep).map Value.string).toArray (Lib.countB s sep+1) (Nat.zero_le _) (by simp only[maxLen];omega) (by simp[hlen])
  have hown2:(w.alloc (.cells ((zdi s sep).map Value.string).toArray (ρ.t 9))).ownsRow 0 (ρ.t 9) 1 (.slice (some ⟨w.heap.size,0,none⟩) (Lib.countB s sep+1) (Lib.countB s sep+1)) (zdi s sep).length ((zdi s sep).map Value.string):=by
   rw[hlen]
   exact hown
  refine⟨_,[.slice (some ⟨w.heap.size,0,none⟩) (Lib.countB s sep+1) (Lib.countB s sep+1)],[],[w.heap.size],rfl,rfl,⟨_,[w.heap.size],[],rfl,rfl,strs_own hown2,(λh=>by cases h),rfl⟩,rfl,by simp, ?_,(λk hk=>by cases hk),rfl,rfl,rfl, ?_,λk' hk _=>?_⟩
  ·intro k hk
   simp only[List.mem_singleton]at hk
   subst hk
   exact .inr (Nat.le_refl _)
  ·show w.heap.size<=(w.heap.push _).size
   simp
  ·exact heap_alloc_old w _ hk
end
end Go.Fw
namespace Go.Fw
open Go.RowKit Go.Proofs Go.Shelf
def zfa(s:ByteArray):Int×Bool:=match Lib.atoiAll s.data.toList with
 | .ok n=>(n,false)
 | .range=>(Lib.atoiSat s.data.toList,true)
 | _=>(0,true)
section
variable {P : Program} {ρ : Ren} [Inv P]
def atoi_ok(hI1:∀w,Inv.I P w->∃v b,w.cell? ⟨ρ.g 15,0,none⟩=some v/\zib v b)(hI2:∀w,Inv.I P w->∃v b,w.cell? ⟨ρ.g 16,0,none⟩=some v/\zib v b)(L:LaysC.n172 P ρ) :
  z0l P (ρ.f 172) ⟨⟨[⟨.str,false,false⟩],[⟨.int .i64,false,false⟩,⟨.err,false,false⟩]⟩,some λX=>decide (X.1.size<=1048576),λX=>((),((zfa X.1).1,((zfa X.1).2,())))⟩:=by
 intro w args LL X y Y ha hno hnd hlt hG hIw hB
 obtain⟨args⟩:=args
 obtain⟨s,u⟩:=X
 have hL:LL=[]:=hno rfl
 subst hL
 have hG':cond (decide (s.size<=1048576)) (some ((),((zfa s).1,((zfa s).2,())))) none=some (y,Y):=hG
 cases hp:decide (s.size<=1048576)
 ·rw[hp]at hG';cases hG'
 rw[hp]at hG'
 simp only[cond_true,Option.some.injEq,Prod.mk.injEq]at hG'
 obtain⟨rfl,rfl⟩:=hG'
 have hp:s.size<=1048576:=of_decide_eq_true hp
 match args,ha with
 | [],ha=>exact ha.elim
 | _::_::_,ha=>exact ha.2.elim
 | [v],ha =>
  obtain⟨⟨cs,h1,h2⟩,_⟩:=ha
  have h1:cs=[v]:=h1
  subst h1
  have h2:[v]=[Value.string s]:=h2
  simp only[List.cons.injEq,and_true]at h2
  subst h2
  refine .inl ⟨by simp[callFunc,L.f172,Body.n172], ?_⟩
  have fin:∀(w':World) (n:Int) (e:Value) (b:Bool),zib e b->zfa s=(n,b)->Below w.heap.size w w'->∃v vs L' Lr,Ending.returned (.tuple #[.int .i64 n,e])=.returned v /\
    zut w ⟨[⟨.str,false,false⟩],[⟨.int .i64,false,false⟩,⟨.err,false,false⟩]⟩ [.string s] [] () ((zfa s).1,((zfa s).2,())) v w' vs L' Lr:=by
   intro w' n e b he hv hb
   rw[hv]
   exact⟨_,[.int .i64 n,e],[],[],rfl,rfl,⟨_,[],[],rfl,rfl,⟨rfl,rfl⟩,trivial,⟨_,[],[],rfl,rfl,⟨⟨e,rfl,he⟩,rfl⟩,trivial,rfl⟩⟩,rfl,List.nodup_nil,(λk hk=>by cases hk),(λk hk=>by cases hk),hb.os,hb.tape,hb.output,hb.size,λk' hk _=>hb.block k' hk⟩
  cases hq:Lib.atoiAll s.data.toList with
  | ok n =>
   refine(Any.strconv_Atoi_ok L s (by omega) n hq w).mono ?_
   rintro e w' ⟨rfl,hw⟩
   refine fin w' n .nilIface false (.inl ⟨rfl,rfl⟩) (by unfold zfa;rw[hq]) ?_
   rcases hw with rfl | ⟨t,rfl⟩
   ·exact Below.refl _ _
   ·exact Lib.bytesWorld_below _ _ _
  | range =>
   obtain⟨ev,b,hv,he⟩:=hI2 w hIw
   refine(Any.strconv_Atoi_range L s (by omega) hq ev w hv (he.imp (λh=>h.1) λ⟨t,p,h,_⟩=>⟨t,p,h⟩)).mono ?_
   rintro e w' ⟨N,rfl,_,_,hb⟩
   exact fin w' _ _ true (.inr ⟨_,_,rfl,rfl⟩) (by unfold zfa;rw[hq]) hb
  | _ =>
   obtain⟨ev,b,hv,he⟩:=hI1 w hIw
   refine(Any.strconv_Atoi_syntax L s (by omega) hq ev w hv (he.imp (λh=>h.1) λ⟨t,p,h,_⟩=>⟨t,p,h⟩)).mono ?_
   rintro e w' ⟨N,rfl,_,_,hb⟩
   exact fin w' 0 _ true (.inr ⟨_,_,rfl,rfl⟩) (by unfold zfa;rw[hq]) hb
end
end Go.Fw
