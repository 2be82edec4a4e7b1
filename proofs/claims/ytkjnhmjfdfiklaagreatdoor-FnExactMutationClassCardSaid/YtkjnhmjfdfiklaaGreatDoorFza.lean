/- The framework: functions of the library that are met by their contracts. Nothing is assumed. -/
import Derived.Test.YtkjnhmjfdfiklaaGreatDoorFwd
import Derived.Shelf.Strconv.Itoa3
import Derived.Shelf.Strings.OnBuilder
import Derived.Lib.LaidTab
import Derived.Lib.LaidU8
import Derived.Lay
import Derived.Handed
import Derived.Shelf.Vars
import Derived.Test.YtkjnhmjfdfiklaaGreatDoorFwb
import Derived.Shelf.Spec.SlicesInsertGrow
import Derived.Shelf.SlSortCmp.WholeK
set_option linter.defProp false
set_option linter.unusedVariables false
set_option linter.unusedSectionVars false
set_option linter.unusedSimpArgs false
namespace Go.Fw
open Go.RowKit Go.Proofs Go.Shelf Go.Sort
def zq9{P:Program}{w w':World}{name:String}{g:Nat}(hg:P.globalNamed name=some g)(h:w'.heap[g]? = w.heap[g]?):w'.var? P name=w.var? P name:=by
 unfold World.var?
 rw[hg]
 simp only[Option.bind_some,h]
def zmm{P:Program}{w:World}{name:String}{cs:Array Value}(h:w.var? P name=some cs):∃g,P.globalNamed name=some g/\g<w.heap.size:=by
 unfold World.var? at h
 obtain⟨g,h1,h2⟩:=Option.bind_eq_some_iff.1 h
 refine⟨g,h1, ?_⟩
 split at h2
 ·rename_i hg
  exact(Array.getElem?_eq_some_iff.1 hg).1
 ·cases h2
def TabsI(P:Program)(l:List (String×IntKind×List Int))(q:List (String×IntKind))(es:List String)(w:World):Prop :=
 (∀p∈l,Lib.TabIs P w p.1 p.2.1 p.2.2)/\(∀p∈q,∃g,P.globalNamed p.1=some g/\∃m,w.cell? ⟨g,0,none⟩=some (.int p.2 m)) /\
  ∀p∈es,∃g,P.globalNamed p=some g/\∃v b,w.cell? ⟨g,0,none⟩=some v/\zq1 v b
@[reducible] def Inv.tabs(P:Program)(l:List (String×IntKind×List Int))(q:List (String×IntKind))(es:List String):Inv P where
 I:=TabsI P l q es
 B k:=(∃p∈l,P.globalNamed p.1=some k)\/(∃p∈q,P.globalNamed p.1=some k)\/∃p∈es,P.globalNamed p=some k
 keep w w' h hI:=by
  refine⟨λp hp=>?_,λp hp=>?_,λp hp=>?_⟩
  ·have:=hI.1 p hp
   obtain⟨g,h1,h2⟩:=zmm this
   show w'.var? P p.1=_
   rw[zq9 h1 (h g (.inl ⟨p,hp,h1⟩))]
   exact this
  ·obtain⟨g,h1,m,h2⟩:=hI.2.1 p hp
   refine⟨g,h1,m, ?_⟩
   rw[World.cell?_of_block (w:=w) (h g (.inr (.inl ⟨p,hp,h1⟩)))]
   exact h2
  ·obtain⟨g,h1,v,b,h2,h3⟩:=hI.2.2 p hp
   refine⟨g,h1,v,b, ?_,h3⟩
   rw[World.cell?_of_block (w:=w) (h g (.inr (.inr ⟨p,hp,h1⟩)))]
   exact h2
 lt w k hI hk:=by
  rcases hk with⟨p,hp,hk⟩ | ⟨p,hp,hk⟩ | ⟨p,hp,hk⟩
  ·obtain⟨g,h1,h2⟩:=zmm (hI.1 p hp)
   rw[hk]at h1
   injection h1 with h1
   omega
  ·obtain⟨g,h1,m,h2⟩:=hI.2.1 p hp
   rw[hk]at h1
   injection h1 with h1
   subst h1
   exact World.block_lt_of_cell? _ _ h2
  ·obtain⟨g,h1,v,b,h2,h3⟩:=hI.2.2 p hp
   rw[hk]at h1
   injection h1 with h1
   subst h1
   exact World.block_lt_of_cell? _ _ h2
section
variable {P : Program} {l : List (String × IntKind × List Int)} {q : List (String × IntKind)} {es : List String}
theorem Inv.tab_mem(p:String×IntKind×List Int)(hp:p∈l)(w:World)(h:(Inv.tabs P l q es).I w):Lib.TabIs P w p.1 p.2.1 p.2.2:=h.1 p hp
end
def zic{P:Program}{w:World}{name:String}{k:IntKind}{zs:List Int}{g:Nat}{t e:TypeId}{n:Nat}{l:List (String×DataW Unit)}(h:laidMet P l w)(hm:(name,Lib.tabData k zs)∈l)
  (hg:P.globalNamed name=some g) (hty:(P.globals[g]?).map (·.type)=some t) (ht:P.underlying t=some (.array n e)) (he:P.underlying e=some (.int k)) (hce:P.cellsOf e=1) (hct:P.cellsOf t=n):Lib.TabIs P w name k zs:=by
 obtain⟨g',t',cs,fuel,p,h1,h2,h3,h4⟩:=Lib.laidMet.reads h hm
 obtain rfl:=Option.some.inj (hg.symm.trans h1)
 obtain rfl:=Option.some.inj (hty.symm.trans h2)
 unfold Lib.TabIs
 rw[h3,<-Lib.cells_of_tab ht he hce hct h4]
section
variable {P : Program} {ρ : Ren} [Inv P]
theorem itoa_ok (hI : ∀ w, Inv.I P w → Lib.TabIs P w "internal/strconv.uint64pow10" .u64 Lib.pow10Tab) (L : LaysM.n171 P ρ) : z0a P (ρ.f 171) ⟨⟨[⟨.int .i64, false, false⟩], [⟨.str, false, false⟩]⟩, some fun X => zkx X.1, fun X => ((), (⟨(Lib.itoa X.1).toArray⟩, ()))⟩ := by
 intro w args LL X y Y ha hno hnd hlt hG hIw hB
 obtain⟨args⟩:=args
 obtain⟨n,u⟩:=X
 have hL:LL=[]:=hno rfl
 subst hL
 have hG':cond (zkx n) (some ((),((⟨(Lib.itoa n).toArray⟩:ByteArray),()))) none=some (y,Y):=hG
 cases hp:zkx n
 ·rw[hp]at hG';cases hG'
 rw[hp]at hG'
 simp only[cond_true,Option.some.injEq,Prod.mk.injEq]at hG'
 obtain⟨rfl,rfl⟩:=hG'
 simp only[zkx,Bool.and_eq_true,decide_eq_true_eq]at hp
 match args,ha with
 | [],ha=>exact ha.elim
 | _::_::_,ha=>exact ha.2.elim
 | [v],ha =>
  obtain⟨⟨cs,h1,h2⟩,_⟩:=ha
  have h1:cs=[v]:=h1
  subst h1
  have h2:[v]=[Value.int .i64 n]:=h2
  simp only[List.cons.injEq,and_true]at h2
  subst h2
  refine .inl ⟨by simp[callFunc,L.f171,Body.n171],(Any.strconv_Itoa L n hp.1 hp.2 w (hI w hIw)).mono ?_⟩
  rintro e w' ⟨rfl,k,os,rfl⟩
  refine⟨_,[.string ⟨(Lib.itoa n).toArray⟩],[],[],rfl,rfl,⟨_,[],[],rfl,rfl,⟨rfl,rfl⟩,trivial,rfl⟩,rfl,List.nodup_nil,(λk hk=>by cases hk),(λk hk=>by cases hk),rfl,⟨rfl,λd=>d.elim⟩,rfl, ?_,λk' hk _=>?_⟩
  ·rw[size_grow]
   exact Nat.le_add_right _ _
  ·show(w.heap++os)[k']? = _
   rw[Array.getElem?_append_left hk]
variable {H : Type} {enc : TypeId × Value → H} in
def returnsInHanded_and_shaped{a:Assume}{C:Checked}{os:Os}{f:FuncId}{fn:Func}{s:ChangeSpec}{conds:List PathCond}{apart fresh handsOn again:Bool}{X:World->Array Value->Prop}
  (hX:∀(w w':World) (args:Array Value),w.heap=w'.heap->X w args->X w' args)
  (own:ownKnob C.prog.godebug=none) (started:os.Started) (noInit:C.prog.inits.idxOf? f=none) (hfn:C.prog.funcs[f]? = some fn)
  (witness:∃(w:World) (tape:Tape) (i:Input),w.os=os/\(w.forCall tape i).Shaped C.prog/\i.vars=[]/\Input.okWide C.prog (w.forCall tape i) .any w.heap.size f i /\
   ((s.pre enc C.prog fn conds apart (w.forCall tape i).memory i.args/\X (w.forCall tape i).memory i.args)/\sizedMet enc C.prog fn (OpenSpec.ofChange s) apart (w.forCall tape i).memory i.args)/\a.holds C.prog (lone (Frame.enter C.prog f i.args .normal) [] (w.forCall tape i)))
  (contract:∀(W:World) (base:Nat) (args:Array Value) (ds gs:List (DataW H)) (z57:List MemPlace),
   (∀(j:Nat) t v,fn.params[j]? = some t->args[j]? = some v->Value.okWide C.prog W .any base t v) ->
   DataW.Whole enc C.prog fn.params.toList s.vars apart W args.toList ds gs z57->X W args->W.ShapedOpen C.prog ->
   Calls C.prog f args W λe W'=>∃v,e=.returned v/\s.post enc C.prog fn apart fresh handsOn again W args v W') :
  ReturnsInHanded a C os f .any (λw args=>(s.pre enc C.prog fn conds apart w args/\X w args)/\sizedMet enc C.prog fn (OpenSpec.ofChange s) apart w args) (s.post enc C.prog fn apart fresh handsOn again):=by
 refine returnsInHanded_of_calls own started noInit witness ?_
 intro w tape i _ hsh _ hok hpre hholds
 obtain⟨_,_,_,fn',hfn',_,_,_,_,hval⟩:=hok
 have e:fn'=fn:=Option.some.inj (hfn'.symm.trans hfn)
 subst e
 obtain⟨⟨⟨ds,gs,z57,hw,hc⟩,hx⟩,hz⟩:=hpre
 have hw':=DataW.Whole.of_heap (w':=w.forCall tape i) (by rfl) hw
 refine(contract (w.forCall tape i) w.heap.size i.args ds gs z57 hval hw' (hX _ _ _ (by rfl) hx) hsh).mono λe W' ⟨v,he,hp⟩=>?_
 subst he
 exact ChangeSpec.post_blind hp
def joinP(xs:List ByteArray)(sep:ByteArray):Bool:=Nat.ble xs.length 140737488355328&&Nat.ble (Lib.join (xs.map (·.data.toList)) sep.data.toList).length 140737488355328
def rd_strs{w:World}{S:Nat->Prop}{e:Nat}{cs:List Value}{xs:List ByteArray}(h:Rd w S (.sl e .str) cs xs) :
  ∃(A:Option Addr) (c:Nat),cs=[.slice A xs.length c]/\xs.length<=c/\(xs=[]\/∃bk o,A=some ⟨bk,o,none⟩/\bk<w.heap.size/\∀(j:Nat) x,xs[j]? = some x->w.cell? ⟨bk,o+j,none⟩=some (.string x)):=by
 obtain⟨A,n,c,rfl,rfl,h1,h2,h3⟩:=h
 refine⟨A,c,rfl,h1, ?_⟩
 rcases h3 with h3 | ⟨ad,css,rfl,_,h4,h5⟩
 ·exact .inl (List.length_eq_zero_iff.1 h3)
 ·have hf:css.flatten=xs.map Value.string:=by
   clear h1 h2 h5
   induction css generalizing xs with
   | nil =>
    cases xs with
    | nil=>rfl
    | cons _ _=>exact h4.elim
   | cons c css ih =>
    cases xs with
    | nil=>exact h4.elim
    | cons x xs =>
     have hc:c=[Value.string x]:=h4.1
     rw[List.flatten_cons,hc,ih h4.2]
     rfl
  rw[hf]at h5
  cases xs with
  | nil=>exact .inl rfl
  | cons x xs =>
   right
   have h0:=h5 0 (.string x) rfl
   obtain⟨bk,o,sp⟩:=ad
   have hsp:sp=none:=by
    have e:(⟨bk,o,sp⟩:Addr).add 0=⟨bk,o,sp⟩:=by unfold Addr.add;simp
    rw[e]at h0
    unfold World.cell? at h0
    split at h0
    ·cases sp with
     | none=>rfl
     | some _=>simp at h0
    ·cases h0
   subst hsp
   refine⟨bk,o,rfl, ?_,λj y hj=>?_⟩
   ·have:=World.block_lt_of_cell? _ _ h0
    have e:((⟨bk,o,none⟩:Addr).add 0).block=bk:=by unfold Addr.add;simp
    rwa [e]at this
   ·have:=h5 j (.string y) (by rw[List.getElem?_map,hj];rfl)
    rwa [Addr.add_lit]at this
def join_ok(L:Lays.n156 P ρ)(E:Builder.Extra P ρ):z0a P (ρ.f 156) ⟨⟨[⟨.sl (ρ.t 9) .str,false,false⟩,⟨.str,false,false⟩],[⟨.str,false,false⟩]⟩,some λX=>joinP X.1 X.2.1,
  λX=>((),(⟨(Lib.join (X.1.map (·.data.toList)) X.2.1.data.toList).toArray⟩,()))⟩:=by
 intro w args LL X y Y ha hno hnd hlt hG hIw hB
 obtain⟨args⟩:=args
 obtain⟨xs,sep,u⟩:=X
 have hL:LL=[]:=hno rfl
 subst hL
 have hG':cond (joinP xs sep) (some ((),((⟨(Lib.join (xs.map (·.data.toList)) sep.data.toList).toArray⟩:ByteArray),()))) none=some (y,Y):=hG
 cases hp:joinP xs sep
 ·rw[hp]at hG';cases hG'
 rw[hp]at hG'
 simp only[cond_true,Option.some.injEq,Prod.mk.injEq]at hG'
 obtain⟨rfl,rfl⟩:=hG'
 simp only[joinP,Bool.and_eq_true]at hp
 have hp1:=Nat.le_of_ble_eq_true hp.1
 have hp2:=Nat.le_of_ble_eq_true hp.2
 match args,ha with
 | [],ha=>exact ha.elim
 | [_],ha=>exact ha.2.elim
 | _::_::_::_,ha=>exact ha.2.2.elim
 | [v1,v2],ha =>
  obtain⟨⟨cs,h1,h2⟩,⟨cs2,k1,k2⟩,_⟩:=ha
  have h1:cs=[v1]:=h1
  have k1:cs2=[v2]:=k1
  subst h1 k1
  have k2:[v2]=[Value.string sep]:=k2
  simp only[List.cons.injEq,and_true]at k2
  subst k2
  obtain⟨A,c,e1,hc,hor⟩:=rd_strs (show Rd w (λk=>k∉([]:List Nat)) (.sl (ρ.t 9) .str) [v1] xs from h2)
  simp only[List.cons.injEq,and_true]at e1
  subst e1
  refine .inl ⟨by simp[callFunc,L.f156,Body.n156], ?_⟩
  have fin:∀w',Below w.heap.size w w'->∃v vs L' Lr,Ending.returned (.string ⟨(Lib.join (xs.map (·.data.toList)) sep.data.toList).toArray⟩)=.returned v /\
    zq2 w ⟨[⟨.sl (ρ.t 9) .str,false,false⟩,⟨.str,false,false⟩],[⟨.str,false,false⟩]⟩ [.slice A xs.length c,.string sep] [] () (⟨(Lib.join (xs.map (·.data.toList)) sep.data.toList).toArray⟩,()) v w' vs L' Lr:=by
   intro w' hb
   generalize(⟨(Lib.join (xs.map (·.data.toList)) sep.data.toList).toArray⟩:ByteArray)=r
   exact⟨_,[.string r],[],[],rfl,rfl,⟨_,[],[],rfl,rfl,⟨rfl,rfl⟩,trivial,rfl⟩,rfl,List.nodup_nil,(λk hk=>by cases hk),(λk hk=>by cases hk),hb.os,⟨hb.tape,λd=>d.elim⟩,hb.output,hb.size,λk' hk _=>hb.block k' hk⟩
  rcases hor with rfl | ⟨bk,o,rfl,hbk,hcells⟩
  ·refine(Any.strings_Join_none L E A c sep w).mono ?_
   rintro e w' ⟨rfl,rfl⟩
   exact fin _ (Below.refl _ _)
  ·refine(Any.strings_Join L E bk o c xs sep w hcells hbk hp1 hc hp2).mono ?_
   rintro e w' ⟨rfl,hb⟩
   exact fin _ hb
end
end Go.Fw
namespace Go.Fw
open Go.RowKit Go.Proofs Go.Shelf
def zn4{w:World}{e:Nat}{k:IntKind}{L:List Nat}{cs:List Value}{xs:List Int}(h:Own w (.sl e (.int k)) L cs xs) :
  ∃v,cs=[v]/\w.ownsRow 0 e 1 v xs.length (xs.map (Value.int k))/\L=v.ownBlock.toList:=by
 obtain⟨v,css,Ls,h1,h2,h3,h4⟩:=h
 have key:∀{Ls:List (List Nat)} {css:List (List Value)} {xs:List Int},z3r (λl c y=>Own w (.int k) l c y) Ls css xs->css.flatten=xs.map (Value.int k)/\Ls.flatten=[]:=by
  intro Ls
  induction Ls with
  | nil =>
   intro css xs h
   cases css<;>cases xs
   ·exact⟨rfl,rfl⟩
   all_goals exact h.elim
  | cons l Ls ih =>
   intro css xs h
   cases css<;>cases xs
   ·exact h.elim
   ·exact h.elim
   ·exact h.elim
   ·obtain⟨⟨rfl,rfl⟩,h⟩:=h
    obtain⟨i1,i2⟩:=ih h
    exact⟨by simp[i1],by simp[i2]⟩
 obtain⟨k1,k2⟩:=key h4
 rw[k1]at h2
 rw[k2,List.append_nil]at h3
 exact⟨v,h1,h2,h3⟩
def ints_own{w:World}{e:Nat}{k:IntKind}{v:Value}{xs:List Int}(h:w.ownsRow 0 e 1 v xs.length (xs.map (Value.int k))):Own w (.sl e (.int k)) v.ownBlock.toList [v] xs:=by
 refine⟨v,xs.map λx=>[Value.int k x],xs.map λ_=>[],rfl, ?_, ?_, ?_⟩
 ·have:(xs.map λx=>[Value.int k x]).flatten=xs.map (Value.int k):=by
   clear h
   induction xs with
   | nil=>rfl
   | cons x xs ih=>simp[ih]
  rw[this]
  exact h
 ·have:(xs.map λ_=>([]:List Nat)).flatten=[]:=by
   clear h
   induction xs with
   | nil=>rfl
   | cons x xs ih=>simp
  rw[this,List.append_nil]
 ·clear h
  induction xs with
  | nil=>trivial
  | cons x xs ih=>exact⟨⟨rfl,rfl⟩,ih⟩
def zok{α:Type}(A:List α)(o:Nat)(V:List α):List α:=A.take o++V++A.drop (o+V.length)
def zd6{α:Type}{p m t V:List α}{o:Nat}(hp:p.length=o)(hm:m.length=V.length):zok (p++(m++t)) o V=p++(V++t):=by
 unfold zok
 subst hp
 rw[List.take_left,List.drop_append,List.drop_of_length_le (by omega),List.append_assoc]
 congr 2
 rw[show p.length+V.length-p.length=V.length by omega,<-hm,List.drop_left]
 rfl
def z4q{g:Nat}:∀(vs:List Value) (o:Nat) (w:World) (k:Nat),k≠g->(w.setCells g o vs).heap[k]? = w.heap[k]?
 | [],_,_,_,_=>rfl
 | v::r,o,w,k,hk=>by
  rw[World.setCells,z4q r (o+1) _ k hk]
  exact heap_setCell_other w ⟨g,o,none⟩ k v hk
def z43(g:Nat):∀(vs:List Value) (o:Nat) (w:World),(w.setCells g o vs).os=w.os/\Tp w (w.setCells g o vs)/\(w.setCells g o vs).output=w.output/\(w.setCells g o vs).heap.size=w.heap.size
 | [],_,_=>⟨rfl,⟨rfl,λ_=>Nat.le_refl _⟩,rfl,rfl⟩
 | v::r,o,w=>by
  obtain⟨h1,⟨h2,h5⟩,h3,h4⟩:=z43 g r (o+1) (w.setCell ⟨g,o,none⟩ v)
  rw[World.setCells]
  exact⟨h1,⟨h2,h5⟩,h3,by rw[h4];simp[World.setCell]⟩
def z4p{g:Nat}{e:TypeId}:∀(vs:List Value) (o:Nat) (w:World) (cur:Array Value),w.heap[g]? = some (.cells cur e (0,0))->o+vs.length<=cur.size ->
  ∃cur':Array Value,(w.setCells g o vs).heap[g]? = some (.cells cur' e (0,0))/\cur'.size=cur.size/\cur'.toList=zok cur.toList o vs
 | [],o,w,cur,h,_=>⟨cur,h,rfl,by simp[zok]⟩
 | v::r,o,w,cur,h,hl=>by
  simp only[List.length_cons]at hl
  obtain⟨cur',h3,h4,h5⟩:=z4p r (o+1) (w.setCell ⟨g,o,none⟩ v) (cur.setIfInBounds o v) (heap_setCell_same w g o cur e v h) (by simp;omega)
  refine⟨cur',h3,by rw[h4];simp, ?_⟩
  have hlen:o<cur.toList.length:=by rw[Array.length_toList];omega
  rw[h5,Array.toList_setIfInBounds]
  have e1:cur.toList=cur.toList.take o++([cur.toList[o]]++cur.toList.drop (o+1)):=by
   rw[List.singleton_append,<-List.drop_eq_getElem_cons hlen,List.take_append_drop]
  have e2:cur.toList.set o v=cur.toList.take o++([v]++cur.toList.drop (o+1)):=by
   rw[List.set_eq_take_append_cons_drop,if_pos hlen]
   rfl
  rw[e2]
  unfold zok
  simp only[List.length_cons]
  have hp:(cur.toList.take o++[v]).length=o+1:=by simp;omega
  rw[<-List.append_assoc,List.take_left' hp,List.drop_append,List.drop_of_length_le (by omega),hp,show o+1+r.length-(o+1)=r.length by omega,List.drop_drop,
   show o+1+r.length=o+(r.length+1) by omega]
  simp
section
variable {P : Program} {ρ : Ren}
def ins_row{w:World}{e g n c:Nat}{cur:Array Value}{cs:List Value}(hb:w.heap[g]? = some (.cells cur e (0,0)))(hc:n<=c)(hcm:c<=maxLen)(hs:cur.size=c)(ht:cur.toList.take n=cs)(hn:cs.length=n):w.ownsRow 0 e 1 (.slice (some ⟨g,0,none⟩) n c) n cs :=
 ⟨by omega,.inr ⟨g,c,cur,rfl,Nat.zero_le _,hb,hc,hcm,by omega,by rw[Nat.mul_one];exact ht⟩⟩
def zmp{α:Type}{A cs V D:List α}{i n m:Nat}(hA:n+m<=A.length)(hi:i<=n)(h1:A.take i=cs.take i)(hcs:cs.length=n)(hV:V.length=m)(hD:D=cs.drop i) :
  (zok (zok A (i+m) D) i V).take (n+m)=cs.take i++V++D/\(zok (zok A i V) (i+m) D).take (n+m)=cs.take i++V++D:=by
 have hDl:D.length=n-i:=by rw[hD,List.length_drop,hcs]
 have hl1:(A.take i).length=i:=by rw[List.length_take];omega
 have e:A=A.take i++((A.drop i).take m++((A.drop (i+m)).take (n-i)++A.drop (n+m))):=by
  have e1:A.drop (n+m)=(A.drop (i+m)).drop (n-i):=by rw[List.drop_drop];congr 1;omega
  rw[e1,List.take_append_drop]
  have e2:A.drop (i+m)=(A.drop i).drop m:=by rw[List.drop_drop]
  rw[e2,List.take_append_drop,List.take_append_drop]
 have hl2:((A.drop i).take m).length=m:=by rw[List.length_take,List.length_drop];omega
 have hl3:((A.drop (i+m)).take (n-i)).length=n-i:=by rw[List.length_take,List.length_drop];omega
 have fin:∀X:List α,X=A.take i++(V++(D++A.drop (n+m)))->X.take (n+m)=cs.take i++V++D:=by
  intro X hX
  rw[hX,<-List.append_assoc,<-List.append_assoc,List.take_left' (by simp only[List.length_append,hl1,hV,hDl];omega),h1]
 generalize A.drop (n+m)=T at e fin
 generalize(A.drop i).take m=M at e hl2
 generalize(A.drop (i+m)).take (n-i)=N at e hl3
 generalize A.take i=Q at e fin hl1
 subst e
 constructor
 ·refine fin _ ?_
  have h:zok (Q++(M++(N++T))) (i+m) D=Q++(M++(D++T)):=by
   have:=zd6 (p:=Q++M) (m:=N) (t:=T) (V:=D) (o:=i+m) (by simp only[List.length_append,hl1,hl2]) (by omega)
   rw[<-List.append_assoc,this,List.append_assoc]
  rw[h,zd6 hl1 (by omega)]
 ·refine fin _ ?_
  rw[zd6 hl1 (by omega)]
  have:=zd6 (p:=Q++V) (m:=N) (t:=T) (V:=D) (o:=i+m) (by simp only[List.length_append,hl1,hV]) (by omega)
  rw[<-List.append_assoc,this,List.append_assoc]
def zrq[Inv P](L:Lays2.n21 P ρ):z3e P (ρ.f 21) ⟨none,[⟨.sl (ρ.t 3) (.int .i64),false,true⟩,⟨.int .i64,false,false⟩,⟨.sl (ρ.t 3) (.int .i64),false,true⟩],[⟨.sl (ρ.t 3) (.int .i64),false,false⟩],
  some λX=>insP X.2.1 X.2.2.1 X.2.2.2.1,λX=>((),(znc X.2.1 X.2.2.1 X.2.2.2.1,()))⟩:=by
 intro w args LL X ha hnd hlt hpre hI hBL
 obtain⟨args⟩:=args
 obtain⟨u,xs,i,ys,u'⟩:=X
 have hp:insP xs i ys=true:=hpre
 simp only[insP,Bool.and_eq_true,decide_eq_true_eq]at hp
 obtain⟨p1,p2,p3,p4⟩:=hp
 have p1:=Nat.le_of_ble_eq_true p1
 have p3:0<ys.length:=Nat.le_of_ble_eq_true p3
 have p4:xs.length+ys.length<1099511627776:=Nat.le_of_ble_eq_true p4
 match args,ha with
 | [],ha=>exact ha.elim
 | [_],ha =>
  obtain⟨_,_,_,_,_,_,ha⟩:=ha
  exact ha.elim
 | [_,_],ha =>
  obtain⟨_,_,_,_,_,_,_,_,_,_,_,_,ha⟩:=ha
  exact ha.elim
 | _::_::_::_::_,ha =>
  obtain⟨_,_,_,_,_,_,_,_,_,_,_,_,_,_,_,_,_,_,ha⟩:=ha
  exact ha.elim
 | [v1,v2,v3],ha =>
  obtain⟨c1,L1,L1',rfl,a1,a2,c2,L2,L2',rfl,b1,b2,c3,L3,L3',rfl,d1,d2,d3⟩:=ha
  have a1:c1=[v1]:=a1
  have b1:c2=[v2]:=b1
  have d1:c3=[v3]:=d1
  have d3:L3'=[]:=d3
  subst a1 b1 d1 d3
  obtain⟨v,e1,o1,l1⟩:=zn4 (show Own w (.sl (ρ.t 3) (.int .i64)) L1 [v1] xs from a2)
  obtain⟨v',e3,o3,l3⟩:=zn4 (show Own w (.sl (ρ.t 3) (.int .i64)) L3 [v3] ys from d2)
  simp only[List.cons.injEq,and_true]at e1 e3
  subst e1 e3
  obtain⟨rfl,hv2⟩:=(show L2=[]/\Rd w _ (.int .i64) [v2] i from b2)
  have hv2:v2=.int .i64 i:=by
   have:[v2]=[Value.int .i64 i]:=hv2
   simpa using this
  obtain⟨i,rfl⟩:=Int.eq_ofNat_of_zero_le p2
  simp only[Int.ofNat_eq_natCast,Int.toNat_natCast]at p1
  subst hv2
  obtain⟨_,⟨_,h0⟩ | ⟨g2,k2,cur2,rfl,_,hb2,hk2,hm2,hs2,ht2⟩⟩:=o3
  ·omega
  have q1:∀u∈xs.map (Value.int IntKind.i64),u.oneCell'=true:=λu hu=>by
   obtain⟨x,_,rfl⟩:=List.mem_map.1 hu
   rfl
  have q2:∀u∈ys.map (Value.int IntKind.i64),u.oneCell'=true:=λu hu=>by
   obtain⟨x,_,rfl⟩:=List.mem_map.1 hu
   rfl
  have hys:∀(j:Nat) (u:Value),(ys.map (Value.int IntKind.i64))[j]? = some u->w.cell? ⟨g2,0+j,none⟩=some u:=λj u hu=>by
   rw[Nat.zero_add,cell_of_row w g2 j cur2 _ (0,0) hb2]
   rw[<-ht2,List.getElem?_take]at hu
   split at hu
   ·simpa using hu
   ·cases hu
  have hmx:maxLen=9223372036854775807:=rfl
  have hwant:(znc xs (i:Nat) ys).length=xs.length+ys.length:=by
   simp only[znc,List.length_append,List.length_take,List.length_drop,Int.toNat_natCast]
   omega
  have hmap:(znc xs (i:Nat) ys).map (Value.int IntKind.i64)=(xs.map (Value.int IntKind.i64)).take i++ys.map (Value.int IntKind.i64)++(xs.map (Value.int IntKind.i64)).drop i:=by
   simp only[znc,Int.toNat_natCast,List.map_append,List.map_take,List.map_drop]
  refine .inl ⟨by simp[callFunc,L.f21,Body2.n21], ?_⟩
  have fin:∀(aa:List Value) (w':World) (g c:Nat) (cur:Array Value),w'.heap[g]? = some (.cells cur (ρ.t 3) (0,0))->xs.length+ys.length<=c->c<=maxLen->cur.size=c ->
    cur.toList.take (xs.length+ys.length)=(xs.map (Value.int IntKind.i64)).take i++ys.map (Value.int IntKind.i64)++(xs.map (Value.int IntKind.i64)).drop i->(g∈L1\/w.heap.size<=g)->w'.os=w.os/\Tp w w'/\w'.output=w.output ->
    w.heap.size<=w'.heap.size->(∀k,k<w.heap.size->k≠g->w'.heap[k]? = w.heap[k]?)->∃v vs Lf Lr,Ending.returned (.slice (some ⟨g,0,none⟩) (xs.length+ys.length) c)=.returned v /\
     zog w ⟨none,[⟨.sl (ρ.t 3) (.int .i64),false,true⟩,⟨.int .i64,false,false⟩,⟨.sl (ρ.t 3) (.int .i64),false,true⟩],[⟨.sl (ρ.t 3) (.int .i64),false,false⟩],some λX=>insP X.2.1 X.2.2.1 X.2.2.2.1,λX=>((),(znc X.2.1 X.2.2.1 X.2.2.2.1,()))⟩
      aa (L1++([]++(L3++[]))) ((),(znc xs (i:Nat) ys,())) v w' vs Lf Lr:=by
   intro aa w' g c cur hb hc hcm hs ht hg ho hsz hold
   have hown:w'.ownsRow 0 (ρ.t 3) 1 (.slice (some ⟨g,0,none⟩) (xs.length+ys.length) c) (znc xs (i:Nat) ys).length ((znc xs (i:Nat) ys).map (Value.int .i64)):=by
    rw[hwant,hmap]
    refine ins_row hb hc hcm hs ht ?_
    rw[<-hmap,List.length_map,hwant]
   refine⟨_,[.slice (some ⟨g,0,none⟩) (xs.length+ys.length) c],[],[g],rfl,⟨rfl,⟨_,[g],[],rfl,rfl,ints_own hown,(λh=>by cases h),rfl⟩,rfl,by simp, ?_, ?_,ho.1,ho.2.1,ho.2.2,hsz, ?_⟩⟩
   ·intro k hk
    simp only[List.append_nil,List.mem_singleton]at hk
    subst hk
    exact hg.imp (λh=>List.mem_append_left _ h) id
   ·intro g p hp
    cases hp
   ·intro k hk hkL
    refine hold k hk λe=>?_
    subst e
    rcases hg with h | h
    ·exact hkL (List.mem_append_left _ h)
    ·omega
  have hcsl:(xs.map (Value.int IntKind.i64)).length=xs.length:=List.length_map _
  have hvsl:(ys.map (Value.int IntKind.i64)).length=ys.length:=List.length_map _
  have hg2:g2<w.heap.size:=(Array.getElem?_eq_some_iff.1 hb2).1
  have z1:(Value.int IntKind.i64 0).cells.size=1:=rfl
  have zc:∀n,(Builtin.zeroCells (Value.int IntKind.i64 0).cells n).size=n:=λn=>by simp[Builtin.zeroCells,Value.cells]
  have grown:∀c,xs.length+ys.length<=grownCap w (xs.length+ys.length) c (ρ.t 3)/\grownCap w (xs.length+ys.length) c (ρ.t 3)<=maxLen:=λc=>⟨grownCap_ge w _ _ _,grownCap_le_maxLen w _ c (ρ.t 3) (by rw[hmx];omega)⟩
  obtain⟨_,⟨rfl,hx0⟩ | ⟨g,c,cur,rfl,_,hb,hc,hcm,hs,ht⟩⟩:=o1
  · -- nil
   have hxs:xs=[]:=List.length_eq_zero_iff.1 hx0
   subst hxs
   have hi0:i=0:=Nat.le_zero.1 p1
   subst hi0
   refine(Any2.slices_Insert_int_end_grow L none 0 0 g2 0 ys.length k2 [] (ys.map (Value.int .i64)) w p3 (Nat.le_refl _) (by omega) (by simp at p4;omega) rfl hvsl (λ_=>rfl) (λa ha=>by cases ha) hys q2).mono ?_
   rintro e w' ⟨rfl,rfl⟩
   obtain⟨h1,h2⟩:=grown 0
   refine fin _ _ _ _ _ (heap_alloc_new _ _) h1 h2 ?_ ?_ (.inr (Nat.le_refl _)) ⟨rfl,⟨rfl,λ_=>Nat.le_succ _⟩,rfl⟩ (by show w.heap.size<=(w.heap.push _).size;simp) λk hk hne=>heap_alloc_old _ _ hk
   ·simp only[List.length_nil]at h1 ⊢
    simp only[Array.size_append,zc,List.nil_append,List.size_toArray,hvsl]
    omega
   ·simp only[List.length_nil,List.map_nil,List.take_nil,List.drop_nil,List.nil_append,List.append_nil,Array.toList_append]
    rw[List.take_left' (by rw[hvsl];omega)]
  ·rw[Nat.mul_one]at ht hs
   have hcur:∀(j:Nat),j<c->(w.cell? ⟨g,0+j,none⟩).isSome=true:=λj hj=>by
    rw[Nat.zero_add,cell_of_row w g j cur _ (0,0) hb,Array.getElem?_eq_getElem (by omega)]
    rfl
   have hfz:∀(j:Nat),w.frozen? ⟨g,0+j,none⟩=false:=λj=>frozen_of_row w g (0+j) cur _ hb
   have hxs:∀(j:Nat) (u:Value),(xs.map (Value.int IntKind.i64))[j]? = some u->w.cell? ⟨g,0+j,none⟩=some u:=λj u hu=>by
    rw[Nat.zero_add,cell_of_row w g j cur _ (0,0) hb]
    rw[<-ht,List.getElem?_take]at hu
    split at hu
    ·simpa using hu
    ·cases hu
   have hgL:g∈L1:=by rw[l1];simp[Value.ownBlock]
   have hne:g2≠g:=λe=>by
    subst e
    have h3:g2∈L3:=by rw[l3];simp[Value.ownBlock]
    exact(List.nodup_append.1 hnd).2.2 g2 hgL g2 (List.mem_append_right _ (List.mem_append_left _ h3)) rfl
   have hgs:g<w.heap.size:=(Array.getElem?_eq_some_iff.1 hb).1
   have hi':i<=xs.length:=p1
   have htk:cur.toList.take i=(xs.map (Value.int IntKind.i64)).take i:=by rw[<-ht,List.take_take,Nat.min_eq_left hi']
   have hcl:cur.toList.length=c:=by rw[Array.length_toList,hs]
   have hd:(xs.map (Value.int IntKind.i64)).drop i=(xs.map (Value.int IntKind.i64)).drop i:=rfl
   have hdl:((xs.map (Value.int IntKind.i64)).drop i).length=xs.length-i:=by rw[List.length_drop,hcsl]
   by_cases hin:i=xs.length
   ·subst hin
    by_cases hroom:xs.length+ys.length<=c
    ·refine(Any2.slices_Insert_int_end_room L g 0 xs.length c g2 0 ys.length k2 (ys.map (Value.int .i64)) w p3 hroom (by rw[hmx]at hcm;omega) hvsl (λj hj=>by rw[Nat.zero_add,<-Nat.zero_add (xs.length+j)];exact hcur _ (by omega))
      (λj hj=>by rw[Nat.zero_add,<-Nat.zero_add (xs.length+j)];exact hfz _) hys q2).mono ?_
     rintro e w' ⟨rfl,rfl⟩
     rw[Nat.zero_add]
     obtain⟨cur',k1,k2,k3⟩:=z4p (ys.map (Value.int .i64)) xs.length w cur hb (by omega)
     obtain⟨m1,m2,m3,m4⟩:=z43 g (ys.map (Value.int .i64)) xs.length w
     refine fin _ _ _ _ _ k1 hroom hcm (k2.trans hs) ?_ (.inl hgL) ⟨m1,m2,m3⟩ (by omega) λk hk hne'=>z4q _ _ _ _ hne'
     rw[k3]
     unfold zok
     rw[List.take_left' (by simp only[List.length_append,List.length_take,hcl,hvsl];omega),ht,List.drop_of_length_le (by omega),List.append_nil,List.take_of_length_le (by omega)]
    ·refine(Any2.slices_Insert_int_end_grow L (some ⟨g,0,none⟩) xs.length c g2 0 ys.length k2 (xs.map (Value.int .i64)) (ys.map (Value.int .i64)) w p3 hc (by omega) (by omega) hcsl hvsl (λh=>by cases h)
      (λa ha j u hu=>by
       injection ha with ha
       subst ha
       have:=hxs j u hu
       rw[Nat.zero_add]at this
       rw[Addr.add_lit,Nat.zero_add]
       exact this) hys q2).mono ?_
     rintro e w' ⟨rfl,rfl⟩
     obtain⟨h1,h2⟩:=grown c
     refine fin _ _ _ _ _ (heap_alloc_new _ _) h1 h2 ?_ ?_ (.inr (Nat.le_refl _)) ⟨rfl,⟨rfl,λ_=>Nat.le_succ _⟩,rfl⟩ (by show w.heap.size<=(w.heap.push _).size;simp) λk hk hne=>heap_alloc_old _ _ hk
     ·simp only[Array.size_append,zc,List.size_toArray,List.length_append,hvsl,hcsl]
      omega
     ·rw[Array.toList_append,List.take_left' (by simp only[List.length_append,hvsl,hcsl]),List.drop_of_length_le (by omega),List.append_nil,List.take_of_length_le (by omega)]
   ·have hlt':i<xs.length:=by omega
    by_cases hroom:xs.length+ys.length<=c
    ·refine(Any2.slices_Insert_int_shift L g 0 xs.length c i g2 0 ys.length k2 (xs.map (Value.int .i64)) (ys.map (Value.int .i64)) w hlt' p3 hroom (by rw[hmx]at hcm;omega) hne hcsl hvsl hxs (λj hj=>hcur j (by omega)) (λj hj=>hfz j) hys q1 q2
      (ρ.t 3) (ρ.t 3) cur2.size cur.size (by unfold World.shape?;rw[hb2]) (by unfold World.shape?;rw[hb]) (by omega) (frozen_of_row w g2 0 cur2 _ hb2) (frozen_of_row w g2 cur2.size cur2 _ hb2)).mono ?_
     rintro e w' ⟨rfl,rfl⟩
     rw[Nat.zero_add,Nat.zero_add]
     obtain⟨cur1,k1,k2,k3⟩:=z4p ((xs.map (Value.int .i64)).drop i) (i+ys.length) w.drew cur hb (by omega)
     obtain⟨m1,m2,m3,m4⟩:=z43 g ((xs.map (Value.int .i64)).drop i) (i+ys.length) w.drew
     obtain⟨cur',j1,j2,j3⟩:=z4p (ys.map (Value.int .i64)) i _ cur1 k1 (by omega)
     obtain⟨r1,r2,r3,r4⟩:=z43 g (ys.map (Value.int .i64)) i (w.drew.setCells g (i+ys.length) ((xs.map (Value.int .i64)).drop i))
     refine fin _ _ _ _ _ j1 hroom hcm (by omega) ?_ (.inl hgL) ⟨r1.trans m1,(r2.trans m2).trans (Tp.mk rfl (λ_=>Nat.le_succ _)),r3.trans m3⟩ (by rw[r4,m4];exact Nat.le_refl _) λk hk hne'=>(z4q _ _ _ _ hne').trans (z4q _ _ _ _ hne')
     rw[j3,k3]
     exact(zmp (n:=xs.length) (m:=ys.length) (by omega) hi' htk hcsl hvsl hd).1
    ·refine(Any2.slices_Insert_int_grow L g 0 xs.length c i g2 0 ys.length k2 (xs.map (Value.int .i64)) (ys.map (Value.int .i64)) w hlt' p3 hc (by omega) (by omega) hcsl hvsl hxs hys q1 q2).mono ?_
     rintro e w' ⟨rfl,rfl⟩
     obtain⟨h1,h2⟩:=grown c
     generalize hG:grownCap w (xs.length+ys.length) c (ρ.t 3)=G at h1 h2
     generalize hR:((xs.map (Value.int IntKind.i64)).take i).toArray++Builtin.zeroCells (Value.int .i64 0).cells (xs.length+ys.length-i)++Builtin.zeroCells (Value.int .i64 0).cells (G-(xs.length+ys.length))=ROW
     have hRs:ROW.size=G:=by
      rw[<-hR]
      simp only[Array.size_append,zc,List.size_toArray,List.length_take,hcsl]
      omega
     have hRt:ROW.toList.take i=(xs.map (Value.int IntKind.i64)).take i:=by
      rw[<-hR]
      simp only[Array.toList_append,List.append_assoc]
      rw[List.take_left' (by rw[List.length_take,hcsl];omega)]
     have hR0:(w.alloc (.cells ROW (ρ.t 3))).drew.heap[w.heap.size]? = some (.cells ROW (ρ.t 3) (0,0)):=heap_alloc_new w _
     obtain⟨cur1,k1,k2,k3⟩:=z4p (ys.map (Value.int .i64)) i (w.alloc (.cells ROW (ρ.t 3))).drew ROW hR0 (by omega)
     obtain⟨m1,m2,m3,m4⟩:=z43 w.heap.size (ys.map (Value.int .i64)) i (w.alloc (.cells ROW (ρ.t 3))).drew
     obtain⟨cur',j1,j2,j3⟩:=z4p ((xs.map (Value.int .i64)).drop i) (i+ys.length) ((w.alloc (.cells ROW (ρ.t 3))).drew.setCells w.heap.size i (ys.map (Value.int .i64))).drew cur1 k1 (by omega)
     obtain⟨r1,r2,r3,r4⟩:=z43 w.heap.size ((xs.map (Value.int .i64)).drop i) (i+ys.length) ((w.alloc (.cells ROW (ρ.t 3))).drew.setCells w.heap.size i (ys.map (Value.int .i64))).drew
     refine fin _ _ _ _ _ j1 h1 h2 (by omega) ?_ (.inr (Nat.le_refl _)) ⟨r1.trans m1,⟨r2.tape.trans m2.tape,λd=>Nat.le_trans (Nat.le_trans (Nat.le_succ _) (m2.drawn d)) (Nat.le_trans (Nat.le_succ _) (r2.drawn d))⟩,r3.trans m3⟩ (by rw[r4];show _<=(World.setCells _ _ _ _).heap.size;rw[m4];show w.heap.size<=(w.heap.push _).size;simp) λk hk hne'=>(z4q _ _ _ _ hne').trans ((z4q _ _ _ _ hne').trans (heap_alloc_old w _ hk))
     rw[j3,k3]
     exact(zmp (A:=ROW.toList) (n:=xs.length) (m:=ys.length) (by rw[Array.length_toList (xs:=ROW),hRs];exact h1) hi' hRt hcsl hvsl hd).2
end
end Go.Fw
namespace Go.Fw
open Go.RowKit Go.Proofs Go.Sort
def z28(n i:Nat):Nat:=if i<n then i else 0
def zkf{n:Nat}(h:0<n)(i:Nat):z28 n i<n:=by unfold z28;split<;>omega
def zkg{n i:Nat}(h:i<n):z28 n i=i:=if_pos h
noncomputable def z6g{α:Type}(d:α)(cf:α->α->Int)(xs:List α):List Nat :=
 (pdq (ltOf λi j:Nat=>cf (xs.getD (z28 xs.length i) d) (xs.getD (z28 xs.length j) d)) (Array.range xs.length) 0 xs.length (Lib.bitLen xs.length) true true).toList
noncomputable def z6v{α:Type}(d:α)(cf:α->α->Int)(xs:List α):List α:=(z6g d cf xs).map λi=>xs.getD (z28 xs.length i) d
section
variable {α : Type} {d : α} {cf : α → α → Int}
def swo_ix(h:SWO (ltOf cf))(xs:List α):SWO (ltOf λi j:Nat=>cf (xs.getD (z28 xs.length i) d) (xs.getD (z28 xs.length j) d)) :=
 ⟨λx=>h.irrefl _,λx y z=>h.trans _ _ _,λx y z=>h.ntrans _ _ _⟩
def z87(h:SWO (ltOf cf))(xs:List α):(z6g d cf xs).Perm (List.range xs.length)/\∀i j,i<j->j<xs.length->ltOf cf (xs.getD (z28 xs.length ((z6g d cf xs).getD j 0)) d) (xs.getD (z28 xs.length ((z6g d cf xs).getD i 0)) d)=false:=by
 obtain⟨⟨h1,h2,h3⟩,h4⟩:=pdq_sorts _ (swo_ix (d:=d) h xs) (Array.range xs.length) 0 xs.length (Lib.bitLen xs.length) true true (Nat.zero_le _) (by simp) (.inl rfl)
 have hs:(pdq (ltOf λi j:Nat=>cf (xs.getD (z28 xs.length i) d) (xs.getD (z28 xs.length j) d)) (Array.range xs.length) 0 xs.length (Lib.bitLen xs.length) true true).size=xs.length:=by rw[h1];simp
 refine⟨?_,λi j hij hj=>?_⟩
 ·have e1:∀(a:Array Nat),a.size=xs.length->a.extract 0 xs.length=a:=λa ha=>by rw[<-ha];simp
  rw[e1 _ hs,e1 _ (by simp)]at h3
  unfold z6g
  simpa using h3
 ·have:=h4 i j (Nat.zero_le _) hij hj
  have g:∀k,k<xs.length->(z6g d cf xs).getD k 0=(pdq (ltOf λi j:Nat=>cf (xs.getD (z28 xs.length i) d) (xs.getD (z28 xs.length j) d)) (Array.range xs.length) 0 xs.length (Lib.bitLen xs.length) true true)[k]!:=λk hk=>by
   unfold z6g
   rw[List.getD_eq_getElem?_getD,Array.getElem?_toList,getElem!_pos _ _ (by rw[hs];exact hk),Array.getElem?_eq_getElem (by rw[hs];exact hk)]
   rfl
  rw[g i (by omega),g j hj]
  exact this
def z9f(xs:List α)(d:α):(List.range xs.length).map (λi=>xs.getD (z28 xs.length i) d)=xs:=by
 apply List.ext_getElem?
 intro i
 by_cases hi:i<xs.length
 ·rw[List.getElem?_map,List.getElem?_range hi,Option.map_some,zkg hi,List.getD_eq_getElem?_getD,List.getElem?_eq_getElem hi];rfl
 ·rw[List.getElem?_eq_none (by simp;omega),List.getElem?_eq_none (by omega)]
def zla(h:SWO (ltOf cf))(xs:List α):(z6v d cf xs).Perm xs:=by
 have:=(z87 (d:=d) h xs).1.map λi=>xs.getD (z28 xs.length i) d
 rwa [z9f]at this
def zge(h:SWO (ltOf cf))(xs:List α):∀i j,i<j->j<xs.length->cf ((z6v d cf xs).getD j d) ((z6v d cf xs).getD i d)<0->False:=by
 obtain⟨h1,h2⟩:=z87 (d:=d) h xs
 intro i j hij hj hlt
 have hl:(z6g d cf xs).length=xs.length:=by rw[h1.length_eq];simp
 have g:∀k,k<xs.length->(z6v d cf xs).getD k d=xs.getD (z28 xs.length ((z6g d cf xs).getD k 0)) d:=λk hk=>by
  unfold z6v
  rw[List.getD_eq_getElem?_getD,List.getElem?_map,List.getD_eq_getElem?_getD (l:=z6g d cf xs),List.getElem?_eq_getElem (by omega)]
  rfl
 rw[g i (by omega),g j hj]at hlt
 have:=h2 i j hij hj
 exact of_decide_eq_false this hlt
end
def zh5{β:Type}{k:Nat}(hk:0<k):∀{css:List (List β)},(∀c∈css,c.length=k)->∀t,css.flatten[t]? = (css[t / k]?).bind λc=>c[t%k]?
 | [],_,t=>by simp
 | c::cs,h,t=>by
  have hc:=h c List.mem_cons_self
  rw[List.flatten_cons]
  by_cases ht:t<k
  ·rw[List.getElem?_append_left (by omega),Nat.div_eq_of_lt ht,Nat.mod_eq_of_lt ht];rfl
  ·obtain⟨s,rfl⟩:∃s,t=k+s:=⟨t-k,by omega⟩
   rw[List.getElem?_append_right (by omega),hc,Nat.add_sub_cancel_left,zh5 hk (λc hc=>h c (List.mem_cons_of_mem _ hc)) s,Nat.add_div_left _ hk,Nat.add_mod_left]
   rfl
def zo5{α β γ:Type}{Q:α->β->γ->Prop}:∀{xs:List α} {ys:List β} {zs:List γ},z3r Q xs ys zs->∃T:List (α×β×γ),xs=T.map (·.1)/\ys=T.map (·.2.1)/\zs=T.map (·.2.2)/\∀p∈T,Q p.1 p.2.1 p.2.2
 | [],[],[],_=>⟨[],rfl,rfl,rfl,λp hp=>by cases hp⟩
 | a::xs,b::ys,c::zs,h=>by
  obtain⟨T,h1,h2,h3,h4⟩:=zo5 h.2
  exact⟨(a,b,c)::T,by rw[h1];rfl,by rw[h2];rfl,by rw[h3];rfl,λp hp=>by
   rcases List.mem_cons.1 hp with rfl | hp
   ·exact h.1
   ·exact h4 p hp⟩
def zmk{α β γ:Type}{Q:α->β->γ->Prop}:∀{T:List (α×β×γ)},(∀p∈T,Q p.1 p.2.1 p.2.2)->z3r Q (T.map (·.1)) (T.map (·.2.1)) (T.map (·.2.2))
 | [],_=>trivial
 | p::T,h=>⟨h p List.mem_cons_self,zmk λq hq=>h q (List.mem_cons_of_mem _ hq)⟩
section
variable {P : Program} {w w' : World}
def z9r{g:Nat}{e:TypeId}{cur D:Array Value}{m:Nat}(hg:w.heap[g]? = some (.cells cur e (0,0)))(os:Array Obj) :
  (grow (putRow id (Sort.ahead w m) g 0 D) os).heap[g]? = some (.cells (putCells id 0 D cur) e (0,0))/\∀j,j<w.heap.size->j≠g->(grow (putRow id (Sort.ahead w m) g 0 D) os).heap[j]? = w.heap[j]?:=by
 have hs:g<w.heap.size:=(Array.getElem?_eq_some_iff.1 hg).1
 have e1:(putRow id (Sort.ahead w m) g 0 D).heap=w.heap.modify g (onCells (putCells id 0 D)):=rfl
 refine⟨?_,λj hj hne=>?_⟩
 ·show((putRow id (Sort.ahead w m) g 0 D).heap++os)[g]? = _
  rw[Array.getElem?_append_left (by rw[e1];simpa using hs),e1,Array.getElem?_modify,if_pos rfl,hg]
  rfl
 ·show((putRow id (Sort.ahead w m) g 0 D).heap++os)[j]? = _
  rw[Array.getElem?_append_left (by rw[e1];simpa using hj),e1,Array.getElem?_modify,if_neg (Ne.symm hne)]
def zoj{t:Ty}{e g n cap:Nat}{css css':List (List Value)}{Ls':List (List Nat)}{xs':List t.den}{D:Array Value}{m:Nat}{os:Array Obj}
  (ho:w.ownsRow 0 e t.nc (.slice (some ⟨g,0,none⟩) n cap) n css.flatten) (hn:0<n)
  (hD:D.toList=css'.flatten) (hl:css'.flatten.length=css.flatten.length) (hx:xs'.length=n)
  (hall:z3r (λl c y=>Own w t l c y) Ls' css' xs') (hg:∀l∈Ls',∀k∈l,k≠g) :
  Own (grow (putRow id (Sort.ahead w m) g 0 D) os) (.sl e t) (g::Ls'.flatten) [.slice (some ⟨g,0,none⟩) n cap] xs':=by
 obtain⟨h1,h2⟩:=ho
 rcases h2 with⟨_,h0⟩ | ⟨g',cap',cur,he,_,hb,hc1,hc2,hc3,hc4⟩
 ·omega
 injection he with e1 e2 e3
 injection e1 with e1
 injection e1 with e1 _ _
 subst e1 e3
 obtain⟨k1,k2⟩:=z9r (D:=D) (m:=m) hb os
 refine⟨_,css',Ls',rfl,⟨by rw[hl,h1,hx],.inr ⟨g,cap,_,by rw[hx],Nat.zero_le _,k1,by rw[hx];exact hc1,hc2, ?_, ?_⟩⟩,rfl, ?_⟩
 ·simp[putCells,hc3]
 ·have hDl:D.size=n*t.nc:=by rw[<-Array.length_toList,hD,hl,h1]
  have hle:n*t.nc<=cur.size:=by rw[hc3];exact Nat.mul_le_mul_right _ hc1
  rw[hx,<-hD]
  apply List.ext_getElem?
  intro i
  by_cases hi:i<n*t.nc
  ·rw[List.getElem?_take_of_lt hi,Array.getElem?_toList,Array.getElem?_toList]
   simp only[putCells,Array.getElem?_mapIdx]
   rw[Array.getElem?_eq_getElem (by omega:i<cur.size),Option.map_some,if_pos ⟨Nat.zero_le _,by omega⟩,Nat.sub_zero,getElem!_pos D i (by omega),Array.getElem?_eq_getElem (by omega:i<D.size)]
   rfl
  ·rw[List.getElem?_eq_none (by simp;omega),List.getElem?_eq_none (by simp;omega)]
 ·refine hall.imp_mem λl c y hl ho=>ho.frame λk hk=>k2 k (ho.lt k hk) (hg l hl k hk)
def cmp_lays[DC][Inv P](hD:DC.D){t:Ty}{g c e n cap:Nat}{cf:t.den->t.den->Int}{d:t.den}(hE:z0a P c ⟨⟨[⟨t,true,false⟩,⟨t,true,false⟩],[⟨.int .i64,false,false⟩]⟩,none,λX=>((),(cf X.1 X.2.1,()))⟩)
  (eg:∀args w,(callFunc c args).run P w=.ok (.enter c args) w) {T:List (List Nat×List Value×t.den)} (hT:∀p∈T,Own w t p.1 p.2.1 p.2.2) (hg:∀p∈T,∀k∈p.1,k≠g) (hlen:0<T.length)
  (hI:Inv.I P w) (hB:¬ Inv.B P g) {cur:Array Value} {te:TypeId} (hb:w.heap[g]? = some (.cells cur te (0,0))) :
  CmpLays P c #[] (λi:Nat=>(T.getD (z28 T.length i) ([],[],d)).2.1) t.nc (λi j=>cf (T.getD (z28 T.length i) ([],[],d)).2.2 (T.getD (z28 T.length j) ([],[],d)).2.2) g 0 T.length w:=by
 intro m os dk hs x y
 have hW:=z9r (D:=flatK (λi:Nat=>(T.getD (z28 T.length i) ([],[],d)).2.1) t.nc dk) (m:=m) hb os
 have hmem:∀i,T.getD (z28 T.length i) ([],[],d)∈T:=λi=>by
  have:=zkf hlen i
  rw[List.getD_eq_getElem?_getD,List.getElem?_eq_getElem this]
  exact List.getElem_mem this
 have hsz:w.heap.size<=(sortWorldK (λi:Nat=>(T.getD (z28 T.length i) ([],[],d)).2.1) t.nc w g 0 m dk os).heap.size:=by
  show _<=((w.heap.modify g _)++os).size
  rw[Array.size_append,Array.size_modify];omega
 have own:∀i,Rd (sortWorldK (λi:Nat=>(T.getD (z28 T.length i) ([],[],d)).2.1) t.nc w g 0 m dk os) (λk=>k∉([]:List Nat)) t (T.getD (z28 T.length i) ([],[],d)).2.1 (T.getD (z28 T.length i) ([],[],d)).2.2:=λi =>
  ((hT _ (hmem i)).frame λk hk=>hW.2 k ((hT _ (hmem i)).lt k hk) (hg _ (hmem i) k hk)).rd λk _=>by simp
 have hc:=hE (sortWorldK (λi:Nat=>(T.getD (z28 T.length i) ([],[],d)).2.1) t.nc w g 0 m dk os) #[.agg (T.getD (z28 T.length x) ([],[],d)).2.1.toArray,.agg (T.getD (z28 T.length y) ([],[],d)).2.1.toArray] []
  ((T.getD (z28 T.length x) ([],[],d)).2.2,((T.getD (z28 T.length y) ([],[],d)).2.2,())) () (cf (T.getD (z28 T.length x) ([],[],d)).2.2 (T.getD (z28 T.length y) ([],[],d)).2.2,())
  ⟨⟨_,⟨_,rfl,rfl⟩,own x⟩,⟨_,⟨_,rfl,rfl⟩,own y⟩,trivial⟩ (λ_=>rfl) List.nodup_nil (λk hk=>by cases hk) rfl
  (Inv.keep w _ (λk hk=>hW.2 k (Inv.lt w k hI hk) λe=>hB (e▸hk)) hI) (λk hk=>by cases hk)
 rcases hc with⟨_,hc⟩ | ⟨v,w',h1,_⟩
 ·refine hc.mono ?_
  rintro ex w' ⟨v,vs,L',Lr,rfl,A⟩
  have A:zq2 _ ⟨[⟨t,true,false⟩,⟨t,true,false⟩],[⟨.int .i64,false,false⟩]⟩ _ [] _ (cf (T.getD (z28 T.length x) ([],[],d)).2.2 (T.getD (z28 T.length y) ([],[],d)).2.2,()) v w' vs L' Lr:=A
  have hr:=A.res
  match vs,hr,A.ret with
  | [],hr,_=>exact hr.elim
  | _::_::_,hr,_=>obtain⟨_,_,_,_,_,_,_,hr⟩:=hr;exact hr.elim
  | [u],hr,ret =>
  obtain⟨cs,L1,L2,_,hcv,hown,_⟩:=hr
  have hcv:cs=[u]:=hcv
  have hown:cs=[.int .i64 (cf (T.getD (z28 T.length x) ([],[],d)).2.2 (T.getD (z28 T.length y) ([],[],d)).2.2)]:=hown.1
  have ret:v=u:=ret
  refine⟨?_,w'.drawn-(sortWorldK (λi:Nat=>(T.getD (z28 T.length i) ([],[],d)).2.1) t.nc w g 0 m dk os).drawn,w'.heap.extract (sortWorldK (λi:Nat=>(T.getD (z28 T.length i) ([],[],d)).2.1) t.nc w g 0 m dk os).heap.size, ?_⟩
  ·rw[hcv]at hown
   injection hown with hown
   rw[ret,hown]
  ·generalize hWd:sortWorldK (λi:Nat=>(T.getD (z28 T.length i) ([],[],d)).2.1) t.nc w g 0 m dk os=W at A
   obtain⟨hp,tp,dr,o,out⟩:=W
   obtain⟨hp',tp',dr',o',out'⟩:=w'
   obtain rfl:o'=o:=A.os
   obtain rfl:out'=out:=A.output
   obtain rfl:tp'=tp:=A.tape.tape
   have hdr:dr<=dr':=A.tape.drawn hD
   have hsz:hp.size<=hp'.size:=A.size
   have hold:∀k,k<hp.size->hp'[k]? = hp[k]?:=λk hk=>A.old k hk (by simp)
   show World.mk hp' _ dr' _ _=World.mk (hp++hp'.extract hp.size) _ (dr+(dr'-dr)) _ _
   congr 1
   ·apply Array.ext_getElem?
    intro i
    by_cases hi:i<hp.size
    ·rw[Array.getElem?_append_left hi,hold i hi]
    ·rw[Array.getElem?_append_right (by omega),Array.getElem?_extract]
     by_cases h2:i<hp'.size
     ·rw[if_pos (by simp;omega)]
      congr 1;omega
     ·rw[if_neg (by simp;omega),Array.getElem?_eq_none (by omega)]
   ·omega
 ·rw[eg]at h1
  cases h1
end
end Go.Fw
namespace Go.Fw
open Go.RowKit Go.Proofs Go.Sort Go.Shelf
def zrw{α β:Type}(f:α->β)(l:List α)(k:Nat)(d:α):(l.map f).getD k (f d)=f (l.getD k d):=by
 rw[List.getD_eq_getElem?_getD,List.getElem?_map,List.getD_eq_getElem?_getD]
 cases l[k]?<;>rfl
section
variable {P : Program} {ρ : Go.Shelf.Ren}
def zl9[DC][Inv P](L:SlLaysF0.n6 P ρ){t:Ty}{c e:Nat}(d:t.den){cf:t.den->t.den->Int}(aE:∀w,(isAgg (ρ.t 24)).run P w=.ok true w)(zE:∀w,(Go.sizeOf (ρ.t 24)).run P w=.ok t.nc w)(hO:SWO (ltOf cf))
  (hE:@z0a DC.tt P _ c ⟨⟨[⟨t,true,false⟩,⟨t,true,false⟩],[⟨.int .i64,false,false⟩]⟩,none,λX=>((),(cf X.1 X.2.1,()))⟩) (eg:∀args w,(callFunc c args).run P w=.ok (.enter c args) w) :
  z0a P (ρ.f 6) ⟨⟨[⟨.sl e t,false,true⟩,⟨.fnc c,false,false⟩],[]⟩,some λX=>Nat.blt 0 X.1.length&&Nat.blt X.1.length 4611686018427387904,λX=>(z6v d cf X.1,())⟩:=by
 intro w args L0 X y Y ha hno hnd hlt hg hI hBL
 obtain⟨as_,rfl⟩:∃l:List Value,args=l.toArray:=⟨args.toList,by simp⟩
 obtain⟨xs,X2⟩:=X
 have ha:z4j w L0 [⟨.sl e t,false,true⟩,⟨.fnc c,false,false⟩] as_ (xs,X2):=ha
 match as_,ha with
 | [],ha=>exact ha.elim
 | [_],ha=>exact ha.2.elim
 | _::_::_::_,ha=>exact ha.2.2.elim
 | [v,vf],ha =>
 obtain⟨⟨cs,h1,h2⟩,⟨cs2,k1,k2⟩,_⟩:=ha
 have h1:cs=[v]:=h1
 subst h1
 have k1:cs2=[vf]:=k1
 subst k1
 have h2:Own w (.sl e t) L0 [v] xs:=h2
 have k2:[vf]=[.func (.func c) #[] #[]]:=k2
 injection k2 with k2
 subst k2
 have hg:cond (Nat.blt 0 xs.length&&Nat.blt xs.length 4611686018427387904) (some ((z6v d cf xs,()):List t.den×Unit)) none=some (y,Y):=hg
 cases hpos:(Nat.blt 0 xs.length&&Nat.blt xs.length 4611686018427387904)
 ·rw[hpos]at hg;cases hg
 rw[hpos]at hg
 injection hg with hg
 injection hg with hy _
 simp only[Bool.and_eq_true]at hpos
 have hbig:xs.length<4611686018427387904:=by simpa using hpos.2
 have hpos:0<xs.length:=by simpa using hpos.1
 obtain⟨v',css,Ls,e1,ho,hL,hall⟩:=h2
 injection e1 with e1
 subst e1
 obtain⟨T,rfl,rfl,rfl,hT⟩:=zo5 hall
 have hn:(T.map (·.2.2)).length=T.length:=List.length_map ..
 rw[hn]at ho
 have hTpos:0<T.length:=by rw[hn]at hpos;exact hpos
 obtain⟨g,cap,cur,hv,_,hb,hc1,hc2,hc3,hc4⟩:∃g cap cur,v=.slice (some ⟨g,0,none⟩) T.length cap/\0<=g/\w.heap[g]? = some (.cells cur e (0,0))/\T.length<=cap/\cap<=maxLen/\cur.size=cap*t.nc/\cur.toList.take (T.length*t.nc)=(T.map (·.2.1)).flatten:=by
  rcases ho.2 with⟨_,h0⟩ | h
  ·omega
  ·exact h
 subst hv
 have hL:L0=g::(T.map (·.1)).flatten:=by rw[hL];rfl
 subst hL
 let d0:List Nat×List Value×t.den:=([],[],d)
 let enc:Nat->List Value:=λi=>(T.getD (z28 T.length i) ([],[],d)).2.1
 have hmem:∀i,T.getD (z28 T.length i) ([],[],d)∈T:=λi=>by
  rw[List.getD_eq_getElem?_getD,List.getElem?_eq_getElem (zkf hTpos i)]
  exact List.getElem_mem _
 have hlen:∀i,(enc i).length=t.nc:=λi=>(hT _ (hmem i)).len
 have hone:∀i,∀u∈enc i,u.oneCell'=true:=λi=>(hT _ (hmem i)).one
 have hgT:∀p∈T,∀k∈p.1,k≠g:=λp hp k hk e=>(List.nodup_cons.1 hnd).1 (e▸List.mem_flatten.2 ⟨p.1,List.mem_map.2 ⟨p,hp,rfl⟩,hk⟩)
 have gm:∀k,(T.map (·.2.2)).getD k d=(T.getD k ([],[],d)).2.2:=λk=>zrw (λp:List Nat×List Value×t.den=>p.2.2) T k ([],[],d)
 have hcf:(λi j:Nat=>cf (T.getD (z28 T.length i) ([],[],d)).2.2 (T.getD (z28 T.length j) ([],[],d)).2.2)=λi j:Nat=>cf ((T.map (·.2.2)).getD (z28 (T.map (·.2.2)).length i) d) ((T.map (·.2.2)).getD (z28 (T.map (·.2.2)).length j) d):=by
  funext i j
  rw[hn,gm,gm]
 have hflat:∀j,j<T.length*t.nc->∃u,(T.map (·.2.1)).flatten[j]? = some u/\(flatK enc t.nc (Array.range T.length))[j]! = u:=λj hj=>by
  have hq:j / t.nc<T.length:=Nat.div_lt_of_lt_mul (by rw[Nat.mul_comm];exact hj)
  have hr:j%t.nc<t.nc:=Nat.mod_lt _ t.nc_pos
  have e2:(T.map (·.2.1))[j / t.nc]? = some (enc (j / t.nc)):=by
   rw[List.getElem?_map,List.getElem?_eq_getElem hq]
   show _=some (T.getD (z28 T.length (j / t.nc)) ([],[],d)).2.1
   rw[zkg hq,List.getD_eq_getElem?_getD,List.getElem?_eq_getElem hq]
   rfl
  have hr':j%t.nc<(enc (j / t.nc)).length:=by rw[hlen];exact hr
  refine⟨(enc (j / t.nc))[j%t.nc], ?_, ?_⟩
  ·rw[zh5 t.nc_pos (λc hc=>by obtain⟨p,hp,rfl⟩:=List.mem_map.1 hc;exact(hT p hp).len),e2]
   exact List.getElem?_eq_getElem hr'
  ·rw[get_flatK _ _ _ _ (by simpa using hj),getElem!_pos (Array.range T.length) (j / t.nc) (by simpa using hq),Array.getElem_range]
   exact getElem!_pos (enc (j / t.nc)) (j%t.nc) hr'
 have hH:HoldsK enc t.nc w g 0 (Array.range T.length):=λj hj=>by
  have hj:j<T.length*t.nc:=by simpa using hj
  obtain⟨u,u1,u2⟩:=hflat j hj
  refine⟨?_,frozen_of_row w g (0+j) cur _ hb⟩
  rw[u2]
  have:=ho.cells rfl j u u1
  rw[Nat.zero_add]
  by_cases h0:j=0
  ·subst h0;exact this
  ·have e5:(⟨g,0,none⟩:Addr).add j=⟨g,j,none⟩:=by simp[Addr.add,h0]
   rw[<-e5];exact this
 have hsz:T.length<=maxLen:=Nat.le_trans hc1 hc2
 have hsz2:(Array.range T.length).size<4611686018427387904:=by
  rw[Array.size_range,<-hn];exact hbig
 have hS:=AnyQ.slices_SortFunc_eq L t.nc aE zE enc hlen hone (λi j:Nat=>cf (T.getD (z28 T.length i) ([],[],d)).2.2 (T.getD (z28 T.length j) ([],[],d)).2.2) (by rw[hcf];exact swo_ix hO _) c #[] g 0 cap (Array.range T.length) w eg
  (by rw[Array.size_range];exact@cmp_lays P w DC.tt _ trivial _ _ _ 0 0 0 _ _ hE eg _ hT hgT hTpos hI (hBL g List.mem_cons_self) _ _ hb) hH (by exact(Array.getElem?_eq_some_iff.1 hb).1) hsz2
 refine .inl ⟨L.f6.enters rfl _ _, ?_⟩
 have hS:=hS
 rw[Array.size_range]at hS
 refine hS.mono ?_
 rintro ex w' ⟨rfl,n',os,rfl⟩
 rw[hcf]
 have hD:∀(D:Array Nat),D.toList=z6g d cf (T.map (·.2.2))->∃v vs L' Lr,Ending.returned (.tuple #[])=.returned v/\zq2 w ⟨[⟨.sl e t,false,true⟩,⟨.fnc c,false,false⟩],[]⟩ [.slice (some ⟨g,0,none⟩) T.length cap,.func (.func c) #[] #[]] (g::(T.map (·.1)).flatten) (z6v d cf (T.map (·.2.2))) () v (sortWorldK enc t.nc w g 0 n' D os) vs L' Lr:=by
  intro D hD
  have hp:=(z87 (d:=d) hO (T.map (·.2.2))).1
  rw[hn]at hp
  let T':=(z6g d cf (T.map (·.2.2))).map λi=>T.getD (z28 T.length i) ([],[],d)
  have hTT:T'.Perm T:=by
   have:=hp.map λi=>T.getD (z28 T.length i) ([],[],d)
   rwa [z9f]at this
  have hys:z6v d cf (T.map (·.2.2))=T'.map (·.2.2):=by
   unfold z6v
   rw[List.map_map]
   refine List.map_congr_left λi _=>?_
   rw[hn,gm]
   rfl
  have hT'm:∀p∈T',p∈T:=λp hp'=>hTT.mem_iff.1 hp'
  have hpf:(T'.map (·.1)).flatten.Perm (T.map (·.1)).flatten:=(hTT.map _).flatten
  have hsize:D.size=T.length:=by rw[<-Array.length_toList,hD,hp.length_eq];simp
  have hDf:(flatK enc t.nc D).toList=(T'.map (·.2.1)).flatten:=by
   have hl':(T'.map (·.2.1)).flatten.length=T.length*t.nc:=by
    rw[z3u (λc hc=>by obtain⟨p,hp',rfl⟩:=List.mem_map.1 hc;exact(hT p (hT'm p hp')).len),List.length_map,hTT.length_eq]
   apply List.ext_getElem?
   intro j
   by_cases hj:j<T.length*t.nc
   ·have hq:j / t.nc<T.length:=Nat.div_lt_of_lt_mul (by rw[Nat.mul_comm];exact hj)
    have hr:j%t.nc<t.nc:=Nat.mod_lt _ t.nc_pos
    have hj2:j<(flatK enc t.nc D).size:=by rw[size_flatK,hsize];exact hj
    rw[zh5 t.nc_pos (λc hc=>by obtain⟨p,hp',rfl⟩:=List.mem_map.1 hc;exact(hT p (hT'm p hp')).len),Array.getElem?_toList,Array.getElem?_eq_getElem hj2,<-getElem!_pos (flatK enc t.nc D) j hj2,get_flatK _ _ _ _ (by rw[hsize];exact hj),getElem!_pos D (j / t.nc) (by rw[hsize];exact hq)]
    have e3:(T'.map (·.2.1))[j / t.nc]? = some (enc (D[j / t.nc]'(by rw[hsize];exact hq))):=by
     have:(z6g d cf (T.map (·.2.2)))[j / t.nc]? = some (D[j / t.nc]'(by rw[hsize];exact hq)):=by
      rw[<-hD,Array.getElem?_toList,Array.getElem?_eq_getElem]
     rw[List.getElem?_map,List.getElem?_map,this]
     rfl
    rw[e3]
    have hr':j%t.nc<(enc (D[j / t.nc]'(by rw[hsize];exact hq))).length:=by rw[hlen];exact hr
    rw[getElem!_pos (enc (D[j / t.nc]'(by rw[hsize];exact hq))) (j%t.nc) hr']
    exact(List.getElem?_eq_getElem hr').symm
   ·rw[List.getElem?_eq_none (by rw[Array.length_toList,size_flatK,hsize];omega),List.getElem?_eq_none (by rw[hl'];omega)]
  let L1:List Nat:=g::(T'.map (λp:List Nat×List Value×t.den=>p.1)).flatten
  have own:Own (sortWorldK enc t.nc w g 0 n' D os) (.sl e t) L1 [.slice (some ⟨g,0,none⟩) T.length cap] (T'.map (λp:List Nat×List Value×t.den=>p.2.2)):=by
   unfold sortWorldK putRowK
   exact zoj (e:=e) (m:=n') (os:=os) (cap:=cap) (D:=flatK enc t.nc D) (Ls':=T'.map (·.1)) (css':=T'.map (·.2.1)) (xs':=T'.map (·.2.2)) ho hTpos hDf
    (by rw[z3u (λc hc=>by obtain⟨p,hp',rfl⟩:=List.mem_map.1 hc;exact(hT p (hT'm p hp')).len),z3u (λc hc=>by obtain⟨p,hp',rfl⟩:=List.mem_map.1 hc;exact(hT p hp').len)];simpa using congrArg (· * t.nc) hTT.length_eq)
    (by rw[List.length_map,hTT.length_eq]) (zmk λp hp'=>hT p (hT'm p hp')) (λl hl k hk=>by obtain⟨p,hp',rfl⟩:=List.mem_map.1 hl;exact hgT p (hT'm p hp') k hk)
  have hW:=z9r (D:=flatK enc t.nc D) (m:=n') hb os
  rw[hys]
  refine⟨_,[],L1,[],rfl,rfl,rfl,⟨_,rfl,own⟩, ?_,(λk hk=>by cases hk),λk hk=>.inl ?_,rfl,⟨rfl,λ_=>Nat.le_add_right _ _⟩,rfl, ?_,λk hk hkL=>hW.2 k hk λe=>hkL (e▸List.mem_cons_self)⟩
  ·rw[List.nil_append]
   exact(hpf.cons g).nodup_iff.2 hnd
  ·exact(hpf.cons g).mem_iff.1 hk
  ·show _<=((w.heap.modify g _)++os).size
   rw[Array.size_append,Array.size_modify];omega
 have:=hD (pdq (ltOf λi j:Nat=>cf ((T.map (·.2.2)).getD (z28 (T.map (·.2.2)).length i) d) ((T.map (·.2.2)).getD (z28 (T.map (·.2.2)).length j) d)) (Array.range T.length) 0 T.length (Lib.bitLen T.length) true true) (by unfold z6g;rw[hn])
 obtain rfl:y=z6v d cf (T.map (·.2.2)):=hy.symm
 exact this
end
end Go.Fw
