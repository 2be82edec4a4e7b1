/- The framework: functions of the library that are met by their contracts. Nothing is assumed. -/
import Derived.Test.YtkjnhmjfdfiklaaDoorFwd
import Derived.Shelf.Strconv.Itoa3
import Derived.Shelf.Strings.OnBuilder
import Derived.Lib.LaidTab
import Derived.Lib.LaidU8
import Derived.Lay
import Derived.Handed
import Derived.Shelf.Vars
import Derived.Shelf.Strings.SplitShaped
import Derived.Shelf.Strings.Cut
import Derived.Shelf.Strconv.AtoiAll
import Derived.Test.YtkjnhmjfdfiklaaDoorFwc
import Derived.Deep.RegionHeld3
import Derived.Deep.DrawnRows
import Derived.Deep.AppendLies
import Derived.Deep.RegionLaw
import Derived.Tactics
import Derived.Tactics2
import Derived.WalkKit
import Derived.WalkSpells
import Derived.StillTactics
import Derived.Laws.Pointers
import Derived.KernelRfl
set_option linter.defProp false
set_option linter.unusedVariables false
set_option linter.unusedSectionVars false
set_option linter.unusedSimpArgs false
namespace Go.Fw
open Go.RowKit Go.Proofs Go.Shelf Go.Sort
def ED{P:Program}{w w':World}{name:String}{g:Nat}(hg:P.globalNamed name=some g)(h:w'.heap[g]? = w.heap[g]?):w'.var? P name=w.var? P name:=by unfold World.var?;rw[hg];simp only[Option.bind_some,h]
def xh{P:Program}{w:World}{name:String}{cs:Array Value}(h:w.var? P name=some cs):∃g,P.globalNamed name=some g/\g<w.heap.size:=by
 unfold World.var? at h;obtain⟨g,h1,h2⟩:=Option.bind_eq_some_iff.1 h;refine⟨g,h1, ?_⟩;split at h2;·rename_i hg;exact(Array.getElem?_eq_some_iff.1 hg).1
 ·cases h2
def EE(P:Program)(l:List (String×IntKind×List Int))(q:List (String×IntKind))(es:List String)(w:World):Prop :=
 (∀p∈l,Lib.TabIs P w p.1 p.2.1 p.2.2)/\(∀p∈q,∃g,P.globalNamed p.1=some g/\∃m,w.cell? ⟨g,0,none⟩=some (.int p.2 m)) /\
  ∀p∈es,∃g,P.globalNamed p=some g/\∃v b,w.cell? ⟨g,0,none⟩=some v/\dq v b
@[reducible] def Inv.tabs(P:Program)(l:List (String×IntKind×List Int))(q:List (String×IntKind))(es:List String):Inv P where
 I:=EE P l q es
 B k:=(∃p∈l,P.globalNamed p.1=some k)\/(∃p∈q,P.globalNamed p.1=some k)\/∃p∈es,P.globalNamed p=some k
 keep w w' h hI:=by
  refine⟨λp hp=>?_,λp hp=>?_,λp hp=>?_⟩;·have:=hI.1 p hp;obtain⟨g,h1,h2⟩:=xh this;show w'.var? P p.1=_;rw[ED h1 (h g (.inl ⟨p,hp,h1⟩))];exact this
  ·obtain⟨g,h1,m,h2⟩:=hI.2.1 p hp;refine⟨g,h1,m, ?_⟩;rw[World.cell?_of_block (w:=w) (h g (.inr (.inl ⟨p,hp,h1⟩)))];exact h2
  ·obtain⟨g,h1,v,b,h2,h3⟩:=hI.2.2 p hp;refine⟨g,h1,v,b, ?_,h3⟩;rw[World.cell?_of_block (w:=w) (h g (.inr (.inr ⟨p,hp,h1⟩)))];exact h2
 lt w k hI hk:=by
  rcases hk with⟨p,hp,hk⟩|⟨p,hp,hk⟩|⟨p,hp,hk⟩;·obtain⟨g,h1,h2⟩:=xh (hI.1 p hp);rw[hk]at h1;injection h1 with h1;omega
  ·obtain⟨g,h1,m,h2⟩:=hI.2.1 p hp;rw[hk]at h1;injection h1 with h1;subst h1;exact World.block_lt_of_cell? _ _ h2
  ·obtain⟨g,h1,v,b,h2,h3⟩:=hI.2.2 p hp;rw[hk]at h1;injection h1 with h1;subst h1;exact World.block_lt_of_cell? _ _ h2
section
variable {P : Program} {l : List (String × IntKind × List Int)} {q : List (String × IntKind)} {es : List String}
theorem Inv.tab_mem(p:String×IntKind×List Int)(hp:p∈l)(w:World)(h:(Inv.tabs P l q es).I w):Lib.TabIs P w p.1 p.2.1 p.2.2:=h.1 p hp
theorem Inv.int_mem(p:String×IntKind)(hp:p∈q)(w:World)(h:(Inv.tabs P l q es).I w):∃g,P.globalNamed p.1=some g/\∃m,w.cell? ⟨g,0,none⟩=some (.int p.2 m):=h.2.1 p hp
theorem Inv.err_mem(p:String)(hp:p∈es)(w:World)(h:(Inv.tabs P l q es).I w):∃g,P.globalNamed p=some g/\∃v b,w.cell? ⟨g,0,none⟩=some v/\dq v b:=h.2.2 p hp
end
def EF{P:Program}{w:World}{name:String}{k:IntKind}{zs:List Int}{g:Nat}{t e:TypeId}{n:Nat}{l:List (String×DataW Unit)}(h:laidMet P l w)(hm:(name,Lib.tabData k zs)∈l)
  (hg:P.globalNamed name=some g) (hty:(P.globals[g]?).map (·.type)=some t) (ht:P.underlying t=some (.array n e)) (he:P.underlying e=some (.int k)) (hce:P.cellsOf e=1) (hct:P.cellsOf t=n):Lib.TabIs P w name k zs:=by
 obtain⟨g',t',cs,fuel,p,h1,h2,h3,h4⟩:=Lib.laidMet.reads h hm;obtain rfl:=Option.some.inj (hg.symm.trans h1);obtain rfl:=Option.some.inj (hty.symm.trans h2);unfold Lib.TabIs;rw[h3,<-Lib.cells_of_tab ht he hce hct h4]
def EG{P:Program}{w:World}{name nm:String}{d:DataW Unit}{g:Nat}{t:TypeId}{ms:Array (String×TypeId)}{l:List (String×DataW Unit)}(h:laidMet P l w)(hm:(name,.iface nm d)∈l)
  (hg:P.globalNamed name=some g) (hty:(P.globals[g]?).map (·.type)=some t) (hi:P.underlying t=some (.interface ms)):∃g,P.globalNamed name=some g/\∃v b,w.cell? ⟨g,0,none⟩=some v/\dq v b:=by
 obtain⟨g',t',cs,fuel,p,h1,h2,h3,h4⟩:=Lib.laidMet.reads h hm;obtain rfl:=Option.some.inj (hg.symm.trans h1);obtain rfl:=Option.some.inj (hty.symm.trans h2);obtain⟨_,u,v,hcs,_,_⟩:=iface_of_trod hi h4;have h0:=World.var?_cell hg h3 0;refine⟨g,hg,.iface u v,true, ?_,.inr ⟨u,v,rfl,rfl⟩⟩;rw[h0,<-Array.getElem?_toList,hcs];rfl
def xj{P:Program}{w:World}{name:String}{D:DataW Unit}{g:Nat}{t:TypeId}{ms:Array (String×TypeId)}{l:List (String×DataW Unit)}(h:laidMet P l w)(hm:(name,D)∈l)(hD:∃nm d,D=.iface nm d)
  (hg:P.globalNamed name=some g) (hty:(P.globals[g]?).map (·.type)=some t) (hi:P.underlying t=some (.interface ms)):∃g,P.globalNamed name=some g/\∃v b,w.cell? ⟨g,0,none⟩=some v/\dq v b:=by
 obtain⟨nm,d,rfl⟩:=hD;exact EG h hm hg hty hi
section
variable {P : Program} {J : Ren} [Inv P]
theorem EH (hI : ∀ w, Inv.I P w → Lib.TabIs P w "internal/strconv.uint64pow10" .u64 Lib.pow10Tab) (L : LaysM.n171 P J) : ax P (J.f 171) ⟨⟨[⟨.int .i64, false, false⟩], [⟨.str, false, false⟩]⟩, some fun X => cz X.1, fun X => ((), (⟨(Lib.itoa X.1).toArray⟩, ()))⟩ := by
 intro w args LL X y Y ha hno hnd hlt hG hIw hB;obtain⟨args⟩:=args;obtain⟨n,u⟩:=X;have hL:LL=[]:=hno rfl;subst hL;have hG':cond (cz n) (some ((),((⟨(Lib.itoa n).toArray⟩:ByteArray),()))) none=some (y,Y):=hG;cases hp:cz n;·rw[hp]at hG';cases hG'
 rw[hp]at hG';simp only[cond_true,Option.some.injEq,Prod.mk.injEq]at hG';obtain⟨rfl,rfl⟩:=hG';simp only[cz,Bool.and_eq_true,decide_eq_true_eq]at hp;match args,ha with
 |[],ha=>exact ha.elim
 |_::_::_,ha=>exact ha.2.elim
 |[v],ha =>
  obtain⟨⟨cs,h1,h2⟩,_⟩:=ha;have h1:cs=[v]:=h1;subst h1;have h2:[v]=[Value.int .i64 n]:=h2;simp only[List.cons.injEq,and_true]at h2;subst h2;refine .inl ⟨by simp[callFunc,L.f171,Body.n171],(Any.strconv_Itoa L n hp.1 hp.2 w (hI w hIw)).mono ?_⟩;rintro e w' ⟨rfl,k,os,rfl⟩
  refine⟨_,[.string ⟨(Lib.itoa n).toArray⟩],[],[],rfl,rfl,⟨_,[],[],rfl,rfl,⟨rfl,rfl⟩,trivial,rfl⟩,rfl,List.nodup_nil,(λk hk=>by cases hk),(λk hk=>by cases hk),rfl,⟨rfl,λd=>d.elim⟩,rfl, ?_,λk' hk _=>?_⟩;·rw[size_grow];exact Nat.le_add_right _ _
  ·show(w.heap++os)[k']? = _;rw[Array.getElem?_append_left hk]
variable {H : Type} {enc : TypeId × Value → H} in
def returnsInHanded_and_shaped{a:Assume}{C:Checked}{os:Os}{f:FuncId}{fn:Func}{s:ChangeSpec}{conds:List PathCond}{apart fresh handsOn again:Bool}{X:World->Array Value->Prop}
  (hX:∀(w w':World) (args:Array Value),w.heap=w'.heap->X w args->X w' args)
  (own:ownKnob C.prog.godebug=none) (started:os.Started) (noInit:C.prog.inits.idxOf? f=none) (hfn:C.prog.funcs[f]? = some fn)
  (witness:∃(w:World) (tape:Tape) (i:Input),w.os=os/\(w.forCall tape i).Shaped C.prog/\i.vars=[]/\Input.okWide C.prog (w.forCall tape i) .any w.heap.size f i /\
   ((s.pre enc C.prog fn conds apart (w.forCall tape i).memory i.args/\X (w.forCall tape i).memory i.args)/\sizedMet enc C.prog fn (OpenSpec.ofChange s) apart (w.forCall tape i).memory i.args)/\a.holds C.prog (lone (Frame.enter C.prog f i.args .normal) [] (w.forCall tape i)))
  (contract:∀(W:World) (base:Nat) (args:Array Value) (ds gs:List (DataW H)) (dw:List MemPlace),
   (∀(j:Nat) t v,fn.params[j]? = some t->args[j]? = some v->Value.okWide C.prog W .any base t v) ->
   DataW.Whole enc C.prog fn.params.toList s.vars apart W args.toList ds gs dw->X W args->W.ShapedOpen C.prog ->
   Calls C.prog f args W λe W'=>∃v,e=.returned v/\s.post enc C.prog fn apart fresh handsOn again W args v W') :
  ReturnsInHanded a C os f .any (λw args=>(s.pre enc C.prog fn conds apart w args/\X w args)/\sizedMet enc C.prog fn (OpenSpec.ofChange s) apart w args) (s.post enc C.prog fn apart fresh handsOn again):=by
 refine returnsInHanded_of_calls own started noInit witness ?_;intro w tape i _ hsh _ hok hpre hholds;obtain⟨_,_,_,fn',hfn',_,_,_,_,hval⟩:=hok;have e:fn'=fn:=Option.some.inj (hfn'.symm.trans hfn);subst e;obtain⟨⟨⟨ds,gs,dw,hw,hc⟩,hx⟩,hz⟩:=hpre;have hw':=DataW.Whole.of_heap (w':=w.forCall tape i) (by rfl) hw;refine(contract (w.forCall tape i) w.heap.size i.args ds gs dw hval hw' (hX _ _ _ (by rfl) hx) hsh).mono λe W' ⟨v,he,hp⟩=>?_;subst he;exact ChangeSpec.post_blind hp
def oL(xs:List ByteArray)(sep:ByteArray):Bool:=Nat.ble xs.length 140737488355328&&Nat.ble (Lib.join (xs.map (·.data.toList)) sep.data.toList).length 140737488355328
def EI{w:World}{S:Nat->Prop}{e:Nat}{cs:List Value}{xs:List ByteArray}(h:Rd w S (.sl e .str) cs xs) :
  ∃(A:Option Addr) (c:Nat),cs=[.slice A xs.length c]/\xs.length<=c/\(xs=[]\/∃bk o,A=some ⟨bk,o,none⟩/\bk<w.heap.size/\∀(j:Nat) x,xs[j]? = some x->w.cell? ⟨bk,o+j,none⟩=some (.string x)):=by
 obtain⟨A,n,c,rfl,rfl,h1,h2,h3⟩:=h;refine⟨A,c,rfl,h1, ?_⟩;rcases h3 with h3|⟨ad,css,rfl,_,h4,h5⟩;·exact .inl (List.length_eq_zero_iff.1 h3)
 ·have hf:css.flatten=xs.map Value.string:=by
   clear h1 h2 h5;induction css generalizing xs with
   |nil =>
    cases xs with
    |nil=>rfl
    |cons _ _=>exact h4.elim
   |cons c css ih =>
    cases xs with
    |nil=>exact h4.elim
    |cons x xs =>have hc:c=[Value.string x]:=h4.1;rw[List.flatten_cons,hc,ih h4.2];rfl
  rw[hf]at h5;cases xs with
  |nil=>exact .inl rfl
  |cons x xs =>
   right;have h0:=h5 0 (.string x) rfl;obtain⟨bk,o,sp⟩:=ad;have hsp:sp=none:=by
    have e:(⟨bk,o,sp⟩:Addr).add 0=⟨bk,o,sp⟩:=by unfold Addr.add;simp
    rw[e]at h0;unfold World.cell? at h0;split at h0
    ·cases sp with
     |none=>rfl
     |some _=>simp at h0
    ·cases h0
   subst hsp;refine⟨bk,o,rfl, ?_,λj y hj=>?_⟩
   ·have:=World.block_lt_of_cell? _ _ h0;have e:((⟨bk,o,none⟩:Addr).add 0).block=bk:=by unfold Addr.add;simp
    rwa [e]at this
   ·have:=h5 j (.string y) (by rw[List.getElem?_map,hj];rfl);rwa [Addr.add_lit]at this
def EJ(L:Lays.n156 P J)(E:Builder.Extra P J):ax P (J.f 156) ⟨⟨[⟨.sl (J.t 9) .str,false,false⟩,⟨.str,false,false⟩],[⟨.str,false,false⟩]⟩,some λX=>oL X.1 X.2.1,
  λX=>((),(⟨(Lib.join (X.1.map (·.data.toList)) X.2.1.data.toList).toArray⟩,()))⟩:=by
 intro w args LL X y Y ha hno hnd hlt hG hIw hB;obtain⟨args⟩:=args;obtain⟨xs,sep,u⟩:=X;have hL:LL=[]:=hno rfl;subst hL;have hG':cond (oL xs sep) (some ((),((⟨(Lib.join (xs.map (·.data.toList)) sep.data.toList).toArray⟩:ByteArray),()))) none=some (y,Y):=hG
 cases hp:oL xs sep;·rw[hp]at hG';cases hG'
 rw[hp]at hG';simp only[cond_true,Option.some.injEq,Prod.mk.injEq]at hG';obtain⟨rfl,rfl⟩:=hG';simp only[oL,Bool.and_eq_true]at hp;have hp1:=Nat.le_of_ble_eq_true hp.1;have hp2:=Nat.le_of_ble_eq_true hp.2;match args,ha with
 |[],ha=>exact ha.elim
 |[_],ha=>exact ha.2.elim
 |_::_::_::_,ha=>exact ha.2.2.elim
 |[v1,v2],ha =>
  obtain⟨⟨cs,h1,h2⟩,⟨cs2,k1,k2⟩,_⟩:=ha;have h1:cs=[v1]:=h1;have k1:cs2=[v2]:=k1;subst h1 k1;have k2:[v2]=[Value.string sep]:=k2;simp only[List.cons.injEq,and_true]at k2;subst k2;obtain⟨A,c,e1,hc,hor⟩:=EI (show Rd w (λk=>k∉([]:List Nat)) (.sl (J.t 9) .str) [v1] xs from h2);simp only[List.cons.injEq,and_true]at e1;subst e1;refine .inl ⟨by simp[callFunc,L.f156,Body.n156], ?_⟩;have fin:∀w',Below w.heap.size w w'->∃v vs L' Lr,Ending.returned (.string ⟨(Lib.join (xs.map (·.data.toList)) sep.data.toList).toArray⟩)=.returned v /\
    lx w ⟨[⟨.sl (J.t 9) .str,false,false⟩,⟨.str,false,false⟩],[⟨.str,false,false⟩]⟩ [.slice A xs.length c,.string sep] [] () (⟨(Lib.join (xs.map (·.data.toList)) sep.data.toList).toArray⟩,()) v w' vs L' Lr:=by
   intro w' hb;generalize(⟨(Lib.join (xs.map (·.data.toList)) sep.data.toList).toArray⟩:ByteArray)=r
   exact⟨_,[.string r],[],[],rfl,rfl,⟨_,[],[],rfl,rfl,⟨rfl,rfl⟩,trivial,rfl⟩,rfl,List.nodup_nil,(λk hk=>by cases hk),(λk hk=>by cases hk),hb.os,⟨hb.tape,λd=>d.elim⟩,hb.output,hb.size,λk' hk _=>hb.block k' hk⟩
  rcases hor with rfl|⟨bk,o,rfl,hbk,hcells⟩
  ·refine(Any.strings_Join_none L E A c sep w).mono ?_;rintro e w' ⟨rfl,rfl⟩
   exact fin _ (Below.refl _ _)
  ·refine(Any.strings_Join L E bk o c xs sep w hcells hbk hp1 hc hp2).mono ?_;rintro e w' ⟨rfl,hb⟩
   exact fin _ hb
end
end Go.Fw
namespace Go.Fw
open Go.RowKit Go.Proofs Go.Shelf
def EK{w:World}{e:Nat}{v:Value}{xs:List ByteArray}(h:w.ownsRow 0 e 1 v xs.length (xs.map Value.string)):am w (.sl e .str) v.ownBlock.toList [v] xs:=by
 refine⟨v,xs.map λx=>[Value.string x],xs.map λ_=>[],rfl, ?_, ?_, ?_⟩
 ·have:(xs.map λx=>[Value.string x]).flatten=xs.map Value.string:=by
   clear h;induction xs with
   |nil=>rfl
   |cons x xs ih=>simp[ih]
  rw[this];exact h
 ·have:(xs.map λ_=>([]:List Nat)).flatten=[]:=by
   clear h;induction xs with
   |nil=>rfl
   |cons x xs ih=>simp
  rw[this,List.append_nil]
 ·clear h;induction xs with
  |nil=>trivial
  |cons x xs ih=>exact⟨⟨rfl,rfl⟩,ih⟩
noncomputable def jy(s sep:ByteArray):List ByteArray:=Lib.splitB sep 0 (Lib.countB s sep) s
def oM(s sep:ByteArray):Bool:=Nat.blt s.size 4294967281&&Nat.ble 1 sep.size
section
variable {P : Program} {J : Ren} [Inv P]
def EL(hI:∀w,Inv.I P w->∃m,w.cell? ⟨J.g 1,0,none⟩=some (.int .i64 m))(L:LaysM.n146 P J):ax P (J.f 146) ⟨⟨[⟨.str,false,false⟩,⟨.str,false,false⟩],[⟨.sl (J.t 9) .str,false,false⟩]⟩,some λX=>oM X.1 X.2.1,λX=>((),(jy X.1 X.2.1,()))⟩:=by
 intro w args LL X y Y ha hno hnd hlt hG hIw hB;obtain⟨args⟩:=args;obtain⟨s,sep,u⟩:=X;have hL:LL=[]:=hno rfl;subst hL;have hG':cond (oM s sep) (some ((),(jy s sep,()))) none=some (y,Y):=hG;cases hp:oM s sep;·rw[hp]at hG';cases hG'
 rw[hp]at hG';simp only[cond_true,Option.some.injEq,Prod.mk.injEq]at hG';obtain⟨rfl,rfl⟩:=hG';simp only[oM,Bool.and_eq_true]at hp;have hp1:s.size<4294967281:=Nat.le_of_ble_eq_true hp.1;have hp2:1<=sep.size:=Nat.le_of_ble_eq_true hp.2;match args,ha with
 |[],ha=>exact ha.elim
 |[_],ha=>exact ha.2.elim
 |_::_::_::_,ha=>exact ha.2.2.elim
 |[v1,v2],ha =>
  obtain⟨⟨cs,h1,h2⟩,⟨cs2,k1,k2⟩,_⟩:=ha;have h1:cs=[v1]:=h1;have k1:cs2=[v2]:=k1;subst h1 k1;have h2:[v1]=[Value.string s]:=h2;have k2:[v2]=[Value.string sep]:=k2;simp only[List.cons.injEq,and_true]at h2 k2;subst h2 k2;obtain⟨m,hm⟩:=hI w hIw;refine .inl ⟨by simp[callFunc,L.f146,Body.n146],(Any.strings_Split { L with } L.i9 s sep m w hp1 hm hp2).mono ?_⟩;rintro e w' ⟨rfl,rfl⟩
  have hlen:(jy s sep).length=Lib.countB s sep+1:=Lib.splitB_all sep hp2 0 _ s rfl;have hcl:=Lib.countB_le sep hp2 s.size s (Nat.le_refl _);have hown:=World.ownsRow_lit (base:=0) (e:=J.t 9) (size:=1) w ((jy s sep).map Value.string).toArray (Lib.countB s sep+1) (Nat.zero_le _) (by simp only[maxLen];omega) (by simp[hlen]);have hown2:(w.alloc (.cells ((jy s sep).map Value.string).toArray (J.t 9))).ownsRow 0 (J.t 9) 1 (.slice (some ⟨w.heap.size,0,none⟩) (Lib.countB s sep+1) (Lib.countB s sep+1)) (jy s sep).length ((jy s sep).map Value.string):=by rw[hlen];exact hown
  refine⟨_,[.slice (some ⟨w.heap.size,0,none⟩) (Lib.countB s sep+1) (Lib.countB s sep+1)],[],[w.heap.size],rfl,rfl,⟨_,[w.heap.size],[],rfl,rfl,EK hown2,(λh=>by cases h),rfl⟩,rfl,by simp, ?_,(λk hk=>by cases hk),rfl,⟨rfl,λd=>d.elim⟩,rfl, ?_,λk' hk _=>?_⟩;·intro k hk;simp only[List.mem_singleton]at hk;subst hk;exact .inr (Nat.le_refl _)
  ·show w.heap.size<=(w.heap.push _).size;simp
  ·exact heap_alloc_old w _ hk
end
noncomputable def gz(s sep:ByteArray):ByteArray×ByteArray×Bool:=(⟨(Lib.cut s.data.toList sep.data.toList).1.toArray⟩,⟨(Lib.cut s.data.toList sep.data.toList).2.1.toArray⟩,(Lib.cut s.data.toList sep.data.toList).2.2)
def sJ(s sep:ByteArray):Bool:=Nat.blt s.size 4294967281
section
variable {P : Program} {J : Ren} [Inv P]
def EM(hI:∀w,Inv.I P w->∃m,w.cell? ⟨J.g 1,0,none⟩=some (.int .i64 m))(L:Lays.n145 P J) :
  ax P (J.f 145) ⟨⟨[⟨.str,false,false⟩,⟨.str,false,false⟩],[⟨.str,false,false⟩,⟨.str,false,false⟩,⟨.bool,false,false⟩]⟩,some λX=>sJ X.1 X.2.1,λX=>((),((gz X.1 X.2.1).1,((gz X.1 X.2.1).2.1,((gz X.1 X.2.1).2.2,()))))⟩:=by
 intro w args LL X y Y ha hno hnd hlt hG hIw hB;obtain⟨args⟩:=args;obtain⟨s,sep,u⟩:=X;have hL:LL=[]:=hno rfl;subst hL;have hG':cond (sJ s sep) (some ((),((gz s sep).1,((gz s sep).2.1,((gz s sep).2.2,()))))) none=some (y,Y):=hG;cases hp:sJ s sep;·rw[hp]at hG';cases hG'
 rw[hp]at hG';simp only[cond_true,Option.some.injEq,Prod.mk.injEq]at hG';obtain⟨rfl,rfl⟩:=hG';have hp1:s.size<4294967281:=Nat.le_of_ble_eq_true hp;match args,ha with
 |[],ha=>exact ha.elim
 |[_],ha=>exact ha.2.elim
 |_::_::_::_,ha=>exact ha.2.2.elim
 |[v1,v2],ha =>
  obtain⟨⟨cs,h1,h2⟩,⟨cs2,k1,k2⟩,_⟩:=ha;have h1:cs=[v1]:=h1;have k1:cs2=[v2]:=k1;subst h1 k1;have h2:[v1]=[Value.string s]:=h2;have k2:[v2]=[Value.string sep]:=k2;simp only[List.cons.injEq,and_true]at h2 k2;subst h2 k2;obtain⟨m,hm⟩:=hI w hIw;refine .inl ⟨by simp[callFunc,L.f145,Body.n145],(Any.strings_Cut L s sep m w hp1 hm).mono ?_⟩;rintro e w' ⟨rfl,n,rfl⟩
  exact⟨_,[.string (gz s sep).1,.string (gz s sep).2.1,.bool (gz s sep).2.2],[],[],rfl,rfl,
   ⟨_,[],[],rfl,rfl,⟨rfl,rfl⟩,trivial,⟨_,[],[],rfl,rfl,⟨rfl,rfl⟩,trivial,⟨_,[],[],rfl,rfl,⟨rfl,rfl⟩,trivial,rfl⟩⟩⟩,rfl,List.nodup_nil,(λk hk=>by cases hk),(λk hk=>by cases hk),rfl,⟨rfl,λd=>d.elim⟩,rfl,Nat.le_refl _,λk' hk _=>rfl⟩
end
def fW(s:ByteArray):Int×Bool:=match Lib.atoiAll s.data.toList with
 |.ok n=>(n,false)
 |.range=>(Lib.atoiSat s.data.toList,true)
 |_=>(0,true)
section
variable {P : Program} {J : Ren} [Inv P]
def EN(hI1:∀w,Inv.I P w->∃v b,w.cell? ⟨J.g 15,0,none⟩=some v/\dq v b)(hI2:∀w,Inv.I P w->∃v b,w.cell? ⟨J.g 16,0,none⟩=some v/\dq v b)(L:LaysC.n172 P J) :
  ax P (J.f 172) ⟨⟨[⟨.str,false,false⟩],[⟨.int .i64,false,false⟩,⟨.err,false,false⟩]⟩,some λX=>decide (X.1.size<=1048576),λX=>((),((fW X.1).1,((fW X.1).2,())))⟩:=by
 intro w args LL X y Y ha hno hnd hlt hG hIw hB;obtain⟨args⟩:=args;obtain⟨s,u⟩:=X;have hL:LL=[]:=hno rfl;subst hL;have hG':cond (decide (s.size<=1048576)) (some ((),((fW s).1,((fW s).2,())))) none=some (y,Y):=hG;cases hp:decide (s.size<=1048576);·rw[hp]at hG';cases hG'
 rw[hp]at hG';simp only[cond_true,Option.some.injEq,Prod.mk.injEq]at hG';obtain⟨rfl,rfl⟩:=hG';have hp:s.size<=1048576:=of_decide_eq_true hp;match args,ha with
 |[],ha=>exact ha.elim
 |_::_::_,ha=>exact ha.2.elim
 |[v],ha =>
  obtain⟨⟨cs,h1,h2⟩,_⟩:=ha;have h1:cs=[v]:=h1;subst h1;have h2:[v]=[Value.string s]:=h2;simp only[List.cons.injEq,and_true]at h2;subst h2;refine .inl ⟨by simp[callFunc,L.f172,Body.n172], ?_⟩;have fin:∀(w':World) (n:Int) (e:Value) (b:Bool),dq e b->fW s=(n,b)->Below w.heap.size w w'->∃v vs L' Lr,Ending.returned (.tuple #[.int .i64 n,e])=.returned v /\
    lx w ⟨[⟨.str,false,false⟩],[⟨.int .i64,false,false⟩,⟨.err,false,false⟩]⟩ [.string s] [] () ((fW s).1,((fW s).2,())) v w' vs L' Lr:=by
   intro w' n e b he hv hb;rw[hv];exact⟨_,[.int .i64 n,e],[],[],rfl,rfl,⟨_,[],[],rfl,rfl,⟨rfl,rfl⟩,trivial,⟨_,[],[],rfl,rfl,⟨⟨e,rfl,he⟩,rfl⟩,trivial,rfl⟩⟩,rfl,List.nodup_nil,(λk hk=>by cases hk),(λk hk=>by cases hk),hb.os,⟨hb.tape,λd=>d.elim⟩,hb.output,hb.size,λk' hk _=>hb.block k' hk⟩
  cases hq:Lib.atoiAll s.data.toList with
  |ok n =>
   refine(Any.strconv_Atoi_ok L s (by omega) n hq w).mono ?_;rintro e w' ⟨rfl,hw⟩
   refine fin w' n .nilIface false (.inl ⟨rfl,rfl⟩) (by unfold fW;rw[hq]) ?_;rcases hw with rfl|⟨t,rfl⟩;·exact Below.refl _ _
   ·exact Lib.bytesWorld_below _ _ _
  |range =>
   obtain⟨ev,b,hv,he⟩:=hI2 w hIw;refine(Any.strconv_Atoi_range L s (by omega) hq ev w hv (he.imp (λh=>h.1) λ⟨t,p,h,_⟩=>⟨t,p,h⟩)).mono ?_;rintro e w' ⟨N,rfl,_,_,hb⟩
   exact fin w' _ _ true (.inr ⟨_,_,rfl,rfl⟩) (by unfold fW;rw[hq]) hb
  |_ =>
   obtain⟨ev,b,hv,he⟩:=hI1 w hIw;refine(Any.strconv_Atoi_syntax L s (by omega) hq ev w hv (he.imp (λh=>h.1) λ⟨t,p,h,_⟩=>⟨t,p,h⟩)).mono ?_;rintro e w' ⟨N,rfl,_,_,hb⟩
   exact fin w' 0 _ true (.inr ⟨_,_,rfl,rfl⟩) (by unfold fW;rw[hq]) hb
end
end Go.Fw
namespace Go.Fw
open Go.RowKit
structure ay(xs:List Nat)(w w':World):Prop where
 os:w'.os=w.os
 tape:w'.tape=w.tape
 output:w'.output=w.output
 size:w.heap.size<=w'.heap.size
 keep:∀k,k<w.heap.size->k∉xs->w'.heap[k]? = w.heap[k]?
section
variable {xs ys : List Nat} {a w w' w2 : World}
def ay.refl(xs:List Nat)(w:World):ay xs w w:=⟨rfl,rfl,rfl,Nat.le_refl _,λ_ _ _=>rfl⟩
def ay.trans(h:ay xs w w')(g:ay xs w' w2):ay xs w w2 :=
 ⟨g.os.trans h.os,g.tape.trans h.tape,g.output.trans h.output,Nat.le_trans h.size g.size,λk hk hx=>(g.keep k (Nat.lt_of_lt_of_le hk h.size) hx).trans (h.keep k hk hx)⟩
def ay.trans'{b0 c0:World}(g:ay xs w c0)(h:ay xs b0 w):ay xs b0 c0:=h.trans g
def ay.mono(h:ay xs w w')(hs:∀x∈xs,x∈ys):ay ys w w':=⟨h.os,h.tape,h.output,h.size,λk hk hy=>h.keep k hk λhx=>hy (hs k hx)⟩
def ay.alloc(h:ay xs a w)(o:Obj):ay xs a (w.alloc o) :=
 h.trans ⟨rfl,rfl,rfl,by simp,λk hk _=>Below.heap_alloc _ _ _ hk⟩
def ay.setCell(h:ay xs a w){p:Addr}(hp:p.block∈xs)(u:Value):ay xs a (w.setCell p u) :=
 h.trans ⟨rfl,rfl,rfl,by simp[World.setCell],λk hk hx=>Below.heap_setCell _ _ _ _ λe=>hx (e▸hp)⟩
def ay.drew(h:ay xs a w):ay xs a w.drew:=⟨h.os,h.tape,h.output,h.size,h.keep⟩
def ay.cell(h:ay xs w w'){p:Addr}{u:Value}(hc:w.cell? p=some u)(hx:p.block∉xs):w'.cell? p=some u :=
 (World.cell?_of_block (w:=w) (h.keep p.block (World.block_lt_of_cell? w p hc) hx)).trans hc
def ay.below{n:Nat}(h:ay xs w w')(hn:n<=w.heap.size)(hx:∀x∈xs,n<=x):Below n w w' :=
 ⟨h.os,h.tape,h.output,h.size,λk hk=>h.keep k (Nat.lt_of_lt_of_le hk hn) λhm=>Nat.lt_irrefl _ (Nat.lt_of_lt_of_le hk (hx k hm))⟩
end
structure sK(w w':World)(g j:Nat)(k:IntKind)(x':Int):Prop where
 ex:∃(cur:Array Value) (e:TypeId) (x:Int),w.heap[g]? = some (.cells cur e (0,0))/\cur[j]? = some (.int k x)/\w'.heap[g]? = some (.cells (cur.setIfInBounds j (.int k x')) e (0,0))
 rest:∀i,i≠g->i<w.heap.size->w'.heap[i]? = w.heap[i]?
section
variable {w w' : World} {g j : Nat} {k : IntKind} {x' : Int}
def sL:∀{t:Ty}{L:List Nat}{cs:List Value}{y:t.den}{i:Nat}{x:Int},am w t L cs y->cs[i]? = some (.int k x)->∃y':t.den,am w t L (cs.set i (.int k x')) y'
 |.int q,L,cs,y,i,x,h,hi=>by
  obtain⟨rfl,rfl⟩:=h;cases i with
  |zero =>injection hi with hi;injection hi with h1 _;subst h1;exact⟨x',rfl,rfl⟩
  |succ i=>simp at hi
 |.bool,L,cs,y,i,x,h,hi=>by
  obtain⟨rfl,rfl⟩:=h;cases i with
  |zero=>cases hi
  |succ i=>simp at hi
 |.fnc _,L,cs,y,i,x,h,hi=>by
  obtain⟨rfl,rfl⟩:=h;cases i with
  |zero=>cases hi
  |succ i=>simp at hi
 |.str,L,cs,y,i,x,h,hi=>by
  obtain⟨rfl,rfl⟩:=h;cases i with
  |zero=>cases hi
  |succ i=>simp at hi
 |.err,L,cs,y,i,x,h,hi=>by
  obtain⟨⟨v,rfl,hv⟩,rfl⟩:=h;cases i with
  |zero =>injection hi with hi;subst hi;rcases hv with⟨h1,_⟩|⟨_,_,h1,_⟩<;>cases h1
  |succ i=>simp at hi
 |.pair a b,L,cs,y,i,x,h,hi=>by
  obtain⟨c1,c2,L1,L2,rfl,rfl,h1,h2⟩:=h;by_cases hl:i<c1.length;·rw[List.getElem?_append_left hl]at hi;obtain⟨y1,k1⟩:=sL h1 hi;exact⟨(y1,y.2),c1.set i (.int k x'),c2,L1,L2,by rw[List.set_append_left _ _ hl],rfl,k1,h2⟩
  ·rw[List.getElem?_append_right (by omega)]at hi;obtain⟨y2,k2⟩:=sL h2 hi;exact⟨(y.1,y2),c1,c2.set (i-c1.length) (.int k x'),L1,L2,by rw[List.set_append_right _ _ (by omega)],rfl,h1,k2⟩
 |.sl e t,L,cs,y,i,x,h,hi=>by
  obtain⟨v,css,Ls,rfl,h1,_⟩:=h;obtain⟨A,c,rfl,_⟩:=dO h1;cases i with
  |zero=>cases hi
  |succ i=>simp at hi
def xk{t:Ty}:∀{Ls:List (List Nat)}{css:List (List Value)}{ys:List t.den}{i:Nat}{x:Int},az (λl c y=>am w t l c y) Ls css ys->css.flatten[i]? = some (.int k x)->∃(css':List (List Value)) (ys':List t.den),css'.flatten=css.flatten.set i (.int k x')/\az (λl c y=>am w t l c y) Ls css' ys'
 |[],[],[],i,x,h,hi=>by simp at hi
 |l::Ls,c::css,y::ys,i,x,h,hi=>by
  rw[List.flatten_cons]at hi;by_cases hl:i<c.length;·rw[List.getElem?_append_left hl]at hi;obtain⟨y',k1⟩:=sL h.1 hi;exact⟨c.set i (.int k x')::css,y'::ys,by rw[List.flatten_cons,List.flatten_cons,List.set_append_left _ _ hl],k1,h.2⟩
  ·rw[List.getElem?_append_right (by omega)]at hi;obtain⟨css',ys',k1,k2⟩:=xk h.2 hi;exact⟨c::css',y::ys',by rw[List.flatten_cons,List.flatten_cons,k1,List.set_append_right _ _ (by omega)],h.1,k2⟩
def oN(hp:sK w w' g j k x'):∀{t:Ty}{L:List Nat}{cs:List Value}{y:t.den},am w t L cs y->∃y':t.den,am w' t L cs y'
 |.int _,_,_,y,h=>⟨y,h⟩
 |.bool,_,_,y,h=>⟨y,h⟩
 |.fnc _,_,_,y,h=>⟨y,h⟩
 |.str,_,_,y,h=>⟨y,h⟩
 |.err,_,_,y,h=>⟨y,h⟩
 |.pair a b,_,_,y,h=>by obtain⟨c1,c2,L1,L2,rfl,rfl,h1,h2⟩:=h;obtain⟨y1,k1⟩:=oN hp h1;obtain⟨y2,k2⟩:=oN hp h2;exact⟨(y1,y2),c1,c2,L1,L2,rfl,rfl,k1,k2⟩
 |.sl e t,L,cs,y,h=>by
  obtain⟨v,css,Ls,rfl,h1,rfl,h2⟩:=h;have tz:∀{Ls:List (List Nat)}{css:List (List Value)}{ys:List t.den},az (λl c y=>am w t l c y) Ls css ys->∃ys',az (λl c y=>am w' t l c y) Ls css ys':=by
   intro Ls;induction Ls with
   |nil =>
    intro css ys h;match css,ys,h with
    |[],[],_=>exact⟨[],trivial⟩
   |cons l Ls ih =>
    intro css ys h;match css,ys,h with
    |c::css,y::ys,h =>obtain⟨y',k1⟩:=oN hp h.1;obtain⟨ys',k2⟩:=ih h.2;exact⟨y'::ys',k1,k2⟩
  obtain⟨ys',h3⟩:=tz h2;have hlen:ys'.length=y.length:=h3.len1.symm.trans h2.len1;by_cases hv:v.ownBlock=some g
  ·obtain⟨cur,e0,x,p1,p2,p3⟩:=hp.ex;rcases h1.2 with⟨rfl,_⟩|⟨g0,cap,zd,rfl,q1,q2,q3,q4,q5,q6⟩;·cases hv
   ·injection hv with hv;obtain rfl:g0=g:=hv;rw[p1]at q2;injection q2 with q2;injection q2 with q2 q2e;subst q2 q2e;have hsz:(cur.setIfInBounds j (.int k x')).size=cap*t.nc:=by rw[Array.size_setIfInBounds];exact q5
    by_cases hj:j<y.length*t.nc
    ·have hat:css.flatten[j]? = some (.int k x):=by rw[<-q6,List.getElem?_take,if_pos hj,Array.getElem?_toList];exact p2
     obtain⟨css',ys2,k1,k2⟩:=xk (x':=x') h3 hat;have hl2:ys2.length=y.length:=(k2.len1.symm.trans h3.len1).trans hlen;refine⟨ys2,_,css',Ls,rfl,⟨by rw[k1,List.length_set,hl2];exact h1.1,.inr ⟨g0,cap,_,by rw[hl2],q1,p3,by omega,q4,hsz, ?_⟩⟩,rfl,k2⟩;rw[k1,<-q6,hl2,Array.toList_setIfInBounds,List.take_set]
    ·refine⟨ys',_,css,Ls,rfl,⟨by rw[hlen];exact h1.1,.inr ⟨g0,cap,_,by rw[hlen],q1,p3,by omega,q4,hsz, ?_⟩⟩,rfl,h3⟩;rw[<-q6,hlen,Array.toList_setIfInBounds,List.take_set_of_le (by omega)]
  ·refine⟨ys',v,css,Ls,rfl, ?_,rfl,h3⟩;rw[hlen];exact gR (λi hi=>hp.rest i (λe=>hv (by rw[hi,e])) (h1.lt i hi).2) h1
end
def xl{k:Nat}:∀(css:List (List Value)),(∀c∈css,c.length=k)->∀(j i:Nat) (v:Value),(css.getD j [])[i]? = some v->css.flatten[j*k+i]? = some v
 |[],_,j,i,v,h=>by simp at h
 |c::css,hl,0,i,v,h=>by have h:c[i]? = some v:=h;rw[List.flatten_cons,Nat.zero_mul,Nat.zero_add,List.getElem?_append_left (List.getElem?_eq_some_iff.1 h).1];exact h
 |c::css,hl,j+1,i,v,h=>by have e:=hl c List.mem_cons_self;rw[List.flatten_cons,List.getElem?_append_right (by rw[e,Nat.add_mul];omega),e,show(j+1)*k+i-k=j*k+i by rw[Nat.add_mul];omega];exact xl css (λc hc=>hl c (List.mem_cons_of_mem _ hc)) j i v h
def xm{t:Ty}{w:World}:∀{Ls:List (List Nat)}{css:List (List Value)}{xs:List t.den},az (λl c y=>am w t l c y) Ls css xs->∀c∈css,c.length=t.nc
 |[],[],[],_,_,hc=>by cases hc
 |l::Ls,c::css,x::xs,h,c',hc=>by
  rcases List.mem_cons.1 hc with rfl|hc;·exact h.1.len
  ·exact xm h.2 c' hc
structure EO(w:World)(e:Nat)(t:Ty)(L:List Nat)(v:Value)(n:Nat)(k:Nat)(y:t.den)(g c:Nat)(cur:Array Value)(l:List Nat)(cs:List Value):Prop where
 v:v=.slice (some ⟨g,0,none⟩) n c
 gL:g∈L
 heap:w.heap[g]? = some (.cells cur e (0,0))
 own:am w t l cs y
 sub:∀x∈l,x∈L
 ne:L.Nodup->∀x∈l,x≠g
 cell:∀(j:Nat) (u:Value),cs[j]? = some u->cur[k*t.nc+j]? = some u
def sM{w:World}{e:Nat}{t:Ty}{L:List Nat}{v:Value}{ys:List t.den}(h:am w (.sl e t) L [v] ys){k:Nat}(hk:k<ys.length):∃g c cur l cs,EO w e t L v ys.length k ys[k] g c cur l cs:=by
 obtain⟨v',css,Ls,hv,h1,rfl,h2⟩:=h;injection hv with hv;subst hv;obtain⟨l,cs,e1,e2,e3⟩:=h2.get (List.getElem?_eq_getElem hk);rcases h1.2 with⟨_,h0⟩|⟨g,cap,cur,rfl,q1,q2,q3,q4,q5,q6⟩;·omega
 ·refine⟨g,cap,cur,l,cs,rfl,List.mem_append_left _ (by simp[Value.ownBlock]),q2,e3,λx hx=>List.mem_append_right _ (List.mem_flatten.2 ⟨l,List.mem_of_getElem? e1,hx⟩),λhn x hx e=>(List.nodup_append.1 hn).2.2 g (by simp[Value.ownBlock]) x (List.mem_flatten.2 ⟨l,List.mem_of_getElem? e1,hx⟩) e.symm,λj u hu=>?_⟩;have:=xl css (xm h2) k j u (by rw[List.getD_eq_getElem?_getD,e2];exact hu);rw[<-q6]at this;have hlt:=(List.getElem?_eq_some_iff.1 this).1;rw[List.getElem?_take]at this;split at this;·simpa using this
  ·cases this
def xn{w:World}{g j:Nat}{k:IntKind}{x x':Int}{cur:Array Value}{e:TypeId}(hb:w.heap[g]? = some (.cells cur e (0,0)))(hj:cur[j]? = some (.int k x)):sK w (w.setCell ⟨g,j,none⟩ (.int k x')) g j k x':=by refine⟨⟨cur,e,x,hb,hj, ?_⟩,λi hi _=>Below.heap_setCell _ _ _ _ hi⟩;show(w.heap.modify g _)[g]? = _;rw[Array.getElem?_modify,if_pos rfl,hb];rfl
def it{w:World}{g j:Nat}{cur:Array Value}{e:TypeId}{f:Nat×Nat}(hb:w.heap[g]? = some (.cells cur e f)):w.cell? ⟨g,j,none⟩=cur[j]?:=by simp[World.cell?,hb]
def oO{w:World}{g j:Nat}{cur:Array Value}{e:TypeId}(hb:w.heap[g]? = some (.cells cur e (0,0))):w.frozen? ⟨g,j,none⟩=false:=by simp[World.frozen?,hb]
end Go.Fw
