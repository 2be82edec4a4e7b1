/- The framework: what a symbolic run of the model's code tells, proved sound. Nothing is assumed. -/
import Derived.Test.YtkjnhmjfdfiklaaDoorFwc
import Derived.WalkKit
import Derived.ProofKit
import Derived.OpenShut
import Derived.ShutString
import Derived.ChangeOld
import Derived.Below
import Derived.Carry
import Derived.SizedLaws
import Derived.ChangeCalls
set_option linter.defProp false
set_option linter.unusedVariables false
set_option linter.unusedSectionVars false
namespace Go.Fw
open Go.RowKit
abbrev jK{J:Type}(l:aa)(K:KT J):KT J:=ap (some l) K
section
variable {J : Type} {Γ : Gm} {T : aL} {B : Nat → Option aa} {N : Nat} {a b : Code} {pa pb : bN} {U : St} {l : Option aa}
def vQ{K:KT J}{β:Type}(f:β->Option J){lm:aa}{k k':β}
  (h1:ak Γ T B N a pa U (ap (some lm) (bE (λU'=>ak Γ T B N b pb U' (ap l K)) (ap l K)))=f k) (h2:k=k') :
  ak Γ T B N (.seq a b) (.mk (some lm) none pa pb) U (ap l K)=f k':=by
 subst h2;exact h1
def vI{K:KT J}(x:Operand)(t:Bool){A A':Option J}(h1:ak Γ T B N a pa U (ap l K)=A)(h2:ak Γ T B N b pb U (ap l K)=A')
  (hx:ev U x=.c (.bool t)):ak Γ T B N (.cond x a b) (.mk none none pa pb) U (ap l K)=cond t A A' :=
 wX rfl rfl hx h1 h2 rfl
def vB(id:Nat)(l:aa)(K:KT J)(W:Option J){lm:aa}{Z:Option J}(h1:ak Γ T B N a pa U (ap (some lm) (lT id (ap (some l) K)))=Z)(e:Z=W) :
  ak Γ T B N (.block id a) (.mk (some lm) none pa .n) U (ap (some l) K)=W :=
 wY rfl rfl h1 e
def vL(U:St){K:KT J}{cl:aa}{U':St}{W:Option J}(h1:bm (λU K=>ak Γ T B N a pa U K) cl N U' (ap l K)=W)(hs:eR cl U=some U') :
  ak Γ T B N (.loop a) (.mk none (some cl) pa .n) U (ap l K)=W :=
 wZ rfl rfl hs h1 rfl
def w9{α0 α1:Type}{cl:aa}{s:α0->α1->St}(K:KT J)(L:Nat->α0->α1->Option J)(G:α0->α1->(α0->α1->Option J)->Option J)
  (h:∀(F:St->Option J) x0 x1,ak Γ T B N a pa (s x0 x1) (ap (some cl) (bE F K))=G x0 x1 (λy0 y1=>F (s y0 y1)))
  (e:(L 0,λM=>L (M+1))=((λ_ _=>none),λM x0 x1=>G x0 x1 (L M))):∀M x0 x1,bm (λU K=>ak Γ T B N a pa U K) cl M (s x0 x1) K=L M x0 x1
 |0,x0,x1=>(congrFun (congrFun (congrArg Prod.fst e) x0) x1).symm
 |M+1,x0,x1=>(h _ x0 x1).trans ((congrArg (G x0 x1) (funext λy0=>funext λy1=>w9 K L G h e M y0 y1)).trans (congrFun (congrFun (congrFun (congrArg Prod.snd e) M) x0) x1).symm)
def fh{α0 α1 α2:Type}{cl:aa}{s:α0->α1->α2->St}(K:KT J)(L:Nat->α0->α1->α2->Option J)(G:α0->α1->α2->(α0->α1->α2->Option J)->Option J)
  (h:∀(F:St->Option J) x0 x1 x2,ak Γ T B N a pa (s x0 x1 x2) (ap (some cl) (bE F K))=G x0 x1 x2 (λy0 y1 y2=>F (s y0 y1 y2)))
  (e:(L 0,λM=>L (M+1))=((λ_ _ _=>none),λM x0 x1 x2=>G x0 x1 x2 (L M))):∀M x0 x1 x2,bm (λU K=>ak Γ T B N a pa U K) cl M (s x0 x1 x2) K=L M x0 x1 x2
 |0,x0,x1,x2=>(congrFun (congrFun (congrFun (congrArg Prod.fst e) x0) x1) x2).symm
 |M+1,x0,x1,x2=>(h _ x0 x1 x2).trans ((congrArg (G x0 x1 x2) (funext λy0=>funext λy1=>funext λy2=>fh K L G h e M y0 y1 y2)).trans (congrFun (congrFun (congrFun (congrFun (congrArg Prod.snd e) M) x0) x1) x2).symm)
def oI{α0 α1 α2 α3:Type}{cl:aa}{s:α0->α1->α2->α3->St}(K:KT J)(L:Nat->α0->α1->α2->α3->Option J)(G:α0->α1->α2->α3->(α0->α1->α2->α3->Option J)->Option J)
  (h:∀(F:St->Option J) x0 x1 x2 x3,ak Γ T B N a pa (s x0 x1 x2 x3) (ap (some cl) (bE F K))=G x0 x1 x2 x3 (λy0 y1 y2 y3=>F (s y0 y1 y2 y3)))
  (e:(L 0,λM=>L (M+1))=((λ_ _ _ _=>none),λM x0 x1 x2 x3=>G x0 x1 x2 x3 (L M))):∀M x0 x1 x2 x3,bm (λU K=>ak Γ T B N a pa U K) cl M (s x0 x1 x2 x3) K=L M x0 x1 x2 x3
 |0,x0,x1,x2,x3=>(congrFun (congrFun (congrFun (congrFun (congrArg Prod.fst e) x0) x1) x2) x3).symm
 |M+1,x0,x1,x2,x3=>(h _ x0 x1 x2 x3).trans ((congrArg (G x0 x1 x2 x3) (funext λy0=>funext λy1=>funext λy2=>funext λy3=>oI K L G h e M y0 y1 y2 y3)).trans (congrFun (congrFun (congrFun (congrFun (congrFun (congrArg Prod.snd e) M) x0) x1) x2) x3).symm)
def ma{α0 α1 α2 α3 α4:Type}{cl:aa}{s:α0->α1->α2->α3->α4->St}(K:KT J)(L:Nat->α0->α1->α2->α3->α4->Option J)(G:α0->α1->α2->α3->α4->(α0->α1->α2->α3->α4->Option J)->Option J)
  (h:∀(F:St->Option J) x0 x1 x2 x3 x4,ak Γ T B N a pa (s x0 x1 x2 x3 x4) (ap (some cl) (bE F K))=G x0 x1 x2 x3 x4 (λy0 y1 y2 y3 y4=>F (s y0 y1 y2 y3 y4)))
  (e:(L 0,λM=>L (M+1))=((λ_ _ _ _ _=>none),λM x0 x1 x2 x3 x4=>G x0 x1 x2 x3 x4 (L M))):∀M x0 x1 x2 x3 x4,bm (λU K=>ak Γ T B N a pa U K) cl M (s x0 x1 x2 x3 x4) K=L M x0 x1 x2 x3 x4
 |0,x0,x1,x2,x3,x4=>(congrFun (congrFun (congrFun (congrFun (congrFun (congrArg Prod.fst e) x0) x1) x2) x3) x4).symm
 |M+1,x0,x1,x2,x3,x4=>(h _ x0 x1 x2 x3 x4).trans ((congrArg (G x0 x1 x2 x3 x4) (funext λy0=>funext λy1=>funext λy2=>funext λy3=>funext λy4=>ma K L G h e M y0 y1 y2 y3 y4)).trans (congrFun (congrFun (congrFun (congrFun (congrFun (congrFun (congrArg Prod.snd e) M) x0) x1) x2) x3) x4).symm)
def mb{α0 α1 α2 α3 α4 α5:Type}{cl:aa}{s:α0->α1->α2->α3->α4->α5->St}(K:KT J)(L:Nat->α0->α1->α2->α3->α4->α5->Option J)(G:α0->α1->α2->α3->α4->α5->(α0->α1->α2->α3->α4->α5->Option J)->Option J)
  (h:∀(F:St->Option J) x0 x1 x2 x3 x4 x5,ak Γ T B N a pa (s x0 x1 x2 x3 x4 x5) (ap (some cl) (bE F K))=G x0 x1 x2 x3 x4 x5 (λy0 y1 y2 y3 y4 y5=>F (s y0 y1 y2 y3 y4 y5)))
  (e:(L 0,λM=>L (M+1))=((λ_ _ _ _ _ _=>none),λM x0 x1 x2 x3 x4 x5=>G x0 x1 x2 x3 x4 x5 (L M))):∀M x0 x1 x2 x3 x4 x5,bm (λU K=>ak Γ T B N a pa U K) cl M (s x0 x1 x2 x3 x4 x5) K=L M x0 x1 x2 x3 x4 x5
 |0,x0,x1,x2,x3,x4,x5=>(congrFun (congrFun (congrFun (congrFun (congrFun (congrFun (congrArg Prod.fst e) x0) x1) x2) x3) x4) x5).symm
 |M+1,x0,x1,x2,x3,x4,x5=>(h _ x0 x1 x2 x3 x4 x5).trans ((congrArg (G x0 x1 x2 x3 x4 x5) (funext λy0=>funext λy1=>funext λy2=>funext λy3=>funext λy4=>funext λy5=>mb K L G h e M y0 y1 y2 y3 y4 y5)).trans (congrFun (congrFun (congrFun (congrFun (congrFun (congrFun (congrFun (congrArg Prod.snd e) M) x0) x1) x2) x3) x4) x5).symm)
def xa{α0 α1 α2 α3 α4 α5 α6:Type}{cl:aa}{s:α0->α1->α2->α3->α4->α5->α6->St}(K:KT J)(L:Nat->α0->α1->α2->α3->α4->α5->α6->Option J)(G:α0->α1->α2->α3->α4->α5->α6->(α0->α1->α2->α3->α4->α5->α6->Option J)->Option J)
  (h:∀(F:St->Option J) x0 x1 x2 x3 x4 x5 x6,ak Γ T B N a pa (s x0 x1 x2 x3 x4 x5 x6) (ap (some cl) (bE F K))=G x0 x1 x2 x3 x4 x5 x6 (λy0 y1 y2 y3 y4 y5 y6=>F (s y0 y1 y2 y3 y4 y5 y6)))
  (e:(L 0,λM=>L (M+1))=((λ_ _ _ _ _ _ _=>none),λM x0 x1 x2 x3 x4 x5 x6=>G x0 x1 x2 x3 x4 x5 x6 (L M))):∀M x0 x1 x2 x3 x4 x5 x6,bm (λU K=>ak Γ T B N a pa U K) cl M (s x0 x1 x2 x3 x4 x5 x6) K=L M x0 x1 x2 x3 x4 x5 x6
 |0,x0,x1,x2,x3,x4,x5,x6=>(congrFun (congrFun (congrFun (congrFun (congrFun (congrFun (congrFun (congrArg Prod.fst e) x0) x1) x2) x3) x4) x5) x6).symm
 |M+1,x0,x1,x2,x3,x4,x5,x6=>(h _ x0 x1 x2 x3 x4 x5 x6).trans ((congrArg (G x0 x1 x2 x3 x4 x5 x6) (funext λy0=>funext λy1=>funext λy2=>funext λy3=>funext λy4=>funext λy5=>funext λy6=>xa K L G h e M y0 y1 y2 y3 y4 y5 y6)).trans (congrFun (congrFun (congrFun (congrFun (congrFun (congrFun (congrFun (congrFun (congrArg Prod.snd e) M) x0) x1) x2) x3) x4) x5) x6).symm)
def sH{α0 α1 α2 α3 α4 α5 α6 α7:Type}{cl:aa}{s:α0->α1->α2->α3->α4->α5->α6->α7->St}(K:KT J)(L:Nat->α0->α1->α2->α3->α4->α5->α6->α7->Option J)(G:α0->α1->α2->α3->α4->α5->α6->α7->(α0->α1->α2->α3->α4->α5->α6->α7->Option J)->Option J)
  (h:∀(F:St->Option J) x0 x1 x2 x3 x4 x5 x6 x7,ak Γ T B N a pa (s x0 x1 x2 x3 x4 x5 x6 x7) (ap (some cl) (bE F K))=G x0 x1 x2 x3 x4 x5 x6 x7 (λy0 y1 y2 y3 y4 y5 y6 y7=>F (s y0 y1 y2 y3 y4 y5 y6 y7)))
  (e:(L 0,λM=>L (M+1))=((λ_ _ _ _ _ _ _ _=>none),λM x0 x1 x2 x3 x4 x5 x6 x7=>G x0 x1 x2 x3 x4 x5 x6 x7 (L M))):∀M x0 x1 x2 x3 x4 x5 x6 x7,bm (λU K=>ak Γ T B N a pa U K) cl M (s x0 x1 x2 x3 x4 x5 x6 x7) K=L M x0 x1 x2 x3 x4 x5 x6 x7
 |0,x0,x1,x2,x3,x4,x5,x6,x7=>(congrFun (congrFun (congrFun (congrFun (congrFun (congrFun (congrFun (congrFun (congrArg Prod.fst e) x0) x1) x2) x3) x4) x5) x6) x7).symm
 |M+1,x0,x1,x2,x3,x4,x5,x6,x7=>(h _ x0 x1 x2 x3 x4 x5 x6 x7).trans ((congrArg (G x0 x1 x2 x3 x4 x5 x6 x7) (funext λy0=>funext λy1=>funext λy2=>funext λy3=>funext λy4=>funext λy5=>funext λy6=>funext λy7=>sH K L G h e M y0 y1 y2 y3 y4 y5 y6 y7)).trans (congrFun (congrFun (congrFun (congrFun (congrFun (congrFun (congrFun (congrFun (congrFun (congrArg Prod.snd e) M) x0) x1) x2) x3) x4) x5) x6) x7).symm)
end
def bP[DC]{P:Program}[Inv P]{Γ:Gm}{T:aL}{B:Nat->Option aa}{f:Nat}{fn:Func}{c:Code}{sig:bf}{pre:Option (aj sig.ps->Bool)}{val:aj sig.ps->ca sig.ps×aj sig.rs}{pl:bN}{je:Option aa}
  {W:Nat->aj sig.ps->KT (ca sig.ps×aj sig.rs)->Option (ca sig.ps×aj sig.rs)} (hf:P.funcs[f]? = some fn) (hT:aG P T) (hΓ:ao P Γ)
  (ht:∀N X K,ak Γ T B N c pl (bG sig.ps X) (ap je K)=W N X K)
  (hb : (fn.body, fn.name == "runtime.NumGoroutine", P.follows .mixedOrders, dj fn.ntmps c && (Nat.ble sig.ps.length fn.ntmps && (Nat.ble fn.ntmps 100000 && cM sig.ps))) = (some c, false, true, true))
  (hG:∀X,eB sig.ps X->a8 pre X=true->∃N,W N X (su T sig fn.results.toList)=some (val X)):ax P f ⟨sig,pre,val⟩:=by
 have h4:=congrArg (λq=>q.2.2.2) hb;simp only[Bool.and_eq_true]at h4;exact DZ hf (congrArg Prod.fst hb) (congrArg (λq=>q.2.1) hb) (congrArg (λq=>q.2.2.1) hb) hT hΓ h4.1 h4.2.1 h4.2.2.1 h4.2.2.2 λX h1 h2=>by obtain⟨N,h⟩:=hG X h1 h2;exact⟨N,(ht N X _).trans h⟩
def jw[DC]{P:Program}[Inv P]{Γ:Gm}{T:aL}{B:Nat->Option aa}{f:Nat}{fn:Func}{c:Code}{k:cy}{ps rs:List PT}{back:Bool}{pre:Option ((cb k.fx×k.t.den)×aj ps->Bool)}{val:(cb k.fx×k.t.den)×aj ps->k.t.den×(ew back ps×aj rs)}{pl:bN}{je:Option aa}
  {W:Nat->Value->(cb k.fx×k.t.den)×aj ps->KT (List Value×(k.t.den×(ew back ps×aj rs)))->Option (List Value×(k.t.den×(ew back ps×aj rs)))} (hf:P.funcs[f]? = some fn) (hT:aG P T) (hΓ:ao P Γ)
  (ht:∀N u X K,ak Γ T B N c pl (db k ps [u] X) (ap je K)=W N u X K)
  (hb : (fn.body, fn.name == "runtime.NumGoroutine", P.follows .mixedOrders, dj fn.ntmps c && (Nat.ble (ps.length + 1) fn.ntmps && (Nat.ble fn.ntmps 100000 && (Nat.beq k.fx.length 1 && Nat.blt k.te bi)))) = (some c, false, true, true))
  (hG:∀u X,oF k.fx X.1.1->eB ps X.2->a8 pre X=true->∃N,W N u X (wS T k ps back rs fn.results.toList)=some ([u],val X)):cW P f ⟨k,ps,back,rs,pre,val⟩:=by
 have h4:=congrArg (λq=>q.2.2.2) hb;simp only[Bool.and_eq_true]at h4;exact D6 hf (congrArg Prod.fst hb) (congrArg (λq=>q.2.1) hb) (congrArg (λq=>q.2.2.1) hb) hT hΓ h4.1 h4.2.1 h4.2.2.1 (λlit X hl h1 h2 h3=>by
  have hl:=hl.trans (Nat.eq_of_beq_eq_true h4.2.2.2.1);match lit,hl with
  |[u],_ =>obtain⟨N,h⟩:=hG u X h1 h2 h3;exact⟨N,(ht N u X _).trans h⟩) h4.2.2.2.2
def Ev[DC]{P:Program}[Inv P]{Γ:Gm}{T:aL}{B:Nat->Option aa}{f:Nat}{fn:Func}{c:Code}{te e:Nat}{t0 t:Ty}{ps:List PT}{pre:Option (aj (⟨.sl e t0,false,false⟩::ps)->Bool)}{val:aj (⟨.sl e t0,false,false⟩::ps)->t.den}{pl:bN}{je:Option aa}
  {W:Nat->Value->aj (⟨.sl e t0,false,false⟩::ps)->KT (List Value×t.den)->Option (List Value×t.den)} (hf:P.funcs[f]? = some fn) (hT:aG P T) (hΓ:ao P Γ)
  (ht:∀N u X K,ak Γ T B N c pl (jv e t0 ps u X) (ap je K)=W N u X K)
  (hb : (fn.body, fn.name == "runtime.NumGoroutine", P.follows .mixedOrders, dj fn.ntmps c && (Nat.ble (ps.length + 1) fn.ntmps && (Nat.ble fn.ntmps 100000 && (bj ps && Nat.blt te bi)))) = (some c, false, true, true))
  (hG:∀u X,eB (⟨.sl e t0,false,false⟩::ps) X->a8 pre X=true->∃N,W N u X (wV T ⟨te,[(e,t0)],t⟩ fn.results.toList)=some ([u],val X)):ia P f ⟨⟨te,[(e,t0)],t⟩,⟨.sl e t0,false,false⟩::ps,pre,val⟩:=by
 have h4:=congrArg (λq=>q.2.2.2) hb;simp only[Bool.and_eq_true]at h4;exact D7 hf (congrArg Prod.fst hb) (congrArg (λq=>q.2.1) hb) (congrArg (λq=>q.2.2.1) hb) hT hΓ h4.1 h4.2.1 h4.2.2.1 h4.2.2.2.1 (λu X h1 h2=>by obtain⟨N,h⟩:=hG u X h1 h2;exact⟨N,(ht N u X _).trans h⟩) h4.2.2.2.2
end Go.Fw
namespace Go.Fw
section
variable {J : Type} {N : Nat} {b : Bool} {x y : J}
def ct(h:b=true):cond (lk N b) x y=x:=by rw[aM,h];rfl
def cf(h:b=false):cond (lk N b) x y=y:=by rw[aM,h];rfl
def dc(h:b=true):cond b x y=x:=by rw[h];rfl
def eT(h:b=false):cond b x y=y:=by rw[h];rfl
end
def dt{p:Prop}[Decidable p](h:p):decide p=true:=decide_eq_true h
def df{p:Prop}[Decidable p](h:¬ p):decide p=false:=decide_eq_false h
def nt{p:Prop}[Decidable p](h:¬ p):(!(decide p))=true:=by simp[h]
def nf{p:Prop}[Decidable p](h:p):(!(decide p))=false:=by simp[h]
def cR:maxLen=9223372036854775807:=rfl
def bh{j m:Nat}(h:j<m):aI (j:Int) m=true:=by
 have:(j:Int)<m:=by omega
 simp[aI,this]
def xc{i:Int}{m:Nat}(h0:0<=i)(h1:i<m):aI i m=true:=by simp[aI,h0,h1]
def cO{n:Int}(h0:-9223372036854775808<=n)(h1:n<9223372036854775808):af n=n:=by
 show(if(true&&decide (n%18446744073709551616 ≥ 9223372036854775808))=true then n%18446744073709551616-18446744073709551616 else n%18446744073709551616)=n;by_cases h:n%18446744073709551616 ≥ 9223372036854775808;·rw[if_pos (by simp[h])];omega
 ·rw[if_neg (by simp[h])];omega
def cI{j:Nat}(h:j<maxLen):af ((j:Int)+1)=((j+1:Nat):Int):=by rw[cO (by omega) (by rw[cR]at h;omega)];omega
end Go.Fw
namespace Go.Fw
def dA{α:Type}{l:List α}{j:Nat}(d:α)(h:j<l.length):l.drop j=l.getD j d::l.drop (j+1):=by rw[List.drop_eq_getElem_cons h,List.getD_eq_getElem?_getD,List.getElem?_eq_getElem h,Option.getD_some]
def ir{α:Type}{l:List α}{j:Nat}(d:α)(h:j<l.length):l.take j++[l.getD j d]=l.take (j+1):=by rw[List.take_add_one,List.getD_eq_getElem?_getD,List.getElem?_eq_getElem h];rfl
def dK{α:Type}{l:List α}{j:Nat}(d:α)(h:j<l.length):l.getD j d∈l:=by rw[List.getD_eq_getElem?_getD,List.getElem?_eq_getElem h];exact List.getElem_mem h
def cz(n:Int):Bool:=decide (-9223372036854775808<=n)&&decide (n<=9223372036854775807)
end Go.Fw
set_option linter.unusedSimpArgs false
namespace Go.Fw
open Go.RowKit
def mc(ok:Nat->Ty->Bool)(P:Program):List Field->Ty->Nat->Bool
 |[f],ty,off=>Nat.beq f.offset off&&(Nat.beq (P.cellsOf f.type) ty.nc&&ok f.type ty)
 |f::g::fs,.pair a b,off=>(Nat.beq f.offset off&&(Nat.beq (P.cellsOf f.type) a.nc&&ok f.type a))&&mc ok P (g::fs) b (off+a.nc)
 |_,_,_=>false
def jx(P:Program):Nat->Nat->Ty->Bool
 |0,_,_=>false
 |n+1,t,ty=>match P.underlying t,ty with
  |some .bool,.bool=>true
  |some (.int k),.int k'=>gk k k'
  |some .string,.str=>true
  |some (.slice e),.sl e' ty'=>Nat.beq e' e&&(Nat.beq (P.cellsOf e) ty'.nc&&jx P n e ty')
  |some (.struct fs),ty=>Nat.beq (P.cellsOf t) ty.nc&&mc (jx P n) P fs.toList ty 0
  |_,_=>false
def Ty.wfb:(t:Ty)->t.den->Bool
 |.int k,n=>(Lit.int k n).wf
 |.bool,_=>true
 |.str,s=>decide (s.size<=maxLen)
 |.fnc _,_=>false
 |.err,_=>false
 |.sl _ t,xs=>xs.all t.wfb
 |.pair a b,x=>a.wfb x.1&&b.wfb x.2
def xd{α:Type}{m:Nat}(hm:0<m):∀{css:List (List α)}{k:Nat}{u:α},(∀c∈css,c.length=m)->css.flatten[k]? = some u->∃i j c,i<css.length/\k=i*m+j/\css[i]? = some c/\c[j]? = some u
 |[],k,u,_,h=>by simp at h
 |c::css,k,u,hc,h=>by
  have hl:=hc c List.mem_cons_self;rw[List.flatten_cons]at h;by_cases hk:k<m;·rw[List.getElem?_append_left (by omega)]at h;exact⟨0,k,c,by simp,by omega,rfl,h⟩
  ·rw[List.getElem?_append_right (by omega),hl]at h;obtain⟨i,j,c',h1,h2,h3,h4⟩:=xd hm (λc h=>hc c (List.mem_cons_of_mem _ h)) h;refine⟨i+1,j,c',by simpa using h1, ?_,h3,h4⟩;rw[Nat.add_mul];omega
section
variable {H : Type} {enc : TypeId × Value → H} {P : Program} {w : World}
def Ey{α:Type}{Q:Nat->List Value->α->Prop}:∀(n:Nat),(∀i,i<n->∃c x,Q i c x)->∃(css:List (List Value)) (xs:List α),css.length=n/\xs.length=n/\∀i c x,css[i]? = some c->xs[i]? = some x->Q i c x:=by
 intro n;induction n with
 |zero=>intro _;exact⟨[],[],rfl,rfl,λi c x h=>by simp at h⟩
 |succ n ih =>
  intro h;obtain⟨css,xs,h1,h2,h3⟩:=ih λi hi=>h i (by omega);obtain⟨c,x,hq⟩:=h n (by omega);refine⟨css++[c],xs++[x],by simp[h1],by simp[h2],λi c' x' hc hx=>?_⟩;by_cases hi:i<n;·rw[List.getElem?_append_left (by omega)]at hc hx;exact h3 i c' x' hc hx
  ·have hlt:=(List.getElem?_eq_some_iff.1 hc).1;have:i=n:=by simp[h1]at hlt;omega
   subst this;rw[List.getElem?_append_right (by omega),h1]at hc;rw[List.getElem?_append_right (by omega),h2]at hx;simp at hc hx;subst hc hx;exact hq
def xe{α β:Type}{R:α->β->Prop}:∀{as:List α}{bs:List β},as.length=bs.length->(∀(i:Nat) a b,as[i]? = some a->bs[i]? = some b->R a b)->ac R as bs
 |[],[],_,_=>trivial
 |a::as,b::bs,hl,h=>⟨h 0 a b rfl rfl,xe (by simpa using hl) λi a b ha hb=>h (i+1) a b (by simpa using ha) (by simpa using hb)⟩
 |[],_::_,hl,_=>by simp at hl
 |_::_,[],hl,_=>by simp at hl
def Ez:∀(n:Nat) {fuel t:Nat}{ty:Ty}{cs:List Value}{d:DataW H}{ps:List MemPlace},jx P n t ty=true->DataW.trod enc P w 0 (λ_=>true) true fuel t cs=some (d,ps) ->
  ∃x:ty.den,Rd w (λ_=>True) ty cs x/\ty.wfb x=true:=by
 intro n;induction n with
 |zero=>intro _ _ _ _ _ _ h;cases h
 |succ n ih =>
  have fields:∀{fuel:Nat}{cs:List Value} (fs:List Field) {ty:Ty}{off:Nat} (xs:List (DataW H×List MemPlace)),mc (jx P n) P fs ty off=true->cs.length=off+ty.nc ->
    (∀(i:Nat) (f:Field),fs[i]? = some f->DataW.trod enc P w 0 (λ_=>true) true fuel f.type ((cs.drop f.offset).take (P.cellsOf f.type))=xs[i]?)->xs.length=fs.length ->
    ∃x:ty.den,Rd w (λ_=>True) ty (cs.drop off) x/\ty.wfb x=true:=by
   intro fuel cs fs;induction fs with
   |nil=>intro ty off xs h;cases ty<;>cases h
   |cons f fs ihf =>
    intro ty off xs h hlen hx hxl;cases fs with
    |nil =>simp only[mc,Bool.and_eq_true]at h;obtain⟨e1,e2,e3⟩:=h;have e1:=Nat.eq_of_beq_eq_true e1;have e2:=Nat.eq_of_beq_eq_true e2;have h0:=hx 0 f rfl;rw[e1,e2,List.take_of_length_le (by rw[List.length_drop];omega)]at h0;obtain⟨⟨d,ps⟩,hd⟩:∃y,xs[0]? = some y:=⟨xs[0]'(by rw[hxl];simp),List.getElem?_eq_getElem _⟩;rw[hd]at h0;exact ih e3 h0
    |cons g fs =>
     cases ty with
     |pair a b =>
      simp only[mc,Bool.and_eq_true]at h;obtain⟨⟨e1,e2,e3⟩,e4⟩:=h;have e1:=Nat.eq_of_beq_eq_true e1;have e2:=Nat.eq_of_beq_eq_true e2;have hlen:cs.length=off+(a.nc+b.nc):=hlen;have h0:=hx 0 f rfl;rw[e1,e2]at h0;obtain⟨⟨d,ps⟩,hd⟩:∃y,xs[0]? = some y:=⟨xs[0]'(by rw[hxl];simp),List.getElem?_eq_getElem _⟩;rw[hd]at h0;obtain⟨x1,r1,w1⟩:=ih e3 h0;cases xs with
      |nil=>simp at hxl
      |cons x0 xs =>obtain⟨x2,r2,w2⟩:=ihf (ty:=b) (off:=off+a.nc) xs e4 (by omega) (λi f hf=>by simpa using hx (i+1) f (by simpa using hf)) (by simpa using hxl);refine⟨(x1,x2),⟨(cs.drop off).take a.nc,cs.drop (off+a.nc), ?_,r1,r2⟩,by simp[Ty.wfb,w1,w2]⟩;rw[<-List.drop_drop,List.take_append_drop]
     |_=>cases h
  intro fuel t ty cs d ps hok htr;unfold jx at hok;split at hok;·rename_i hu;obtain⟨b,rfl,_⟩:=DataW.trod_bool hu htr;exact⟨b,rfl,rfl⟩
  ·rename_i k k' hu;obtain rfl:=lh hok;obtain⟨m,rfl,_,hw⟩:=DataW.trod_int hu htr;exact⟨m,rfl,hw⟩
  ·rename_i hu;obtain⟨s,rfl,_,hs⟩:=DataW.trod_string hu htr;exact⟨s,rfl,by simp[Ty.wfb,hs]⟩
  ·rename_i e e' ty' hu;simp only[Bool.and_eq_true]at hok;obtain⟨e1,e2,e3⟩:=hok;obtain rfl:=Nat.eq_of_beq_eq_true e1;have e2:=Nat.eq_of_beq_eq_true e2;rcases DataW.trod_slice hu htr with⟨rfl,_⟩|⟨a,len,cap,elems,rest,m,_,rfl,_,_,h1,h2,h3,h4,_⟩;·exact⟨[],⟨none,0,0,rfl,rfl,Nat.le_refl _,Nat.zero_le _,.inl rfl⟩,rfl⟩
   ·obtain⟨css,xs,k1,k2,k3⟩:=Ey (Q:=λi c (x:ty'.den)=>w.cells? 0 (a.add (i*ty'.nc)) ty'.nc=some c/\Rd w (λ_=>True) ty' c x/\ty'.wfb x=true) len (λi hi=>by have:=h4 i hi;rw[e2]at this;obtain⟨⟨d,ps⟩,hd⟩:∃y,elems[i]? = some y:=⟨elems[i]'(by omega),List.getElem?_eq_getElem _⟩;rw[hd]at this;obtain⟨c,hc,hc2⟩:=Option.bind_eq_some_iff.1 this;obtain⟨x,hx1,hx2⟩:=ih e3 hc2;exact⟨c,x,hc,hx1,hx2⟩);have hall:ac (λc (x:ty'.den)=>Rd w (λ_=>True) ty' c x) css xs:=xe (by omega) λi c x hc hx=>(k3 i c x hc hx).2.1;refine⟨xs,⟨some a,len,cap,rfl,k2,h1,h2,.inr ⟨a,css,rfl,trivial,hall,λk u hk=>?_⟩⟩, ?_⟩
    ·obtain⟨i,j,c,i1,rfl,i3,i4⟩:=xd ty'.nc_pos (hall.fst (len:=List.length) λc x h=>h.len) hk;obtain⟨x,hx⟩:∃x,xs[i]? = some x:=⟨xs[i]'(by omega),List.getElem?_eq_getElem _⟩;obtain⟨q1,q2,_⟩:=k3 i c x i3 hx;obtain⟨_,q3,q4⟩:=World.cells?_some q1;have hj:j<ty'.nc:=by rw[<-q3];exact(List.getElem?_eq_some_iff.1 i4).1
     rw[<-li,q4 j hj];exact i4
    ·simp only[Ty.wfb,List.all_eq_true];intro x hx;obtain⟨i,hi,rfl⟩:=List.getElem_of_mem hx;exact(k3 i (css[i]'(by omega)) xs[i] (List.getElem?_eq_getElem _) (List.getElem?_eq_getElem _)).2.2
  ·rename_i ty fs hu;simp only[Bool.and_eq_true]at hok;obtain⟨e1,e2⟩:=hok;have e1:=Nat.eq_of_beq_eq_true e1;obtain⟨xs,m,_,_,h1,h2,h3⟩:=DataW.trod_struct hu htr;have:=fields (fuel:=m) fs.toList xs e2 (by omega) (λi f hf=>h3 i f (by simpa using hf)) (by simpa using h2);simpa using this
  ·cases hok
def sI(P:Program)(t:Nat):Bool:=match P.underlying t with
 |some (.struct _)=>true
 |_=>false
def oJ(P:Program):List Nat->List PT->Bool
 |[],[]=>true
 |t::ts,p::ps=>(!p.io&&(jx P 20 t p.t&&sI P t == p.agg))&&oJ P ts ps
 |_,_=>false
def oK:(ps:List PT)->aj ps->Bool
 |[],_=>true
 |p::ps,X=>p.t.wfb X.1&&oK ps X.2
open Go.WideShapes in
def xf{base:Nat}:∀{ts:List Nat}{ps:List PT}{vs:List Value}{ds:List (DataW H)}{pl:List MemPlace},oJ P ts ps=true->(∀(j:Nat) t v,ts[j]? = some t->vs[j]? = some v->Value.okWide P w .any base t v) ->
  DataW.TrodAll enc P w 0 (λ_=>true) true ts vs ds pl->∃X:aj ps,da w [] ps vs X/\oK ps X=true
 |[],[],[],_,_,_,_,_=>⟨(),trivial,rfl⟩
 |t::ts,p::ps,v::vs,[],_,_,_,hd=>hd.elim
 |t::ts,p::ps,v::vs,d::ds,pl,hp,hv,hd=>by
  obtain⟨p1,p2,⟨fuel,h1⟩,h2,_⟩:=hd;simp only[oJ,Bool.and_eq_true,Bool.not_eq_true']at hp;obtain⟨⟨hio,hty,hag⟩,hps⟩:=hp;obtain⟨X,x1,x2⟩:=xf hps (λj t v ht hv'=>hv (j+1) t v (by simpa using ht) (by simpa using hv')) h2;obtain⟨x,r1,r2⟩:=Ez 20 hty h1;have hw:=hv 0 t v rfl rfl;have hag:sI P t=p.agg:=by simpa using hag
  refine⟨(x,X),⟨⟨v.cells.toList, ?_, ?_⟩,x1⟩,by simp[oK,r2,x2]⟩
  ·rw[<-hag];unfold sI;have hty':=hty;unfold jx at hty';split at hty';·rename_i hu _;obtain⟨b,rfl⟩:=okWide_bool hu hw;rw[hu];rfl
   ·rename_i hu _;obtain⟨b,rfl⟩:=okWide_int hu hw;rw[hu];rfl
   ·rename_i hu _;obtain⟨b,rfl⟩:=okWide_string hu hw;rw[hu];rfl
   ·rename_i hu _;obtain⟨a,l,c,rfl⟩:=okWide_slice hu hw;rw[hu];rfl
   ·rename_i hu;obtain⟨cs,rfl,_⟩:=okWide_struct hu hw;rw[hu];exact⟨cs,rfl,rfl⟩
   ·cases hty'
  ·rw[hio];exact r1.mono λk _ hk=>by cases hk
 |[],_::_,_,_,_,h,_,_=>by cases h
 |_::_,[],_,_,_,h,_,_=>by cases h
 |[],[],_::_,[],_,_,_,h=>h.elim
 |[],[],_::_,_::_,_,_,_,h=>h.elim
 |_::_,_::_,[],[],_,_,_,h=>h.elim
 |_::_,_::_,[],_::_,_,_,_,h=>h.elim
def xg(hl:laidOutB P=true){w':World}(hb:Below w.heap.size w w'):∀{ts:List Nat}{vs:List Value}{ds:List (DataW H)}{pl:List MemPlace},(ts.all λt=>P.readableRec t&&decide (t<P.types.size))=true ->
  DataW.TrodAll enc P w 0 (λ_=>true) true ts vs ds pl->(∀p∈pl,p.block<w.heap.size)->DataW.TrodAll enc P w' 0 (λb=>decide (b<w.heap.size)) true ts vs ds pl
 |[],[],[],_,_,h,_=>h
 |t::ts,v::vs,d::ds,pl,hr,h,hlt=>by obtain⟨p,q,h1,h2,rfl⟩:=h;simp only[List.all_cons,Bool.and_eq_true,decide_eq_true_eq]at hr;exact⟨p,q,Below.trod hl hr.1.1 hr.1.2 h1 hb λx hx=>hlt x (List.mem_append_left _ hx),xg hl hb hr.2 h2 λx hx=>hlt x (List.mem_append_right _ hx),rfl⟩
 |[],[],_::_,_,_,h,_=>h.elim
 |[],_::_,[],_,_,h,_=>h.elim
 |[],_::_,_::_,_,_,h,_=>h.elim
 |_::_,[],[],_,_,h,_=>h.elim
 |_::_,[],_::_,_,_,h,_=>h.elim
 |_::_,_::_,[],_,_,h,_=>h.elim
def EA{ts:List Nat}:∀{vs:List Value}{ds:List (DataW H)}{pl:List MemPlace}{base:Nat}{sp:Nat->Bool}{held:Bool},DataW.TrodAll enc P w base sp held ts vs ds pl->ds.length=ts.length:=by intro vs ds pl base sp held h;exact(trodAll_length h).2
theorem EB [Inv P] {f : Nat} {fn : Func} {ps : List PT} {pre : Option (aj ps → Bool)} {val : aj ps → ca ps × aj [⟨.bool, false, false⟩]} (hE : ax P f ⟨⟨ps, [⟨.bool, false, false⟩]⟩, pre, val⟩) (hf : P.funcs[f]? = some fn) (hb : fn.body.isSome = true) (hname : (fn.name == "runtime.NumGoroutine") = false)
  (hno:bj ps=true) (hval:∀X,(val X).2=(true,())) {args:Array Value}{X:aj ps} (hX:da w [] ps args.toList X) (hp:a8 pre X=true) (hI:Inv.I P w) :
  Calls P f args w λe w'=>e=.returned (.bool true)/\Below w.heap.size w w':=by
 have hG:(aO.G ⟨⟨ps,[⟨.bool,false,false⟩]⟩,pre,val⟩ X)=some (val X):=by show cond (a8 pre X) (some (val X)) none=_;rw[hp];rfl
 rcases hE w args [] X (val X).1 (val X).2 hX (λ_=>rfl) List.nodup_nil (λk hk=>by cases hk) hG hI (λk hk=>by cases hk)with⟨_,h⟩|⟨v,w',h,_⟩
 ·refine h.mono ?_;rintro e w' ⟨v,vs,L',Lr,rfl,A⟩
  have hr:=A.res;rw[hval X]at hr;have hret:=A.ret;cases vs with
  |nil=>exact hr.elim
  |cons u us=>cases us with
   |cons _ _ =>obtain⟨_,_,_,_,_,_,_,h⟩:=hr;exact h.elim
   |nil =>obtain⟨cs,L1,L2,_,hc,ho,_,_⟩:=hr;obtain rfl:cs=[u]:=hc;obtain⟨e1,_⟩:=ho;injection e1 with e1;subst e1;obtain rfl:v=.bool true:=hret;exact⟨rfl,A.os,A.tape.tape,A.output,A.size,λk hk=>A.old k hk (by simp)⟩
 ·exfalso
  have h1 : ¬ fn.name = "runtime.NumGoroutine" := by simpa using hname
  have h2:¬ fn.body=none:=λe=>by rw[e]at hb;cases hb
  simp[callFunc,hf,h1,h2]at h
theorem EC [Inv P] {f : Nat} {fn : Func} {ps : List PT} {pre : Option (aj ps → Bool)} {val : aj ps → ca ps × aj [⟨.bool, false, false⟩]} (hE : ax P f ⟨⟨ps, [⟨.bool, false, false⟩]⟩, pre, val⟩) (hf : P.funcs[f]? = some fn) (hb : fn.body.isSome = true) (hname : (fn.name == "runtime.NumGoroutine") = false)
  (hno:bj ps=true) (hval:∀X,(val X).2=(true,())) (hpre:∀X,oK ps X=true->a8 pre X=true) (hpar:oJ P fn.params.toList ps=true) (hl:laidOutB P=true) (hrd:(fn.params.toList.all λt=>P.readableRec t&&decide (t<P.types.size))=true)
  {bt:Nat} (hres:fn.resultTypes=#[bt]) (hbt:P.underlying bt=some .bool) {s:ChangeSpec} (hsv:s.vars=[]) (hsf:∀(H:Type) (ds:List (DataW H)),ds.length=fn.params.toList.length->s.fn H ds={ results:=[.lit (.bool true)],args:=ds })
  (W:World) (base:Nat) (args:Array Value) (ds gs:List (DataW H)) (dw:List MemPlace) (hval0:∀(j:Nat) t v,fn.params[j]? = some t->args[j]? = some v->Value.okWide P W .any base t v)
  (hW:DataW.Whole enc P fn.params.toList s.vars false W args.toList ds gs dw) (hI:Inv.I P W) :
  Calls P f args W λe W'=>∃v,e=.returned v/\s.post enc P fn false true false false W args v W':=by
 obtain⟨p,q,hA,hV,hbf,hfz,hnd⟩:=id hW;have hgs:gs=[]/\q=[]:=by
  rw[hsv]at hV;cases gs with
  |nil=>exact⟨rfl,hV⟩
  |cons _ _=>exact hV.elim
 obtain⟨rfl,rfl⟩:=hgs;obtain⟨X,hX,hXw⟩:=xf hpar (λj t v ht hv=>hval0 j t v (by simpa using ht) (by simpa using hv)) hA;refine(EB hE hf hb hname hno hval hX (hpre X hXw) hI).mono ?_;rintro e W' ⟨rfl,bel⟩
 have hfn:=hsf H (ds++[]) (by rw[List.append_nil];exact EA hA);refine⟨_,rfl,ds,[],dw,[],p,[],hW, ?_, ?_, ?_,bel.frame _,λh=>by cases h⟩;·rw[hfn,hres];exact ChangeShapes.trodAll_mk1 (shut_bool hbt _)
 ·rw[hfn];simp only[List.append_nil];exact xg hl bel hrd hA hA.lt
 ·rw[hfn,hsv];rfl
end
end Go.Fw
