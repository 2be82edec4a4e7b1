/- The plain part: what the functions compute, in lists and numbers. Nothing is assumed. -/
import Derived.Test.YtakkbbpdfmkbnaaPuFnColoursa
import Derived.Test.YtakkbbpdfmkbnaaFwd
noncomputable section
set_option linter.defProp false
set_option linter.unusedVariables false
namespace Go.Fw
def qF{m:Int×Int×List Int}(hd:az m=true):bi m=true↔∀i,i<m.2.1.toNat->∀j,j<m.1.toNat->-99<=ae m i j/\ae m i j<=99:=by
 obtain⟨n,r,hn,hr,hn1,hn5,hnr,hr8,hl⟩:=aN hd;have e0:m.1.toNat=n:=by omega
 rw[oq];constructor
 ·rintro ⟨_,h⟩ i hi j hj
  have:=fU (n:=n) (r:=r) (i:=i) (j:=j) (by omega) (by omega);refine h _ (bF 0 ?_);rw[e0];omega
 ·intro h;refine⟨hd,λx hx=>?_⟩;obtain⟨p,hp,rfl⟩:=List.getElem_of_mem hx;have hp2:p<r*n:=by omega
  have hi:p / n<r:=Nat.div_lt_of_lt_mul (by rw[Nat.mul_comm];exact hp2);have hj:p%n<n:=Nat.mod_lt _ (by omega);have:=h (p / n) (by omega) (p%n) (by omega);have e:p / n*m.1.toNat+p%n=p:=by rw[e0,Nat.mul_comm];exact Nat.div_add_mod p n
  unfold ae at this;rw[e]at this;simpa only[List.getD_eq_getElem?_getD,List.getElem?_eq_getElem hp,Option.getD_some]using this
section
variable {m : Int × Int × List Int} {L : List Nat} (hd : az m = true) (h1 : L.Nodup) (h2 : ∀ x ∈ L, x < m.1.toNat) (h3 : L.length = m.1.toNat)
include hd h1 h2 h3
theorem Ly:bi (b9 m (aB L))=bi m:=by
 obtain⟨n,r,hn,hr,hn1,hn5,hnr,hr8,hl⟩:=aN hd;rw[Bool.eq_iff_iff,qF (mH _ hd),qF hd];show(∀i,i<m.2.1.toNat->∀j,j<m.1.toNat->-99<=ae (b9 m (aB L)) i j/\ae (b9 m (aB L)) i j<=99)↔_;constructor;·intro h i hi j hj;have a1:=Cv (r:=m.2.1.toNat) h1 h2 h3 (by omega) hi;have a2:=h2 _ (bF (l:=L) (j:=j) 0 (by omega));have:=h _ a1 _ a2;rw[fX hd _ a1 a2,g9,Ct h1 h2 h3,jw h1 (by omega)]at this;exact this
 ·intro h i hi j hj;rw[fX hd _ hi hj,g9];have:=(dP (eJ h1 h2 h3 hj)).1;exact h _ (xK h1 h2 h3 (by omega) hi) _ (by omega)
theorem Lz{k:Nat}(hk:k<m.1.toNat):aI (b9 m (aB L)) (L.getD k 0)=b9 (aI m k) (aB L):=by
 obtain⟨n,r,hn,hr,hn1,hn5,hnr,hr8,hl⟩:=aN hd;have hx:=h2 _ (bF (l:=L) (j:=k) 0 (by omega));have dR:=mH (aB L) hd;refine tz (gZ dR _) rfl rfl (by simp[aI,b9]) λp q hp hq=>?_;have hp:p<m.2.1.toNat:=hp;have hq:q<m.1.toNat:=hq;have pq:=(dP (eJ h1 h2 h3 hq));have bp:=xK (r:=m.2.1.toNat) h1 h2 h3 (by omega) hp;rw[fW dR hp hq,fX (gZ hd k) _ hp hq];show _=ae (aI m k) (dQ m.1.toNat ((aB L).map Int.toNat) p) (cx ((aB L).map Int.toNat) q);rw[fX hd _ hp hq,fX hd _ hp hx,fX hd _ (by omega) hq,g9,fW hd bp (by omega),jw h1 (by omega)];have e1:dQ m.1.toNat L (L.getD k 0)=k:=by unfold dQ;rw[if_pos hx,jw h1 (by omega)]
 have e2:decide (p=L.getD k 0)=decide (dQ m.1.toNat L p=k):=by
  rw[decide_eq_decide];constructor;·intro e;rw[e];exact e1
  ·intro e;have:=Cu (p:=p) h1 h2 h3;rw[e]at this;unfold dw at this;rw[if_pos hk]at this;exact this.symm
 have e3:decide (q=L.getD k 0)=decide (cx L q=k):=by
  rw[decide_eq_decide];constructor;·intro e;rw[e,jw h1 (by omega)]
  ·intro e;rw[<-e];exact pq.2.symm
 rw[e1,e2,e3]
theorem CV(hsq:m.2.1=m.1){O:List Nat}(o1:O.Nodup)(o2:∀x∈O,x<m.1.toNat)(o3:O.length=m.1.toNat) :
  b9 (b9 m (aB L)) (aB O)=b9 m (aB (L.map λx=>O.getD x 0)):=by
 obtain⟨n,r,hn,hr,hn1,hn5,hnr,hr8,hl⟩:=aN hd;have dR:=mH (aB L) hd;have n1:(L.map λx=>O.getD x 0).Nodup:=by refine List.pairwise_map.2 (h1.imp_of_mem λ{a b} ha hb hne e=>hne ?_);exact jt o1 (by have:=h2 a ha;omega) (by have:=h2 b hb;omega) e
 have n2:∀x∈L.map λx=>O.getD x 0,x<m.1.toNat:=λx hx=>by obtain⟨y,hy,rfl⟩:=List.mem_map.1 hx;have:=h2 y hy;exact o2 _ (bF 0 (by omega))
 have n3:(L.map λx=>O.getD x 0).length=m.1.toNat:=by simpa using h3
 have key:∀p,p<m.1.toNat->cx (L.map λx=>O.getD x 0) p=cx L (cx O p):=λp hp=>by
  have a1:=dP (eJ o1 o2 o3 hp);have a2:=dP (eJ h1 h2 h3 (show cx O p<m.1.toNat by omega));have e:(L.map λx=>O.getD x 0).getD (cx L (cx O p)) 0=p:=by rw[List.getD_eq_getElem?_getD,List.getElem?_map,List.getElem?_eq_getElem a2.1];have:=a2.2;rw[List.getD_eq_getElem?_getD,List.getElem?_eq_getElem a2.1,Option.getD_some]at this;show O.getD (L[cx L (cx O p)]) 0=p;rw[this];exact a1.2
  have:=jw n1 (j:=cx L (cx O p)) (by rw[List.length_map];exact a2.1);rw[e]at this;exact this
 refine tz (mH _ dR) rfl rfl (by simp[b9]) λp q hp hq=>?_;have hp:p<m.1.toNat:=by have:p<m.2.1.toNat:=hp;omega
 have hq:q<m.1.toNat:=hq;have ap:=(dP (eJ o1 o2 o3 hp)).1;have aq:=(dP (eJ o1 o2 o3 hq)).1;have e1:=fX dR (aB O) (p:=p) (q:=q) (show p<m.2.1.toNat by omega) hq;refine e1.trans ?_;show ae (b9 m (aB L)) (dQ m.1.toNat ((aB O).map Int.toNat) p) (cx ((aB O).map Int.toNat) q)=_;rw[g9,fX hd _ (show p<m.2.1.toNat by omega) hq,g9];unfold dQ;rw[if_pos hp,if_pos hp,fX hd _ (by omega) (by omega),g9,key p hp,key q hq];unfold dQ;rw[if_pos (by omega)]
end
def yc{n:Nat}:∀(g:List Nat) (f:List Int),g.Nodup->(∀x∈g,x<n/\(x:Int)∉f)->f++aB g∈dY n g.length f
 |[],f,_,_=>by simp[dY,aB]
 |x::g,f,hn,h=>by
  obtain⟨h1,h2⟩:=List.nodup_cons.1 hn;obtain⟨h3,h4⟩:=h x List.mem_cons_self;rw[List.length_cons,dY,List.mem_flatMap];refine⟨x,List.mem_range.2 h3, ?_⟩;have:(f.any λy=>decide (y=((x:Nat):Int)))=false:=by rw[List.any_eq_false];intro y hy;simp only[decide_eq_true_eq];exact λe=>h4 (e▸hy)
  rw[this,cond_false];have ih:=yc g (f++[(x:Int)]) h2 (λy hy=>by
   obtain⟨k1,k2⟩:=h y (List.mem_cons_of_mem _ hy);refine⟨k1,λhm=>?_⟩;rcases List.mem_append.1 hm with hm|hm;·exact k2 hm
   ·have:(y:Int)=(x:Int):=List.mem_singleton.1 hm;exact h1 (by rw[show x=y by omega];exact hy))
  rw[List.append_assoc]at ih;exact ih
def LA{f f':List Int->List Int}{os:List (List Int)}{b b':List Int}(h:∀o∈os,∃o'∈os,f' o=f o')(h':∀o∈os,∃o'∈os,f o=f' o')(hb:∃o∈os,b=f o)(hb':∃o∈os,b'=f' o):de f b os=de f' b' os:=by
 have im:∀{f:List Int->List Int}{b:List Int},(∃o∈os,b=f o)->∃o∈os,de f b os=f o:=λ{f b} hb=>by
  rcases qE f os b with e|e;·rw[e];exact hb
  ·exact e
 obtain⟨o1,g1,e1⟩:=im hb;obtain⟨o2,g2,e2⟩:=im hb';obtain⟨o3,g3,e3⟩:=h' o1 g1;obtain⟨o4,g4,e4⟩:=h o2 g2;refine ot ?_ ?_;·rw[e1,e3];exact(tD f' os b').2 o3 g3
 ·rw[e2,e4];exact(tD f os b).2 o4 g4
def CW{m:Int×Int×List Int}(hd:az m=true)(hsq:m.2.1=m.1){names:List Int}(hn:fo names m.1=true):cB (b9 m names)=cB m:=by
 obtain⟨n,r,en,hr,hn1,hn5,hnr,hr8,hl⟩:=aN hd;have e1:m.1.toNat=n:=by omega
 obtain⟨L,rfl,h1,h2,h3⟩:=j0 hn;have dR:=mH (aB L) hd;have nm:∀{o:List Int},o∈dY n n []->∃O:List Nat,o=aB O/\O.Nodup/\(∀x∈O,x<m.1.toNat)/\O.length=m.1.toNat:=λ{o} ho=>by have:=tB hn5 ((tA hn5 o).2 ho);rw[<-en]at this;exact j0 this
 have nmo:∀{O:List Nat},O.Nodup->(∀x∈O,x<m.1.toNat)->O.length=m.1.toNat->aB O∈dY n n []:=λ{O} a1 a2 a3=>by have:=yc (n:=n) O [] a1 (λx hx=>⟨by have:=a2 x hx;omega,by simp⟩);rw[a3,e1]at this;simpa using this
 have hid:(List.range n).map Int.ofNat∈dY n n []:=(tA hn5 _).1 (ya hn5);have r1:=tC hd hsq;have r2:=tC dR (show(b9 m (aB L)).2.1=(b9 m (aB L)).1 from hsq);rw[e1]at r1;rw[show(b9 m (aB L)).1.toNat=n from e1]at r2;unfold cB;show((m.1,m.2.1,de (dC (b9 m (aB L))) (b9 m (aB L)).2.2 (dY m.1.toNat m.1.toNat [])):Int×Int×List Int)=(m.1,m.2.1,de (dC m) m.2.2 (dY m.1.toNat m.1.toNat []));rw[e1];refine congrArg (λz=>(m.1,m.2.1,z)) (LA (λo ho=>?_) (λo ho=>?_) ⟨_,hid,by unfold dC;rw[r2]⟩ ⟨_,hid,by unfold dC;rw[r1]⟩)
 ·obtain⟨O,rfl,o1,o2,o3⟩:=nm ho;let K:List Nat:=(List.range n).map λp=>O.getD (cx L p) 0;have k3:K.length=m.1.toNat:=by simp[K,e1]
  have kg:∀p,p<n->K.getD p 0=O.getD (cx L p) 0:=λp hp=>by show((List.range n).map λp=>O.getD (cx L p) 0).getD p 0=_;rw[List.getD_eq_getElem?_getD,List.getElem?_map,List.getElem?_range hp];rfl
  have k1:K.Nodup:=by refine List.pairwise_map.2 (List.Pairwise.imp_of_mem (λ{a b} ha hb hne e=>hne ?_) List.nodup_range);have ha:=List.mem_range.1 ha;have hb:=List.mem_range.1 hb;have pa:=dP (eJ h1 h2 h3 (show a<m.1.toNat by omega));have pb:=dP (eJ h1 h2 h3 (show b<m.1.toNat by omega));have:=jt o1 (by omega) (by omega) e;rw[<-pa.2,<-pb.2,this]
  have k2:∀x∈K,x<m.1.toNat:=λx hx=>by obtain⟨p,hp,rfl⟩:=List.mem_map.1 hx;have hp:=List.mem_range.1 hp;have pa:=dP (eJ h1 h2 h3 (show p<m.1.toNat by omega));exact o2 _ (bF 0 (by omega))
  refine⟨aB K,nmo k1 k2 k3, ?_⟩;unfold dC;rw[CV hd h1 h2 h3 hsq k1 k2 k3];have:(L.map λx=>K.getD x 0)=O:=by
   apply List.ext_getElem (by simp;omega);intro i hi hi';have hi2:i<L.length:=by simpa using hi
   rw[List.getElem_map];have hlt:=h2 _ (List.getElem_mem hi2);rw[kg _ (by omega)];have:cx L L[i]=i:=by have:=jw h1 hi2;rwa [List.getD_eq_getElem?_getD,List.getElem?_eq_getElem hi2,Option.getD_some]at this
   rw[this,List.getD_eq_getElem?_getD,List.getElem?_eq_getElem hi',Option.getD_some]
  rw[this]
 ·obtain⟨O,rfl,o1,o2,o3⟩:=nm ho;refine⟨aB (L.map λx=>O.getD x 0),nmo ?_ ?_ (by simpa using h3), ?_⟩;·refine List.pairwise_map.2 (h1.imp_of_mem λ{a b} ha hb hne e=>hne ?_);exact jt o1 (by have:=h2 a ha;omega) (by have:=h2 b hb;omega) e
  ·intro x hx;obtain⟨y,hy,rfl⟩:=List.mem_map.1 hx;have:=h2 y hy;exact o2 _ (bF 0 (by omega))
  ·unfold dC;rw[CV hd h1 h2 h3 hsq o1 o2 o3]
abbrev z3:Int×Int×List Int:=(0,(0,[]))
def fY(x:Int×Int×List Int)(k:Nat):Int×Int×List Int:=cB (aI x k)
def j9(S:List (Int×Int×List Int))(d:List Int):Bool:=S.any λy=>decide (y.2.2=d)
def eM(S:List (Int×Int×List Int))(y:Int×Int×List Int):List (Int×Int×List Int):=if j9 S y.2.2=true then S else S++[y]
def ka(x:Int×Int×List Int)(k:Nat)(S:List (Int×Int×List Int)):Option (List (Int×Int×List Int)) :=
 if aS (aI x k)=true then(if(eM S (fY x k)).length<=100 then some (eM S (fY x k))else none)else none
def iO(x:Int×Int×List Int):Nat->Nat->List (Int×Int×List Int)->Option (List (Int×Int×List Int))
 |_,0,S=>some S
 |k,r+1,S=>(ka x k S).bind (iO x (k+1) r)
def iP(n:Nat):Nat->Nat->List (Int×Int×List Int)->Option (List (Int×Int×List Int))
 |0,_,_=>none
 |F+1,a,S=>if a<S.length then(iO (S.getD a z3) 0 n S).bind (iP n F (a+1))else some S
def ll(m:Int×Int×List Int):Option (List (Int×Int×List Int)):=iP m.1.toNat 102 0 [cB m]
def b8(n:Int)(x:Int×Int×List Int):Prop:=(∃d,dy x d)/\x.1=n/\x.2.1=n
def fJ(n:Int)(S:List (Int×Int×List Int)):Prop:=∀x∈S,b8 n x
def qG{S:List (Int×Int×List Int)}{d:List Int}:j9 S d=true↔∃y∈S,y.2.2=d:=by simp[j9]
def ye{m:Int×Int×List Int}(hd:az m=true)(hsq:m.2.1=m.1):∃o,fo o m.1=true/\cB m=b9 m o:=by
 obtain⟨n,r,hn,hr',hn1,hn5,hnr,hr8,hl⟩:=aN hd;have e1:m.1.toNat=n:=by omega
 have hx:∀o,b9 m o=(m.1,m.2.1,dC m o):=λo=>rfl;rcases qE (dC m) (dY n n []) m.2.2 with h|⟨o,ho,h⟩
 ·refine⟨(List.range n).map Int.ofNat, ?_, ?_⟩;·rw[hn];exact tB hn5 (ya hn5)
  ·have:=tC hd hsq;rw[e1]at this;rw[this];unfold cB;rw[e1,h]
 ·refine⟨o, ?_, ?_⟩;·rw[hn];exact tB hn5 ((tA hn5 o).2 ho)
  ·rw[hx];unfold cB;rw[e1,h]
def b8.can{n:Int}{x:Int×Int×List Int}(h:b8 n x):b8 n (cB x):=by obtain⟨⟨d,hR⟩,h1,h2⟩:=h;obtain⟨o,ho,e⟩:=ye hR.dim (h2.trans h1.symm);exact⟨⟨_,by rw[e];exact hR.ren ho⟩,h1,h2⟩
def b8.mut{n:Int}{x:Int×Int×List Int}(h:b8 n x){k:Nat}(hk:k<n.toNat)(hs:aS (aI x k)=true):b8 n (aI x k):=by obtain⟨⟨d,hR⟩,h1,h2⟩:=h;exact⟨⟨d,hR.mut (by rw[h1];exact hk) hs⟩,h1,h2⟩
def b8.nxt{n:Int}{x:Int×Int×List Int}(h:b8 n x){k:Nat}(hk:k<n.toNat)(hs:aS (aI x k)=true):b8 n (fY x k):=(h.mut hk hs).can
def b8.dim{n:Int}{x:Int×Int×List Int}(h:b8 n x):az x=true:=by obtain⟨⟨d,hR⟩,_⟩:=h;exact hR.dim
def b8.bound{n:Int}{x:Int×Int×List Int}(h:b8 n x):1<=n/\n<=5/\(x.2.2.length:Int)=n*n:=by
 obtain⟨m,r,hn,hr',hn1,hn5,hnr,hr8,hl⟩:=aN h.dim;obtain⟨_,h1,h2⟩:=h;have:r=m:=by omega
 subst this;exact⟨by omega,by omega,by rw[hl,<-h1,hn];exact Int.natCast_mul r r⟩
def LB{n:Int}{S:List (Int×Int×List Int)}{y:Int×Int×List Int}(h:fJ n S)(hy:b8 n y):fJ n (eM S y):=by
 intro x hx;unfold eM at hx;split at hx;·exact h x hx
 ·rcases List.mem_append.1 hx with hx|hx;·exact h x hx
  ·rw[List.mem_singleton.1 hx];exact hy
def LC{S:List (Int×Int×List Int)}{y d:Int×Int×List Int}{a:Nat}(h:a<S.length):(eM S y).getD a d=S.getD a d:=by
 unfold eM;split;·rfl
 ·rw[List.getD_eq_getElem?_getD,List.getElem?_append_left h,List.getD_eq_getElem?_getD]
def CX{S:List (Int×Int×List Int)}{y:Int×Int×List Int}:S.length<=(eM S y).length:=by
 unfold eM;split;·exact Nat.le_refl _
 ·simp
def CY{n:Int}{S:List (Int×Int×List Int)}(h:fJ n S){a:Nat}(ha:a<S.length):b8 n (S.getD a z3):=h _ (bF _ ha)
def LD{n:Int}{x:Int×Int×List Int}{k:Nat}{S S':List (Int×Int×List Int)}(hS:fJ n S)(hx:b8 n x)(hk:k<n.toNat)(h:ka x k S=some S') :
  S'=eM S (fY x k)/\fJ n S'/\S.length<=S'.length/\S'.length<=100:=by
 unfold ka at h;split at h
 ·rename_i hs;split at h;·rename_i hl;injection h with h;subst h;exact⟨rfl,LB hS (hx.nxt hk hs),CX,hl⟩
  ·cases h
 ·cases h
def yf{n:Int}{x:Int×Int×List Int}(hx:b8 n x):∀(r k:Nat) {S S':List (Int×Int×List Int)},k+r=n.toNat->fJ n S->S.length<=100->iO x k r S=some S' ->
  fJ n S'/\S.length<=S'.length/\S'.length<=100/\∀a d,a<S.length->S'.getD a d=S.getD a d
 |0,k,S,S',_,hS,hl,h=>by injection h with h;subst h;exact⟨hS,Nat.le_refl _,hl,λ_ _ _=>rfl⟩
 |r+1,k,S,S',hk,hS,hl,h=>by obtain⟨S1,h1,h2⟩:=Option.bind_eq_some_iff.1 (show(ka x k S).bind (iO x (k+1) r)=some S' from h);obtain⟨e,f1,f2,f3⟩:=LD hS hx (by omega) h1;obtain⟨g1,g2,g3,g4⟩:=yf hx r (k+1) (by omega) f1 f3 h2;refine⟨g1,Nat.le_trans f2 g2,g3,λa d ha=>?_⟩;rw[g4 a d (by omega),e,LC ha]
def iQ(m:Int×Int×List Int):Bool:=(aS m&&!decide (be m=[]))&&decide (m.2.1=m.1)
def C2{m:Int×Int×List Int}(hp:iQ m=true):b8 m.1 m:=by simp only[iQ,Bool.and_eq_true,decide_eq_true_eq]at hp;obtain⟨d,hR⟩:=Lo (m:=m) (by simpa using hp.1);exact⟨⟨d,hR⟩,rfl,hp.2⟩
def C3{n:Int}:∀(F a:Nat) {S S':List (Int×Int×List Int)},fJ n S->S.length<=100->iP n.toNat F a S=some S'->fJ n S'/\S.length<=S'.length/\S'.length<=100
 |0,a,S,S',_,_,h=>by cases h
 |F+1,a,S,S',hS,hl,h=>by
  have e1:iP n.toNat (F+1) a S=if a<S.length then(iO (S.getD a z3) 0 n.toNat S).bind (iP n.toNat F (a+1))else some S:=rfl
  rw[e1]at h;split at h;·rename_i ha;obtain⟨S1,h1,h2⟩:=Option.bind_eq_some_iff.1 h;obtain⟨f1,f2,f3,f4⟩:=yf (CY hS ha) n.toNat 0 (by omega) hS hl h1;obtain⟨g1,g2,g3⟩:=C3 F _ f1 f3 h2;exact⟨g1,Nat.le_trans f2 g2,g3⟩
  ·injection h with h;subst h;exact⟨hS,Nat.le_refl _,hl⟩
def tG{m:Int×Int×List Int}(hp:iQ m=true){S:List (Int×Int×List Int)}(h:ll m=some S):fJ m.1 S/\1<=S.length/\S.length<=100 :=
 C3 _ _ (λx hx=>by rw[List.mem_singleton.1 hx];exact(C2 hp).can) (by simp) h
def LN{n:Int}{x:Int×Int×List Int}(h:b8 n x):∃L:List Nat,L.Nodup/\(∀y∈L,y<n.toNat)/\L.length=n.toNat/\∀i j,i<n.toNat->j<n.toNat->ae (cB x) (L.getD i 0) (L.getD j 0)=ae x i j:=by obtain⟨_,e1,e2⟩:=id h;obtain⟨o,ho,e⟩:=ye h.dim (e2.trans e1.symm);obtain⟨L,rfl,h1,h2,h3⟩:=j0 ho;rw[e1]at h2 h3;refine⟨L,h1,h2,h3,λi j hi hj=>?_⟩;have a1:=h2 _ (bF (l:=L) (j:=i) 0 (by omega));have a2:=h2 _ (bF (l:=L) (j:=j) 0 (by omega));rw[e,fX h.dim _ (by rw[e2];exact a1) (by rw[e1];exact a2),g9,jw h1 (by omega)];congr 1;unfold dQ;rw[if_pos (by rw[e1];exact a1),jw h1 (by omega)]
def Cl(n:Int)(S:List (Int×Int×List Int)):Prop:=∀x∈S,∀k,k<n.toNat->aS (aI x k)=true/\∃y∈S,y=fY x k
def LO{S:List (Int×Int×List Int)}{y:Int×Int×List Int}:(∀x∈S,x∈eM S y)/\j9 (eM S y) y.2.2=true:=by
 unfold eM;split;·exact⟨λx hx=>hx,by assumption⟩
 ·exact⟨λx hx=>List.mem_append_left _ hx,qG.2 ⟨y,by simp,rfl⟩⟩
def C6{S S':List (Int×Int×List Int)}(h:∀x∈S,x∈S'){d:List Int}(hd:j9 S d=true):j9 S' d=true:=by obtain⟨y,h1,h2⟩:=qG.1 hd;exact qG.2 ⟨y,h _ h1,h2⟩
def C7{x:Int×Int×List Int}:∀(r k:Nat) {S S':List (Int×Int×List Int)},iO x k r S=some S'->(∀y∈S,y∈S')/\∀k',k<=k'->k'<k+r->aS (aI x k')=true/\j9 S' (fY x k').2.2=true
 |0,k,S,S',h=>by injection h with h;subst h;exact⟨λy hy=>hy,λk' h1 h2=>by omega⟩
 |r+1,k,S,S',h=>by
  obtain⟨S1,h1,h2⟩:=Option.bind_eq_some_iff.1 (show(ka x k S).bind (iO x (k+1) r)=some S' from h);obtain⟨g1,g2⟩:=C7 r (k+1) h2;unfold ka at h1;split at h1
  ·rename_i hs;split at h1
   ·injection h1 with h1;subst h1;obtain⟨f1,f2⟩:=LO (S:=S) (y:=fY x k);refine⟨λy hy=>g1 y (f1 y hy),λk' h3 h4=>?_⟩;by_cases e:k'=k;·subst e;exact⟨hs,C6 g1 f2⟩
    ·exact g2 k' (by omega) (by omega)
   ·cases h1
  ·cases h1
def C8{n:Int}:∀(F a:Nat) {S S':List (Int×Int×List Int)},fJ n S->S.length<=100->(∀i,i<a->i<S.length->∀k,k<n.toNat->aS (aI (S.getD i z3) k)=true/\j9 S (fY (S.getD i z3) k).2.2=true)->iP n.toNat F a S=some S' ->
  (∀x∈S,x∈S')/\∀i,i<S'.length->∀k,k<n.toNat->aS (aI (S'.getD i z3) k)=true/\j9 S' (fY (S'.getD i z3) k).2.2=true
 |0,a,S,S',_,_,_,h=>by cases h
 |F+1,a,S,S',hS,hl,hh,h=>by
  have e1:iP n.toNat (F+1) a S=if a<S.length then(iO (S.getD a z3) 0 n.toNat S).bind (iP n.toNat F (a+1))else some S:=rfl
  rw[e1]at h;by_cases ha:a<S.length
  ·rw[if_pos ha]at h;obtain⟨S1,h1,h2⟩:=Option.bind_eq_some_iff.1 h;obtain⟨f1,f2,f3,f4⟩:=yf (CY hS ha) n.toNat 0 (by omega) hS hl h1;obtain⟨g1,g2⟩:=C7 n.toNat 0 h1;obtain⟨k1,k2⟩:=C8 F (a+1) f1 f3 (λi hi hi2 k hk=>by
    by_cases e:i=a;·subst e;rw[f4 i _ ha];exact g2 k (Nat.zero_le _) (by omega)
    ·rw[f4 i _ (by omega)];obtain⟨p1,p2⟩:=hh i (by omega) (by omega) k hk;exact⟨p1,C6 g1 p2⟩) h2
   exact⟨λx hx=>k1 x (g1 x hx),k2⟩
  ·rw[if_neg ha]at h;injection h with h;subst h;exact⟨λx hx=>hx,λi hi k hk=>hh i (by omega) hi k hk⟩
def LP{n:Int}{x y:Int×Int×List Int}(hx:b8 n x)(hy:b8 n y)(h:x.2.2=y.2.2):x=y:=by
 obtain⟨_,a1,a2⟩:=hx;obtain⟨_,b1,b2⟩:=hy;obtain⟨p,q,d⟩:=x;obtain⟨p',q',d'⟩:=y;simp only at *
 rw[a1,a2,b1,b2,h]
def yl{m:Int×Int×List Int}(hp:iQ m=true){S:List (Int×Int×List Int)}(h:ll m=some S):Cl m.1 S/\cB m∈S:=by
 have h0:fJ m.1 [cB m]:=λx hx=>by rw[List.mem_singleton.1 hx];exact(C2 hp).can
 obtain⟨h1,h2⟩:=C8 102 0 h0 (by simp) (λi hi=>by omega) h;have hS:=(tG hp h).1;refine⟨λx hx k hk=>?_,h1 _ (by simp)⟩;obtain⟨i,hi,rfl⟩:=List.getElem_of_mem hx;have:=h2 i hi k hk;rw[List.getD_eq_getElem?_getD,List.getElem?_eq_getElem hi]at this;obtain⟨p1,p2⟩:=this;obtain⟨y,q1,q2⟩:=qG.1 p2;exact⟨p1,y,q1,LP (hS y q1) ((hS _ hx).nxt hk p1) q2⟩
def Dd{n:Int}{T:List (Int×Int×List Int)}(hT:Cl n T){x:Int×Int×List Int}(hx:b8 n x)(hc:cB x∈T){k:Nat}(hk:k<n.toNat):aS (aI x k)=true/\cB (aI x k)∈T:=by
 obtain⟨⟨d,hR⟩,e1,e2⟩:=id hx;obtain⟨o,ho,e⟩:=ye hR.dim (e2.trans e1.symm);obtain⟨L,rfl,h1,h2,h3⟩:=j0 ho;have hk':k<x.1.toNat:=by rw[e1];exact hk
 have hLk:=h2 _ (bF (l:=L) (j:=k) 0 (by omega));obtain⟨a1,y,a2,a3⟩:=hT _ hc (L.getD k 0) (by rw[<-e1];exact hLk);have em:aI (cB x) (L.getD k 0)=b9 (aI x k) (aB L):=by rw[e];exact Lz hR.dim h1 h2 h3 hk'
 have hd:=gZ hR.dim k;have hg:=kY hR.dim hk' hR.good;rw[em]at a1;have hs:aS (aI x k)=true:=by have:=cR a1;rw[Ly hd h1 h2 h3]at this;exact dy.sizes (d:=d) ⟨this,hg⟩
 refine⟨hs, ?_⟩;have ey:fY (cB x) (L.getD k 0)=cB (aI x k):=by unfold fY;rw[em];exact CW hd (e2.trans e1.symm) ho
 rw[<-ey,<-a3];exact a2
end Go.Fw
namespace Go.Fw
section
def lm{α β:Type}(f:α->β)(l:List α):List β:=@List.rec α (λ_=>List β) [] (λa _ r=>f a::r) l
def la{α:Type}(f:α->Bool)(l:List α):Bool:=@List.rec α (λ_=>Bool) true (λa _ r=>Bool.rec false r (f a)) l
def lx{α:Type}(f:α->Bool)(l:List α):Bool:=@List.rec α (λ_=>Bool) false (λa _ r=>Bool.rec r true (f a)) l
def mJ(l:List Int):Nat->Int:=@List.rec Int (λ_=>Nat->Int) (λ_=>0) (λa _ r j=>@Nat.rec (λ_=>Int) a (λj' _=>r j') j) l
def mK(R:List (List Int)):Nat->List Int:=@List.rec (List Int) (λ_=>Nat->List Int) (λ_=>[]) (λa _ r j=>@Nat.rec (λ_=>List Int) a (λj' _=>r j') j) R
def oP(c a b:Int):Int:=@Int.rec (λ_=>Int) (λm=>@Nat.rec (λ_=>Int) a (λm' _=>Int.add a (Int.mul c (Int.ofNat (Nat.succ m')))) m) (λ_=>a) b
def oN(c a b:Int):Int:=@Int.rec (λ_=>Int) (λ_=>a) (λm=>Int.sub a (Int.mul c (Int.negSucc m))) b
def lq(f:Int->Int->Int)(l:List Int):List Int->List Int:=@List.rec Int (λ_=>List Int->List Int) (λ_=>[]) (λa _ r q=>@List.rec Int (λ_=>List Int) [] (λb q' _=>f a b::r q') q) l
def yn(l:List Int):Nat->List Int:=@List.rec Int (λ_=>Nat->List Int) (λ_=>[]) (λa l' r k=>@Nat.rec (λ_=>List Int) (Int.neg a::l') (λk' _=>a::r k') k) l
def iT(k:Nat)(rk row:List Int):List Int:=yn (@Int.rec (λ_=>List Int) (λm=>@Nat.rec (λ_=>List Int) row (λm' _=>lq (oP (Int.ofNat (Nat.succ m'))) row rk) m) (λm=>lq (oN (Int.negSucc m)) row rk) (mJ row k)) k
def yo(k:Nat)(rk:List Int)(R:List (List Int)):Nat->List (List Int):=@List.rec (List Int) (λ_=>Nat->List (List Int)) (λ_=>[]) (λr R' f i=>@Nat.rec (λ_=>List (List Int)) (lm Int.neg r::lm (iT k rk) R') (λi' _=>iT k rk r::f i') i) R
def ft(R:List (List Int))(k:Nat):List (List Int):=yo k (mK R k) R k
def a7(x:Int):Nat:=@Int.rec (λ_=>Nat) (λm=>Nat.add m 8) (λm=>Nat.sub 7 m) x
def tH(R:List (List Int))(j:Nat):Nat:=@List.rec (List Int) (λ_=>Nat) 0 (λr _ c=>Nat.add (Nat.mul c 16) (a7 (mJ r j))) R
def iU(x:Nat×Nat)(l:List (Nat×Nat)):List (Nat×Nat):=@List.rec (Nat×Nat) (λ_=>List (Nat×Nat)) [x] (λy t r=>Bool.rec (y::r) (x::y::t) (Nat.ble x.1 y.1)) l
def jA(R:List (List Int))(n:Nat):List (List Int):=@Nat.rec (λ_=>List (List Int)) R (λ_ r=>@List.rec (List Int) (λ_=>List (List Int)) [] (λ_ t _=>t) r) n
def iV(n:Nat)(R:List (List Int)):List Nat:=lm Prod.snd (@Nat.rec (λ_=>List (Nat×Nat)) [] (λj l=>iU (tH (jA R n) j,j) l) n)
def jB(L:List Nat)(r:List Int):List Int:=lm (mJ r) L
def mL(n:Nat)(R:List (List Int))(O:List Nat):List (List Int):=lm (jB O) (List.append (lm (mK R) O) (jA R n))
def ic(n:Nat)(R:List (List Int)):List (List Int):=mL n R (iV n R)
def yp{α:Type}(x:Int)(k:Int->α):α:=@Int.rec (λ_=>α) (λm=>@Nat.rec (λ_=>α) (k 0) (λm' _=>@Nat.rec (λ_=>α) (k 1) (λm'' _=>@Nat.rec (λ_=>α) (k 2) (λ_ _=>k (Int.ofNat m)) m'') m') m) (λm=>@Nat.rec (λ_=>α) (k (-1)) (λm' _=>@Nat.rec (λ_=>α) (k (-2)) (λ_ _=>k (Int.negSucc m)) m') m) x
def tJ{α:Type}(l:List Int):(List Int->α)->α:=@List.rec Int (λ_=>(List Int->α)->α) (λk=>k []) (λx _ f k=>yp x λy=>f λr=>k (y::r)) l
def tK{α:Type}(R:List (List Int)):(List (List Int)->α)->α:=@List.rec (List Int) (λ_=>(List (List Int)->α)->α) (λk=>k []) (λx _ f k=>tJ x λy=>f λr=>k (y::r)) R
def qJ(R:List (List Int)):Nat:=@List.rec (List Int) (λ_=>Nat) 0 (λr _ c=>@List.rec Int (λ_=>Nat) c (λx _ c=>Nat.add (Nat.mul c 16) (a7 x)) r) R
def jC{α β:Type}(f:α->β)(l:List α):lm f l=l.map f:=by
 induction l with
 |nil=>rfl
 |cons a l ih=>exact congrArg (f a::·) ih
def qL{α:Type}{f:α->Bool}{l:List α}(h:la f l=true):∀x∈l,f x=true:=by
 induction l with
 |nil=>intro x hx;cases hx
 |cons a l ih =>
  have h:@Bool.rec (λ_=>Bool) false (la f l) (f a)=true:=h;cases ha:f a;·rw[ha]at h;cases h
  ·rw[ha]at h;intro x hx;rcases List.mem_cons.1 hx with rfl|hx;·exact ha
   ·exact ih h x hx
def LR{α:Type}{f:α->Bool}{l:List α}(h:lx f l=true):∃x∈l,f x=true:=by
 induction l with
 |nil=>cases h
 |cons a l ih =>
  have h:@Bool.rec (λ_=>Bool) (lx f l) true (f a)=true:=h;cases ha:f a;·rw[ha]at h;obtain⟨x,hx,h2⟩:=ih h;exact⟨x,List.mem_cons_of_mem _ hx,h2⟩
  ·exact⟨a,List.mem_cons_self,ha⟩
def qM:∀(l:List Int) (j:Nat),mJ l j=l.getD j 0
 |[],_=>rfl
 |a::l,0=>rfl
 |a::l,j+1=>(qM l j).trans rfl
def tL:∀(l:List (List Int)) (j:Nat),mK l j=l.getD j []
 |[],_=>rfl
 |a::l,0=>rfl
 |a::l,j+1=>(tL l j).trans rfl
def tN(R:List (List Int)):∀n,jA R n=R.drop n
 |0=>rfl
 |n+1=>by have h:=tN R n;show@List.rec (List Int) (λ_=>List (List Int)) [] (λ_ t _=>t) (jA R n)=_;rw[h,<-List.tail_drop];cases R.drop n<;>rfl
def yq(f:Int->Int->Int):∀(l q:List Int),l.length=q.length->(lq f l q).length=l.length
 |[],_,_=>rfl
 |a::l,[],h=>by cases h
 |a::l,b::q,h=>congrArg (· + 1) (yq f l q (by simpa using h))
def yr(f:Int->Int->Int):∀(l q:List Int),l.length=q.length->∀j,j<l.length->(lq f l q).getD j 0=f (l.getD j 0) (q.getD j 0)
 |[],_,_,j,h=>by simp at h
 |a::l,[],h,_,_=>by cases h
 |a::l,b::q,h,0,_=>rfl
 |a::l,b::q,h,j+1,hj=>yr f l q (by simpa using h) j (by simpa using hj)
def De:∀(l:List Int) (k:Nat),(yn l k).length=l.length
 |[],_=>rfl
 |a::l,0=>rfl
 |a::l,k+1=>congrArg (· + 1) (De l k)
def Df:∀(l:List Int) (k j:Nat),(yn l k).getD j 0=if j=k then -(l.getD j 0)else l.getD j 0
 |[],k,j=>by show(0:Int)=_;split<;>simp
 |a::l,0,0=>rfl
 |a::l,0,j+1=>by rw[if_neg (by omega)];rfl
 |a::l,k+1,0=>by rw[if_neg (by omega)];rfl
 |a::l,k+1,j+1=>by
  have:=Df l k j;by_cases h:j=k;·rw[if_pos h]at this;rw[if_pos (by omega)];exact this
  ·rw[if_neg h]at this;rw[if_neg (by omega)];exact this
def LS(m:Nat)(a b:Int):oP (Int.ofNat (Nat.succ m)) a b=cw false a (Int.ofNat (Nat.succ m)) b:=by
 have hc:(0:Int)<Int.ofNat (Nat.succ m):=by simp
 unfold cw;rw[if_neg (by simp)];cases b with
 |ofNat q =>
  cases q with
  |zero=>rw[if_neg (by simp),if_neg (by simp)];rfl
  |succ q=>rw[if_pos ⟨hc,by simp⟩];rfl
 |negSucc q=>rw[if_neg (by omega),if_neg (by omega)];rfl
def LT(m:Nat)(a b:Int):oN (Int.negSucc m) a b=cw false a (Int.negSucc m) b:=by
 unfold cw;rw[if_neg (by simp)];cases b with
 |ofNat q=>rw[if_neg (by omega),if_neg (by simp)];rfl
 |negSucc q=>rw[if_neg (by omega),if_pos ⟨by omega,by omega⟩];rfl
def LU(a x:Int):cw false a x 0=a:=by unfold cw;rw[if_neg (by simp),if_neg (by omega),if_neg (by omega)]
def LV(a y:Int):cw false a 0 y=a:=by unfold cw;rw[if_neg (by simp),if_neg (by omega),if_neg (by omega)]
def LW{k n:Nat}{rk row:List Int}(h1:row.length=n)(h2:rk.length=n)(h0:rk.getD k 0=0){j:Nat}(hj:j<n) :
  (iT k rk row).getD j 0=cw (decide (j=k)) (row.getD j 0) (row.getD k 0) (rk.getD j 0):=by
 have key:(iT k rk row).getD j 0=if j=k then -(cw false (row.getD j 0) (row.getD k 0) (rk.getD j 0))else cw false (row.getD j 0) (row.getD k 0) (rk.getD j 0):=by
  unfold iT;rw[Df,qM];generalize hz:row.getD k 0=z;cases z with
  |ofNat q =>
   cases q with
   |zero =>show(if j=k then -(row.getD j 0)else row.getD j 0)=_;have:cw false (row.getD j 0) (Int.ofNat 0) (rk.getD j 0)=row.getD j 0:=LV _ _;rw[this]
   |succ q =>show(if j=k then -((lq (oP (Int.ofNat (Nat.succ q))) row rk).getD j 0)else(lq (oP (Int.ofNat (Nat.succ q))) row rk).getD j 0)=_;rw[yr _ _ _ (h1.trans h2.symm) j (by omega),LS]
  |negSucc q =>show(if j=k then -((lq (oN (Int.negSucc q)) row rk).getD j 0)else(lq (oN (Int.negSucc q)) row rk).getD j 0)=_;rw[yr _ _ _ (h1.trans h2.symm) j (by omega),LT]
 rw[key];by_cases e:j=k;·subst e;rw[if_pos rfl,h0,LU,dt rfl];rfl
 ·rw[if_neg e,df e]
def LX{k n:Nat}{rk row:List Int}(h1:row.length=n)(h2:rk.length=n):(iT k rk row).length=n:=by
 unfold iT;rw[De];generalize mJ row k=z;cases z with
 |ofNat q =>
  cases q with
  |zero=>exact h1
  |succ q=>exact(yq _ _ _ (h1.trans h2.symm)).trans h1
 |negSucc q=>exact(yq _ _ _ (h1.trans h2.symm)).trans h1
def yt(k:Nat)(rk:List Int):∀(R:List (List Int)) (i q:Nat),q<R.length->(yo k rk R i).getD q []=if q=i then(R.getD q []).map Int.neg else iT k rk (R.getD q [])
 |[],_,q,h=>by simp at h
 |r::R,0,0,_=>by rw[if_pos rfl];exact jC Int.neg r
 |r::R,0,q+1,h=>by rw[if_neg (by omega)];show(lm (iT k rk) R).getD q []=_;rw[jC,List.getD_eq_getElem?_getD,List.getElem?_map,List.getElem?_eq_getElem (by simpa using h)];show _=iT k rk (R.getD q []);rw[List.getD_eq_getElem?_getD,List.getElem?_eq_getElem (by simpa using h)];rfl
 |r::R,i+1,0,_=>by rw[if_neg (by omega)];rfl
 |r::R,i+1,q+1,h=>by
  have:=yt k rk R i q (by simpa using h);by_cases e:q=i;·rw[if_pos e]at this;rw[if_pos (by omega)];exact this
  ·rw[if_neg e]at this;rw[if_neg (by omega)];exact this
def Dg(k:Nat)(rk:List Int):∀(R:List (List Int)) (i:Nat),(yo k rk R i).length=R.length
 |[],_=>rfl
 |r::R,0=>congrArg (· + 1) (by show(lm (iT k rk) R).length=_;rw[jC,List.length_map])
 |r::R,i+1=>congrArg (· + 1) (Dg k rk R i)
abbrev E2(R:List (List Int))(i j:Nat):Int:=(R.getD i []).getD j 0
def ie(n:Nat)(R:List (List Int)):Prop:=R.length=2*n/\∀r∈R,r.length=n
def ie.row{n:Nat}{R:List (List Int)}(h:ie n R){i:Nat}(hi:i<2*n):(R.getD i []).length=n:=h.2 _ (bF _ (by rw[h.1];exact hi))
def LY(l:List Int)(j:Nat):(l.map Int.neg).getD j 0=-(l.getD j 0):=by rw[List.getD_eq_getElem?_getD,List.getD_eq_getElem?_getD,List.getElem?_map];cases l[j]?<;>rfl
def Dh{n:Nat}{R:List (List Int)}(h:ie n R){k:Nat}(hk:k<n)(h0:E2 R k k=0){i j:Nat}(hi:i<2*n)(hj:j<n):E2 (ft R k) i j=cw (decide (i=k)||decide (j=k)) (E2 R i j) (E2 R i k) (E2 R k j):=by
 unfold E2 ft;rw[yt k _ R k i (by rw[h.1];exact hi),tL];by_cases e:i=k;·rw[if_pos e,LY,dt e];rfl
 ·rw[if_neg e,df e,Bool.false_or];exact LW (h.row hi) (h.row (by omega)) h0 hj
def LZ{n:Nat}{R:List (List Int)}(h:ie n R){k:Nat}(hk:k<n):ie n (ft R k):=by
 have hl:(ft R k).length=2*n:=(Dg k _ R k).trans h.1;refine⟨hl,λr hr=>?_⟩;obtain⟨i,hi,rfl⟩:=List.getElem_of_mem hr;have e:(ft R k)[i]=(ft R k).getD i []:=by rw[List.getD_eq_getElem?_getD,List.getElem?_eq_getElem hi];rfl
 rw[e];unfold ft;rw[yt k _ R k i (by rw[h.1];omega),tL];by_cases e:i=k;·rw[if_pos e,List.length_map];exact h.row (by omega)
 ·rw[if_neg e];exact LX (h.row (by omega)) (h.row (by omega))
def tO(x:Nat×Nat):∀(l:List (Nat×Nat)) (y:Nat×Nat),y∈iU x l↔y=x\/y∈l
 |[],y=>by show y∈[x]↔_;simp
 |z::l,y=>by
  have e:iU x (z::l)=@Bool.rec (λ_=>List (Nat×Nat)) (z::iU x l) (x::z::l) (Nat.ble x.1 z.1):=rfl;rw[e];cases Nat.ble x.1 z.1;·show y∈z::iU x l↔_;rw[List.mem_cons,tO x l y,List.mem_cons];exact⟨λh=>by rcases h with h|h|h<;>simp[h],λh=>by rcases h with h|h|h<;>simp[h]⟩
  ·show y∈x::z::l↔_;rw[List.mem_cons]
def Di(x:Nat×Nat):∀(l:List (Nat×Nat)),(iU x l).length=l.length+1
 |[]=>rfl
 |z::l=>by
  have e:iU x (z::l)=@Bool.rec (λ_=>List (Nat×Nat)) (z::iU x l) (x::z::l) (Nat.ble x.1 z.1):=rfl;rw[e];cases Nat.ble x.1 z.1;·exact congrArg (· + 1) (Di x l)
  ·rfl
def L3(n:Nat)(R:List (List Int)):(∀j,j<n->j∈iV n R)/\(∀j∈iV n R,j<n)/\(iV n R).length=n:=by
 have key:∀q,(∀j,j<q->∃c,(c,j)∈@Nat.rec (λ_=>List (Nat×Nat)) [] (λj l=>iU (tH (jA R n) j,j) l) q)/\(∀y∈@Nat.rec (λ_=>List (Nat×Nat)) [] (λj l=>iU (tH (jA R n) j,j) l) q,y.2<q)/\(@Nat.rec (λ_=>List (Nat×Nat)) [] (λj l=>iU (tH (jA R n) j,j) l) q).length=q:=by
  intro q;induction q with
  |zero=>exact⟨λj h=>absurd h (Nat.not_lt_zero _),(λy hy=>by cases hy),rfl⟩
  |succ q ih =>
   obtain⟨a1,a2,a3⟩:=ih;refine⟨λj hj=>?_,λy hy=>?_, ?_⟩
   ·by_cases e:j=q;·subst e;exact⟨_,(tO _ _ _).2 (.inl rfl)⟩
    ·obtain⟨c,hc⟩:=a1 j (by omega);exact⟨c,(tO _ _ _).2 (.inr hc)⟩
   ·rcases(tO _ _ _).1 hy with rfl|hy;·exact Nat.lt_succ_self _
    ·have:=a2 y hy;omega
   ·exact(Di _ _).trans (congrArg (· + 1) a3)
 obtain⟨a1,a2,a3⟩:=key n;unfold iV;rw[jC];refine⟨λj hj=>?_,λj hj=>?_,by rw[List.length_map];exact a3⟩;·obtain⟨c,hc⟩:=a1 j hj;exact List.mem_map.2 ⟨_,hc,rfl⟩
 ·obtain⟨y,hy,rfl⟩:=List.mem_map.1 hj;exact a2 y hy
def Dj{n:Nat}{R:List (List Int)}(h:ie n R){O:List Nat}(hO:O.length=n){i j:Nat}(hi:i<2*n)(hj:j<n):E2 (mL n R O) i j=E2 R (if i<n then O.getD i 0 else i) (O.getD j 0):=by
 have e:mL n R O=(O.map (mK R)++R.drop n).map (jB O):=by unfold mL;rw[jC,jC,tN];rfl
 have hp:∀r:List Int,(jB O r).getD j 0=r.getD (O.getD j 0) 0:=λr=>by unfold jB;rw[jC,List.getD_eq_getElem?_getD,List.getElem?_map,List.getElem?_eq_getElem (by omega),List.getD_eq_getElem?_getD (l:=O),List.getElem?_eq_getElem (by omega)];exact qM r _
 have hr:((O.map (mK R)++R.drop n).map (jB O)).getD i []=jB O (R.getD (if i<n then O.getD i 0 else i) []):=by
  rw[List.getD_eq_getElem?_getD,List.getElem?_map];by_cases hin:i<n;·rw[if_pos hin,List.getElem?_append_left (by rw[List.length_map];omega),List.getElem?_map,List.getElem?_eq_getElem (by omega)];show jB O (mK R O[i])=_;rw[tL,List.getD_eq_getElem?_getD (l:=O) (i:=i),List.getElem?_eq_getElem (by omega)];rfl
  ·rw[if_neg hin,List.getElem?_append_right (by rw[List.length_map];omega),List.length_map,List.getElem?_drop,hO,show n+(i-n)=i by omega,List.getElem?_eq_getElem (by rw[h.1];exact hi)];have hR:i<R.length:=by rw[h.1];exact hi
   show jB O R[i]=_;rw[List.getD_eq_getElem?_getD (l:=R),List.getElem?_eq_getElem (by rw[h.1];exact hi)];rfl
 unfold E2;rw[e,hr,hp]
def L4{α:Type}(x:Int)(k:Int->α):yp x k=k x:=by
 cases x with
 |ofNat m =>
  match m with
  |0=>rfl
  |1=>rfl
  |2=>rfl
  |m+3=>rfl
 |negSucc m =>
  match m with
  |0=>rfl
  |1=>rfl
  |m+2=>rfl
def Dk{α:Type}:∀(l:List Int) (k:List Int->α),tJ l k=k l
 |[],_=>rfl
 |x::l,k=>by show yp x (λy=>tJ l λr=>k (y::r))=_;rw[L4,Dk l]
def yu{α:Type}:∀(l:List (List Int)) (k:List (List Int)->α),tK l k=k l
 |[],_=>rfl
 |x::l,k=>by show tJ x (λy=>tK l λr=>k (y::r))=_;rw[Dk,yu l]
def jD(n:Nat)(R:List (List Int)):Bool :=
 decide (R.length=2*n)&&(la (λr=>decide (r.length=n)&&la (λx=>decide (-8<=x)&&decide (x<=7)) r) R &&
  la (λj=>la (λr=>decide (0<=mJ r j)) (jA R n)||la (λr=>decide (mJ r j<=0)) (jA R n)) (List.range n))
def tP(n:Nat)(x:List (List Int))(k:Nat)(s:List (List (List Int))×List (Nat×List (List Int))):Option (List (List (List Int))×List (Nat×List (List Int))) :=
 tK (ic n (ft x k)) λT=>@Bool.rec (λ_=>Option (List (List (List Int))×List (Nat×List (List Int)))) (@Bool.rec (λ_=>Option (List (List (List Int))×List (Nat×List (List Int)))) none (some (T::s.1,(qJ T,T)::s.2)) (jD n T)) (some s) (lx (λy=>@Bool.rec (λ_=>Bool) false (decide (y.2=T)) (Nat.beq y.1 (qJ T))) s.2)
def qN(n:Nat)(x:List (List Int)):List Nat->List (List (List Int))×List (Nat×List (List Int))->Option (List (List (List Int))×List (Nat×List (List Int)))
 |[],s=>some s
 |k::ks,s=>(tP n x k s).bind (qN n x ks)
def tQ(n:Nat):Nat->List (List (List Int))->List (Nat×List (List Int))->Option (List (Nat×List (List Int)))
 |0,_,_=>none
 |_+1,[],seen=>some seen
 |f+1,x::todo,seen=>(qN n x (List.range n) (todo,seen)).bind λs=>tQ n f s.1 s.2
def jE(n:Nat):List Int->Nat->List (List Int)
 |_,0=>[]
 |l,k+1=>l.take n::jE n (l.drop n) k
def tR(n:Nat)(x:Int×Int×List Int):List (List Int):=ic n (jE n (cS x).2.2 (2*n))
def tS(n:Nat)(x:Int×Int×List Int):Bool:=tK (tR n x) λT=>jD n T&&(tQ n 500 [T] [(qJ T,T)]).isSome
structure ou(n:Nat)(S:List (List (List Int))):Prop where
 ok:∀R∈S,jD n R=true
 cl:∀R∈S,∀k,k<n->ic n (ft R k)∈S
def mp(s:List (Nat×List (List Int))):List (List (List Int)):=s.map (·.2)
def L5{n:Nat}{x:List (List Int)}{k:Nat}{s s':List (List (List Int))×List (Nat×List (List Int))}(h:tP n x k s=some s') :
  ic n (ft x k)∈mp s'.2/\(∀R∈mp s.2,R∈mp s'.2)/\(∀R∈mp s'.2,R∈mp s.2\/(R∈s'.1/\jD n R=true))/\∀R∈s.1,R∈s'.1:=by
 unfold tP at h;rw[yu]at h;generalize ic n (ft x k)=T at h ⊢;cases hx:lx (λy=>@Bool.rec (λ_=>Bool) false (decide (y.2=T)) (Nat.beq y.1 (qJ T))) s.2
 ·rw[hx]at h;cases ho:jD n T;·rw[ho]at h;cases h
  ·rw[ho]at h;injection h with h;subst h;refine⟨by simp[mp],λR hR=>by simp only[mp,List.map_cons,List.mem_cons];exact .inr hR,λR hR=>?_,λR hR=>List.mem_cons_of_mem _ hR⟩;simp only[mp,List.map_cons,List.mem_cons]at hR;rcases hR with rfl|hR;·exact .inr ⟨List.mem_cons_self,ho⟩
   ·exact .inl hR
 ·rw[hx]at h;injection h with h;subst h;obtain⟨y,hy,h2⟩:=LR hx;refine⟨?_,λR hR=>hR,λR hR=>.inl hR,λR hR=>hR⟩;cases hb:Nat.beq y.1 (qJ T);·rw[hb]at h2;cases h2
  ·rw[hb]at h2;rw[<-of_decide_eq_true h2];exact List.mem_map_of_mem hy
def Dl{n:Nat}{x:List (List Int)}:∀(ks:List Nat) {s s':List (List (List Int))×List (Nat×List (List Int))},qN n x ks s=some s' ->
  (∀k∈ks,ic n (ft x k)∈mp s'.2)/\(∀R∈mp s.2,R∈mp s'.2)/\(∀R∈mp s'.2,R∈mp s.2\/(R∈s'.1/\jD n R=true))/\∀R∈s.1,R∈s'.1
 |[],s,s',h=>by injection h with h;subst h;exact⟨(λk hk=>by cases hk),λR hR=>hR,λR hR=>.inl hR,λR hR=>hR⟩
 |k::ks,s,s',h=>by
  obtain⟨s1,h1,h2⟩:=Option.bind_eq_some_iff.1 (show(tP n x k s).bind (qN n x ks)=some s' from h);obtain⟨a1,a2,a3,a4⟩:=L5 h1;obtain⟨b1,b2,b3,b4⟩:=Dl ks h2;refine⟨λk' hk=>?_,λR hR=>b2 R (a2 R hR),λR hR=>?_,λR hR=>b4 R (a4 R hR)⟩
  ·rcases List.mem_cons.1 hk with rfl|hk;·exact b2 _ a1
   ·exact b1 k' hk
  ·rcases b3 R hR with h3|h3
   ·rcases a3 R h3 with h4|⟨h4,h5⟩;·exact .inl h4
    ·exact .inr ⟨b4 R h4,h5⟩
   ·exact .inr h3
def Dm{n:Nat}:∀(f:Nat) {todo:List (List (List Int))}{seen S:List (Nat×List (List Int))},(∀R∈mp seen,jD n R=true)->(∀R∈mp seen,R∈todo\/∀k,k<n->ic n (ft R k)∈mp seen) ->
  tQ n f todo seen=some S->ou n (mp S)/\∀R∈mp seen,R∈mp S
 |0,_,_,_,_,_,h=>by cases h
 |f+1,[],seen,S,h1,h3,h=>by injection h with h;subst h;exact⟨⟨h1,λR hR=>(h3 R hR).resolve_left (by simp)⟩,λR hR=>hR⟩
 |f+1,x::todo,seen,S,h1,h3,h=>by
  obtain⟨s,e1,e2⟩:=Option.bind_eq_some_iff.1 (show(qN n x (List.range n) (todo,seen)).bind (λs=>tQ n f s.1 s.2)=some S from h);obtain⟨a1,a2,a3,a4⟩:=Dl _ e1;have g1:∀R∈mp s.2,jD n R=true:=λR hR=>by
   rcases a3 R hR with h4|h4;·exact h1 R h4
   ·exact h4.2
  have g2:∀R∈mp s.2,R∈s.1\/∀k,k<n->ic n (ft R k)∈mp s.2:=λR hR=>by
   rcases a3 R hR with h4|h4
   ·rcases h3 R h4 with h5|h5
    ·rcases List.mem_cons.1 h5 with rfl|h5;·exact .inr λk hk=>a1 k (List.mem_range.2 hk)
     ·exact .inl (a4 R h5)
    ·exact .inr λk hk=>a2 _ (h5 k hk)
   ·exact .inl h4.1
  obtain⟨c1,c2⟩:=Dm f g1 g2 e2;exact⟨c1,λR hR=>c2 R (a2 R hR)⟩
def L6{n:Nat}{x:Int×Int×List Int}(h:tS n x=true):∃S,ou n S/\tR n x∈S:=by unfold tS at h;rw[yu,Bool.and_eq_true]at h;obtain⟨h1,h2⟩:=h;obtain⟨S,hS⟩:=Option.isSome_iff_exists.1 h2;obtain⟨c1,c2⟩:=Dm 500 (n:=n) (λR hR=>by simp[mp]at hR;subst hR;exact h1) (λR hR=>by simp[mp]at hR;subst hR;exact .inl List.mem_cons_self) hS;exact⟨mp S,c1,c2 _ (by simp[mp])⟩
end
end Go.Fw
namespace Go.Fw
def ig(p:Int×Int×List Int):Prop:=aS p=true/\∃e,cz p.1.toNat (ae p) e
def yv{p:Int×Int×List Int}{k:Nat}(h:ig p)(hk:k<p.1.toNat)(hs:aS (aI p k)=true):ig (aI p k) :=
 ⟨hs,by obtain⟨e,he⟩:=h.2;exact⟨e,kY (cD (cR h.1)) hk he⟩⟩
def L7{p:Int×Int×List Int}(h:ig p):(aS p&&!decide (be p=[]))=true:=by rw[h.1,df (aQ.fac_ex h.1 h.2)];rfl
def L8(n k:Nat):gB (eY n k)=true:=by
 induction k with
 |zero=>rfl
 |succ k ih =>unfold gB at ih ⊢;rw[eY,List.all_append,ih,Bool.true_and,List.all_eq_true];intro x hx;simp only[fq,List.mem_map]at hx;obtain⟨j,_,rfl⟩:=hx;split<;>rfl
def mM{m:Int×Int×List Int}(hd:az m=true)(h1:m.2.1=m.1){i j:Nat}(hi:i<m.1.toNat)(hj:j<m.1.toNat):ae (cS m) i j=ae m i j:=by
 obtain⟨n,r,hn,hr,hn1,hn5,hnr,hr8,hl⟩:=aN hd;have:=fU (n:=n) (r:=r) (i:=i) (j:=j) (by omega) (by omega);have hn':m.1.toNat=n:=by omega
 show(m.2.2++eY m.1.toNat m.1.toNat).getD (i*m.1.toNat+j) 0=m.2.2.getD (i*m.1.toNat+j) 0;rw[List.getD_eq_getElem?_getD,List.getElem?_append_left (by rw[hl,hn'];exact this),List.getD_eq_getElem?_getD]
def L9{m:Int×Int×List Int}(h:(aS m&&!decide (be m=[]))=true)(h1:m.2.1=m.1)(h2:2*m.1<=8):ig (cS m):=by
 simp only[Bool.and_eq_true,Bool.not_eq_true',decide_eq_false_iff_not]at h;obtain⟨hs,hf⟩:=h;have hsh:=cR hs;have hd:=cD hsh;refine⟨?_,⟨λi=>(be m).getD i 0,λi hi=>?_⟩⟩
 ·have h3:bi (cS m)=true:=by simp only[bi,Bool.and_eq_true]at hsh ⊢;refine⟨tq hd h1 h2, ?_⟩;have e1:gB m.2.2=true:=hsh.2;have e2:=L8 m.1.toNat m.1.toNat;show gB (m.2.2++eY m.1.toNat m.1.toNat)=true;unfold gB at e1 e2 ⊢;rw[List.all_append,e1,e2];rfl
  unfold aS at hs ⊢;rw[h3,Bool.true_and];simp only[Bool.and_eq_true,List.all_eq_true,List.mem_range]at hs ⊢;intro i hi j hj;rw[mM hd h1 hi hj,mM hd h1 hj hi];exact hs.2 i hi j hj
 ·have:=(nZ hf).2.1 i hi;refine⟨this.1,λj hj=>?_⟩;rw[mM hd h1 hi hj,mM hd h1 hj hi];exact this.2 j hj
structure yz(n:Nat)(p:Int×Int×List Int)(R:List (List Int))(L π:Nat->Nat):Prop where
 lt:∀i,i<n->L i<n
 inj:∀i j,i<n->j<n->L i=L j->i=j
 pt:∀r,r<n->π r<n
 up:∀i j,i<n->j<n->ae p i j=E2 R (L i) (L j)
 low:∀r j,r<n->j<n->ae p (n+r) j=E2 R (n+π r) (L j)
def iY(n:Nat)(p:Int×Int×List Int)(R:List (List Int)):Prop:=∃L π,yz n p R L π
def iY.nrm{n:Nat}{p:Int×Int×List Int}{R:List (List Int)}(hR:ie n R)(h:iY n p R):iY n p (ic n R):=by
 obtain⟨L,π,h1,h2,h3,h4,h5⟩:=h;obtain⟨o1,o2,o3⟩:=L3 n R;have hp:∀i,i<n->cx (iV n R) (L i)<n/\(iV n R).getD (cx (iV n R) (L i)) 0=L i:=λi hi=>by have:=dP (o1 _ (h1 i hi));rw[o3]at this;exact this
 refine⟨λi=>cx (iV n R) (L i),π,λi hi=>(hp i hi).1,λi j hi hj e=>?_,h3,λi j hi hj=>?_,λr j hr hj=>?_⟩;·have e:cx (iV n R) (L i)=cx (iV n R) (L j):=e;have a:=(hp i hi).2;rw[e,(hp j hj).2]at a;exact h2 i j hi hj a.symm
 ·unfold ic;have a:=(hp i hi).1;have b:=(hp j hj).1;rw[Dj hR o3 (by omega) b,if_pos a,(hp i hi).2,(hp j hj).2];exact h4 i j hi hj
 ·unfold ic;have b:=(hp j hj).1;have:=h3 r hr;rw[Dj hR o3 (by omega) b,if_neg (by omega),(hp j hj).2];exact h5 r j hr hj
def iY.mut{n:Nat}{p:Int×Int×List Int}{R:List (List Int)}(hR:ie n R)(hd:az p=true)(p1:p.1=(n:Int))(p2:p.2.1=2*(n:Int)){L π:Nat->Nat}(h:yz n p R L π){k:Nat}(hk:k<n)(h0:ae p k k=0):yz n (aI p k) (ft R (L k)) L π:=by
 obtain⟨h1,h2,h3,h4,h5⟩:=h;have e1:p.1.toNat=n:=by omega
 have e2:p.2.1.toNat=2*n:=by omega
 have z:E2 R (L k) (L k)=0:=by rw[<-h4 k k hk hk];exact h0
 have hL:=h1 k hk;have dec:∀i,i<n->decide (L i=L k)=decide (i=k):=λi hi=>decide_eq_decide.2 ⟨h2 i k hi hk,λe=>by rw[e]⟩;refine⟨h1,h2,h3,λi j hi hj=>?_,λr j hr hj=>?_⟩;·have a:=h1 i hi;rw[fW hd (by omega) (by omega),Dh hR hL z (by omega) (h1 j hj),dec i hi,dec j hj,h4 i j hi hj,h4 i k hi hk,h4 k j hk hj]
 ·have a:=h3 r hr;rw[fW hd (by omega) (by omega),Dh hR hL z (by omega) (h1 j hj),dec j hj,df (show ¬ n+r=k by omega),df (show ¬ n+π r=L k by omega),h5 r j hr hj,h5 r k hr hk,h4 k j hk hj]
structure Do(n:Nat)(R:List (List Int)):Prop where
 shp:ie n R
 small:∀i j,i<2*n->j<n->-8<=E2 R i j/\E2 R i j<=7
 sgn:∀j,j<n->(∀r,r<n->0<=E2 R (n+r) j)\/∀r,r<n->E2 R (n+r) j<=0
def yA{n:Nat}{R:List (List Int)}(h:jD n R=true):Do n R:=by
 unfold jD at h;simp only[Bool.and_eq_true,decide_eq_true_eq]at h;obtain⟨h1,h2,h3⟩:=h;have hrow:∀r∈R,r.length=n/\∀x∈r,-8<=x/\x<=7:=λr hr=>by have:=qL h2 r hr;simp only[Bool.and_eq_true,decide_eq_true_eq]at this;refine⟨this.1,λx hx=>?_⟩;have:=qL this.2 x hx;simpa using this
 refine⟨⟨h1,λr hr=>(hrow r hr).1⟩,λi j hi hj=>?_,λj hj=>?_⟩;·obtain⟨a1,a2⟩:=hrow _ (bF (l:=R) (j:=i) [] (by omega));exact a2 _ (bF 0 (by omega))
 ·have:=qL h3 j (List.mem_range.2 hj);rw[Bool.or_eq_true]at this;have hm:∀r,r<n->R.getD (n+r) []∈jA R n:=λr hr=>by
   rw[tN];have:(R.drop n).getD r []=R.getD (n+r) []:=by rw[List.getD_eq_getElem?_getD,List.getElem?_drop,List.getD_eq_getElem?_getD]
   rw[<-this];exact bF _ (by rw[List.length_drop];omega)
  rcases this with h|h;·left;intro r hr;have:=qL h _ (hm r hr);rw[qM]at this;exact of_decide_eq_true this
  ·right;intro r hr;have:=qL h _ (hm r hr);rw[qM]at this;exact of_decide_eq_true this
def qQ(n:Nat):∀(q:Nat) (l:List Int),(jE n l q).length=q
 |0,_=>rfl
 |q+1,l=>congrArg (· + 1) (qQ n q _)
def yB(n:Nat):∀(q:Nat) (l:List Int) (i:Nat),i<q->(jE n l q).getD i []=(l.drop (i*n)).take n
 |0,_,_,h=>absurd h (Nat.not_lt_zero _)
 |q+1,l,0,_=>by simp[jE]
 |q+1,l,i+1,h=>by have:=yB n q (l.drop n) i (by omega);rw[List.drop_drop]at this;show(jE n (l.drop n) q).getD i []=_;rw[this,show n+i*n=(i+1)*n by rw[Nat.add_mul];omega]
def Dp(n:Nat):∀(k r j:Nat),r<k->j<n->(eY n k).getD (r*n+j) 0=if r=j then 1 else 0
 |0,r,j,h,_=>absurd h (Nat.not_lt_zero _)
 |k+1,r,j,h,hj=>by
  rw[eY,List.getD_eq_getElem?_getD];by_cases e:r=k;·subst e;rw[List.getElem?_append_right (by rw[qr];omega),qr,show r*n+j-r*n=j by omega,<-List.getD_eq_getElem?_getD];exact xM hj
  ·have:r*n+j<k*n:=by have h1:(r+1)*n<=k*n:=Nat.mul_le_mul_right n (by omega);rw[Nat.add_mul]at h1;omega
   rw[List.getElem?_append_left (by rw[qr];exact this),<-List.getD_eq_getElem?_getD];exact Dp n k r j (by omega) hj
def yC{m:Int×Int×List Int}{n:Nat}(hd:az m=true)(h1:m.1=(n:Int))(h2:m.2.1=(n:Int)){r j:Nat}(hr:r<n)(hj:j<n):ae (cS m) (n+r) j=if r=j then 1 else 0:=by
 obtain⟨q,s,hn,hs,hn1,hn5,hnr,hr8,hl⟩:=aN hd;have e1:m.1.toNat=n:=by omega
 have e2:q=n:=by omega
 have e3:s=n:=by omega
 subst e2;subst e3;show(m.2.2++eY m.1.toNat m.1.toNat).getD ((s+r)*m.1.toNat+j) 0=_;rw[e1,List.getD_eq_getElem?_getD,List.getElem?_append_right (by rw[hl,Nat.add_mul];omega),hl,show(s+r)*s+j-s*s=r*s+j by rw[Nat.add_mul];omega,<-List.getD_eq_getElem?_getD];exact Dp s s r j hr hj
def Me{x:Int×Int×List Int}{n:Nat}(hx:b8 n x)(h2:2*x.1<=8):ie n (jE n (cS x).2.2 (2*n))/\∀i j,i<2*n->j<n->E2 (jE n (cS x).2.2 (2*n)) i j=ae (cS x) i j:=by
 have hb:=hx.bound;obtain⟨hR,x1,x2⟩:=id hx;have hd:=tq hx.dim (x2.trans x1.symm) h2;obtain⟨q,s,hn,hs,hn1,hn5,hnr,hr8,hl⟩:=aN hd;have e1:q=n:=by have:(cS x).1=x.1:=rfl;omega
 have e2:s=2*n:=by have:(cS x).2.1=2*x.1:=rfl;omega
 subst e1;subst e2;have key:∀i,i<2*q->((cS x).2.2.drop (i*q)).length ≥ q:=λi hi=>by rw[List.length_drop,hl];have:(i+1)*q<=2*q*q:=Nat.mul_le_mul_right q (by omega);rw[Nat.add_mul]at this;omega
 refine⟨⟨qQ _ _ _,λr hr=>?_⟩,λi j hi hj=>?_⟩
 ·obtain⟨i,hi,rfl⟩:=List.getElem_of_mem hr;rw[qQ]at hi;have e:(jE q (cS x).2.2 (2*q))[i]'(by rw[qQ];exact hi)=(jE q (cS x).2.2 (2*q)).getD i []:=by rw[List.getD_eq_getElem?_getD,List.getElem?_eq_getElem (by rw[qQ];exact hi)];rfl
  rw[e,yB _ _ _ _ hi,List.length_take];have:=key i hi;omega
 ·unfold E2 ae;rw[yB _ _ _ _ hi,show(cS x).1.toNat=q by omega,List.getD_eq_getElem?_getD,List.getElem?_take_of_lt hj,List.getElem?_drop,List.getD_eq_getElem?_getD]
def Mf{m:Int×Int×List Int}{n:Nat}(hm:b8 n m)(h2:2*m.1<=8):iY n (cS m) (tR n (cB m)):=by
 obtain⟨L,l1,l2,l3,l4⟩:=LN hm;obtain⟨hR,x1,x2⟩:=id hm;have hc:=hm.can;have hc2:2*(cB m).1<=8:=by have:=hc.2.1;omega
 obtain⟨s1,s2⟩:=Me hc hc2;have hn:(n:Int).toNat=n:=Int.toNat_natCast n;rw[hn]at l2 l3 l4;have lt:∀i,i<n->L.getD i 0<n:=λi hi=>l2 _ (bF 0 (by omega));refine iY.nrm s1 ⟨λi=>L.getD i 0,λi=>L.getD i 0,lt,λi j hi hj e=>?_,lt,λi j hi hj=>?_,λr j hr hj=>?_⟩;·exact jt l1 (by omega) (by omega) e
 ·have a:=lt i hi;have b:=lt j hj;have q:=hc.2.1;rw[s2 _ _ (by omega) b,mM hm.dim (x2.trans x1.symm) (by omega) (by omega),mM hc.dim (hc.2.2.trans hc.2.1.symm) (by omega) (by omega)];exact(l4 i j hi hj).symm
 ·have a:=lt r hr;have b:=lt j hj;rw[s2 _ _ (by omega) b,yC hm.dim x1 x2 hr hj,yC hc.dim hc.2.1 hc.2.2 a b];by_cases e:r=j;·rw[if_pos e,if_pos (by rw[e])]
  ·rw[if_neg e,if_neg λe'=>e (jt l1 (by omega) (by omega) e')]
structure mN(n:Int)(S:List (Int×Int×List Int))(x:Int×Int×List Int):Prop where
 fit:b8 n x
 mem:cB x∈S
 sml:∃d,dy x d/\∀i,i<n.toNat->d i<=3
def mN.mut{n:Int}{S:List (Int×Int×List Int)}{x:Int×Int×List Int}(hS:Cl n S)(h:mN n S x){k:Nat}(hk:k<n.toNat):mN n S (aI x k):=by obtain⟨h1,h2⟩:=Dd hS h.fit h.mem hk;obtain⟨d,hd,hb⟩:=h.sml;exact⟨h.fit.mut hk h1,h2,d,hd.mut (by rw[h.fit.2.1];exact hk) h1,hb⟩
def mN.ren{n:Int}{S:List (Int×Int×List Int)}{x:Int×Int×List Int}(h:mN n S x){o:List Int}(ho:fo o n=true):mN n S (b9 x o):=by have e:cB (b9 x o)=cB x:=CW h.fit.dim (h.fit.2.2.trans h.fit.2.1.symm) (by rw[h.fit.2.1];exact ho);obtain⟨d,hR,hb⟩:=h.sml;obtain⟨_,h1,h2⟩:=h.fit;have hr:=hR.ren (names:=o) (by rw[h1];exact ho);refine⟨⟨⟨_,hr⟩,h1,h2⟩,by rw[e];exact h.mem,_,hr,λi hi=>hb _ ?_⟩;obtain⟨L,rfl,l1,l2,l3⟩:=j0 ho;rw[g9];have:=(dP (eJ l1 l2 l3 hi)).1;omega
def qR(ds:List Int)(n:Nat)(t:Int×Int×List Int):Bool :=
 bi t&&(decide (t.1=(n:Int))&&(decide (t.2.1=(n:Int))&&(List.range n).all λu=>decide (0<ds.getD u 0)&&(List.range n).all λv=>decide (ds.getD u 0*ae t u v=-(ds.getD v 0*ae t v u))))
def Dq{ds:List Int}{n:Nat}{t:Int×Int×List Int}(h:qR ds n t=true):b8 n t:=by
 simp only[qR,Bool.and_eq_true,decide_eq_true_eq,List.all_eq_true,List.mem_range]at h;obtain⟨h1,h2,h3,h4⟩:=h;refine⟨⟨λu=>ds.getD u 0,h1,λu hu=>?_⟩,h2,h3⟩;have e:t.1.toNat=n:=by omega
 rw[e]at hu ⊢;exact h4 u hu
def Mg{ds:List Int}{n:Nat}{t:Int×Int×List Int}(h:qR ds n t=true):dy t λu=>ds.getD u 0:=by
 simp only[qR,Bool.and_eq_true,decide_eq_true_eq,List.all_eq_true,List.mem_range]at h;obtain⟨h1,h2,h3,h4⟩:=h;refine⟨h1,λu hu=>?_⟩;have e:t.1.toNat=n:=by omega
 rw[e]at hu ⊢;exact h4 u hu
def Mh{n:Int}{x:Int×Int×List Int}(h:b8 n x):iQ x=true:=by obtain⟨⟨d,hR⟩,h1,h2⟩:=h;unfold iQ;rw[hR.ok,dt (h2.trans h1.symm)];rfl
def eO(ds:List Int)(n:Nat)(es:List (Nat×Nat×Int×Int)):Bool :=
 (eL es [aD.g (n:Int)]).all (qR ds n)&&match ll ((eL es [aD.g (n:Int)]).getD 0 z3)with
  |none=>false
  |some S=>(S.all (tS n))&&(eL es [aD.g (n:Int)]).all λt=>decide (cB t∈S)
def gF(x:Int×Int×List Int):Prop:=∃(n:Nat) (S:List (Int×Int×List Int)),1<=n/\n<=4/\Cl (n:Int) S/\(∀y∈S,tS n y=true)/\mN (n:Int) S x
def fu{ds:List Int}{n:Nat}{es:List (Nat×Nat×Int×Int)}(h:eO ds n es=true)(n1:1<=n)(n4:n<=4)(hds:∀i,i<n->ds.getD i 0<=3)(h0:(eL es [aD.g (n:Int)]).getD 0 z3∈eL es [aD.g (n:Int)]){t:Int×Int×List Int}(ht:t∈eL es [aD.g (n:Int)]):gF t:=by
 unfold eO at h;rw[Bool.and_eq_true,List.all_eq_true]at h;obtain⟨h1,h2⟩:=h;have hf:=Dq (h1 _ h0);have hp:=Mh hf;split at h2;·cases h2
 ·rename_i S hc;simp only[Bool.and_eq_true,List.all_eq_true,decide_eq_true_eq]at h2;obtain⟨k1,k2⟩:=yl hp hc;rw[hf.2.1]at k1;exact⟨n,S,n1,n4,k1,h2.1,Dq (h1 t ht),h2.2 t ht,_,Mg (h1 t ht),λi hi=>hds i (by simpa using hi)⟩
def Mi:eO [1] 1 (iN 0)=true:=by decide +kernel
def Mj:eO [1,1] 2 (iN 1)=true:=by decide +kernel
def Mk:eO [1,1,1] 3 (iN 2)=true:=by decide +kernel
def Ml:eO [1,1,1,1] 4 (iN 3)=true:=by decide +kernel
def Mm:eO [1,2] 2 (iN 0++[(0,1,2,1)])=true:=by decide +kernel
def Mn:eO [1,1,2] 3 (iN 1++[(1,2,2,1)])=true:=by decide +kernel
def Mo:eO [1,1,1,2] 4 (iN 2++[(2,3,2,1)])=true:=by decide +kernel
def Mp:eO [2,2,1] 3 (iN 1++[(1,2,1,2)])=true:=by decide +kernel
def Mq:eO [2,2,2,1] 4 (iN 2++[(2,3,1,2)])=true:=by decide +kernel
def Mr:eO [1,1] 2 ([])=true:=by decide +kernel
def Mt:eO [1,1,1] 3 ([])=true:=by decide +kernel
def Mu:eO [1,1,1,1] 4 ([])=true:=by decide +kernel
def Mv:eO [1,3] 2 ([(0,1,3,1)])=true:=by decide +kernel
def Mw:eO [1,1,1,1] 4 (CM)=true:=by decide +kernel
def Mx:eO [1,1,2,2] 4 (fE)=true:=by decide +kernel
def My:eO [1,1,1] 3 ([(0,1,1,1)])=true:=by decide +kernel
def Mz{b:List Int}{r:Int×Int}{k:Int}{n:Nat}(h1:1<=n)(h4:n<=4)(hk:4<=k->k<=6->2<=n):gF (spec_dTree.tree b r k n).1.2:=by
 have bB:2<=n->gF (spec_dTree.endB b (spec_dTree.chainG b r n (n-2)) n 2 1).2:=λh2=>by
  have:n=0+2\/n=1+2\/n=2+2:=by omega
  rcases this with rfl|rfl|rfl;·exact fu Mm (by omega) (by omega) (by decide) (by decide +kernel) (qC 0 2 1)
  ·exact fu Mn (by omega) (by omega) (by decide) (by decide +kernel) (qC 1 2 1)
  ·exact fu Mo (by omega) (by omega) (by decide) (by decide +kernel) (qC 2 2 1)
 unfold spec_dTree.tree;by_cases k4:k=4;·rw[if_pos k4];exact bB (hk (by omega) (by omega))
 rw[if_neg k4];by_cases k5:k=5
 ·rw[if_pos k5];by_cases n2:n=2;·rw[if_pos n2];exact bB (by omega)
  ·rw[if_neg n2];have:=hk (by omega) (by omega);have:n=1+2\/n=2+2:=by omega
   rcases this with rfl|rfl;·exact fu Mp (by omega) (by omega) (by decide) (by decide +kernel) (qC 1 1 2)
   ·exact fu Mq (by omega) (by omega) (by decide) (by decide +kernel) (qC 2 1 2)
 rw[if_neg k5];by_cases k6:k=6
 ·rw[if_pos k6];have:=hk (by omega) (by omega);have:n=2\/n=3\/n=4:=by omega
  rcases this with rfl|rfl|rfl;·exact fu Mr (by omega) (by omega) (by decide) (by decide +kernel) List.mem_cons_self
  ·exact fu Mt (by omega) (by omega) (by decide) (by decide +kernel) List.mem_cons_self
  ·exact fu Mu (by omega) (by omega) (by decide) (by decide +kernel) List.mem_cons_self
 rw[if_neg k6];by_cases k7:k=7;·rw[if_pos k7];exact fu Mv (by omega) (by omega) (by decide) (by decide +kernel) Lh
 rw[if_neg k7];by_cases k8:k=8;·rw[if_pos k8];exact fu Mw (by omega) (by omega) (by decide) (by decide +kernel) Lj
 rw[if_neg k8];by_cases k9:k=9;·rw[if_pos k9];exact fu Mx (by omega) (by omega) (by decide) (by decide +kernel) Lk
 rw[if_neg k9];by_cases k10:k=10;·rw[if_pos k10];exact fu My (by omega) (by omega) (by decide) (by decide +kernel) Li
 rw[if_neg k10];have:n=1\/n=2\/n=3\/n=4:=by omega
 rcases this with rfl|rfl|rfl|rfl;·exact fu Mi (by omega) (by omega) (by decide) (by decide +kernel) (qB (b:=b) (r:=r) 1 0)
 ·exact fu Mj (by omega) (by omega) (by decide) (by decide +kernel) (qB (b:=b) (r:=r) 2 1)
 ·exact fu Mk (by omega) (by omega) (by decide) (by decide +kernel) (qB (b:=b) (r:=r) 3 2)
 ·exact fu Ml (by omega) (by omega) (by decide) (by decide +kernel) (qB (b:=b) (r:=r) 4 3)
def MA{b:List Int}{r:Int×Int}:gF (spec_dTree.g b r 4).2.1:=by have rn:=ao.range (b:=b) (r:=(ao.g b r 11).1) (n:=4) (by omega) (by omega);obtain⟨a1,_,_⟩:=Ll (k:=(ao.g b r 11).2) (n:=(ao.g b (ao.g b r 11).1 4).2) (most:=4) (by omega) rn.1;exact Mz (b:=b) (n:=(1+(ao.g b (ao.g b r 11).1 4).2).toNat) (by omega) (by omega) a1
abbrev cF(n:Nat)(p:Int×Int×List Int)(r j:Nat):Int:=ae p (n+r) j
structure iZ(n:Nat)(S:List (List (List Int)))(m0:Nat->Nat->Int)(d:Nat->Int)(p:Int×Int×List Int)(g:Nat->Nat->Int):Prop where
 ok:ig p
 p1:p.1=(n:Int)
 p2:p.2.1=2*(n:Int)
 sim:∃R∈S,iY n p R
 dual:ld n m0 d (ae p) (cF n p) g
 det:∃e:Int,(e=1\/e=-1)/\bR n (cF n p)=e/\bR n g=e
def iZ.dim{n:Nat}{S:List (List (List Int))}{m0:Nat->Nat->Int}{d:Nat->Int}{p:Int×Int×List Int}{g:Nat->Nat->Int}(h:iZ n S m0 d p g):az p=true:=cD (cR h.ok.1)
section
variable {n : Nat} {S : List (List (List Int))} {m0 : Nat → Nat → Int} {d : Nat → Int} {p : Int × Int × List Int} {g : Nat → Nat → Int}
theorem iZ.sgn(hS:ou n S)(h:iZ n S m0 d p g){k:Nat}(hk:k<n):∃s:Int,(s=1\/s=-1)/\∀t,t<n->0<=s*cF n p t k:=by
 obtain⟨R,hR,L,π,hs⟩:=h.sim;rcases(yA (hS.ok R hR)).sgn (L k) (hs.lt k hk)with h1|h1;·refine⟨1,.inl rfl,λt ht=>?_⟩;have:=h1 (π t) (hs.pt t ht);show 0<=1*ae p (n+t) k;rw[hs.low t k ht hk];omega
 ·refine⟨-1,.inr rfl,λt ht=>?_⟩;have:=h1 (π t) (hs.pt t ht);show 0<=-1*ae p (n+t) k;rw[hs.low t k ht hk];omega
theorem MB{q:Int×Int×List Int}{R:List (List Int)}(hR:Do n R)(q1:q.1=(n:Int))(q2:q.2.1=2*(n:Int))(hd:az q=true)(h:iY n q R):bi q=true:=by
 obtain⟨L,π,hs⟩:=h;refine(qF hd).2 λi hi j hj=>?_;have hj:j<n:=by omega
 by_cases hin:i<n;·rw[hs.up i j hin hj];have:=hR.small (L i) (L j) (by have:=hs.lt i hin;omega) (hs.lt j hj);omega
 ·obtain⟨r,rfl⟩:∃r,i=n+r:=⟨i-n,by omega⟩;have hr:r<n:=by omega
  rw[hs.low r j hr hj];have:=hR.small (n+π r) (L j) (by have:=hs.pt r hr;omega) (hs.lt j hj);omega
theorem iZ.step(n1:1<=n)(n4:n<=4)(hS:ou n S)(h:iZ n S m0 d p g){k:Nat}(hk:k<n):aS (aI p k)=true/\iZ n S m0 d (aI p k) (fa n m0 (ae p) (cF n p) g k):=by
 obtain⟨s,hs,hc⟩:=h.sgn hS hk;have hd:=h.dim;have e1:p.1.toNat=n:=by have:=h.p1;omega
 have e2:p.2.1.toNat=2*n:=by have:=h.p2;omega
 have hd':=gZ hd k;have hbkk:=h.dual.bkk hk;have hgood:cz p.1.toNat (ae p) d:=λi hi=>⟨h.dual.dpos i (by omega),λj hj=>h.dual.skew i j (by omega) (by omega)⟩;have hgood':=kY hd (k:=k) (by omega) hgood;obtain⟨R,hR,L,π,hsm⟩:=h.sim;have hseen:=yA (hS.ok R hR);have hL:=hsm.lt k hk;have hsim':iY n (aI p k) (ic n (ft R (L k))):=iY.nrm (LZ hseen.shp hL) ⟨L,π,iY.mut hseen.shp hd h.p1 h.p2 hsm hk hbkk⟩;have hmem:=hS.cl R hR (L k) hL;have hsz:aS (aI p k)=true:=dy.sizes (d:=d) ⟨MB (yA (hS.ok _ hmem)) h.p1 h.p2 hd' hsim',hgood'⟩;have eb:∀i j,i<n->j<n->ae (aI p k) i j=jx (ae p) k i j:=λi j hi hj=>fW hd (by omega) (by omega);have ec:∀r j,r<n->j<n->cF n (aI p k) r j=jy (ae p) (cF n p) k r j:=λr j hr hj=>by show ae (aI p k) (n+r) j=_;rw[fW hd (by omega) (by omega),df (show ¬ n+r=k by omega)];rfl
 refine⟨hsz,yv h.ok (by omega) hsz,h.p1,h.p2,⟨_,hmem,hsim'⟩,⟨h.dual.dpos,λi j hi hj=>?_,λi j hi hj=>?_,λi j hi hj=>?_⟩, ?_⟩;·exact(hgood' i (by show i<p.1.toNat;omega)).2 j (by show j<p.1.toNat;omega)
 ·rw[dx n (λt ht=>by rw[eb t j ht hj]),dx n (f:=λt=>m0 i t*cF n (aI p k) t j) (λt ht=>by rw[ec t j ht hj])];exact h.dual.step_gb hk hs hc hi hj
 ·rw[dx n (λt ht=>by rw[ec t j ht hj])];exact h.dual.step_gdc hk hs hc hi hj
 ·obtain⟨e,he,d1,d2⟩:=h.det;refine⟨-e,by omega, ?_, ?_⟩
  ·rw[<-d1];refine K4 n1 n4 (cF n p) (cF n (aI p k)) (λj=>pos (s*ae p k j)) k hk λi j hi hj=>?_;rw[ec i j hi hj];by_cases e:j=k;·subst e;rw[if_pos rfl,xU]
   ·rw[if_neg e,xV hs hc hi e]
  ·rw[<-d2];refine K5 n1 n4 g _ (λt=>pos (-(s*ae p t k))) k hk ?_ λi j hi hj=>?_;·show pos (-(s*ae p k k))=0;rw[hbkk];simp[pos]
   ·unfold fa;by_cases e:j=k;·rw[if_pos e,if_pos e,xT h.dual hk hs hc hi]
    ·rw[if_neg e,if_neg e]
end
structure mO(n:Nat)(g:Nat->Nat->Int)(G:List (List Int)):Prop where
 sq:iM n G
 at_:∀r j,r<n->j<n->(G.getD r []).getD j 0=ab (g r j)
section
variable {n : Nat} {m p : Int × Int × List Int} {g : Nat → Nat → Int} {G : List (List Int)} {k : Nat}
theorem Dr(m1:m.1=(n:Int)){r:Nat}{row:List Int}(hrow:∀j,j<n->row.getD j 0=ab (g r j))(hk:k<n):∀q,q<=n ->
  (List.range q).foldl (eZ p m row k r) (ab (0-row.getD k 0))=ab (-(g r k)+aw (λt=>pos (ae p t k)*g r t) q-aw (λt=>pos (cF n p t k)*ae m r t) q)
 |0,_=>by show ab (0-row.getD k 0)=_;rw[hrow k hk,CJ];simp[aw]
 |q+1,hq=>by
  have e1:m.1.toNat=n:=by omega
  rw[List.range_succ,List.foldl_append,Dr m1 hrow hk q (by omega)];show eZ p m row k r _ q=_;simp only[aw];generalize aw (λt=>pos (ae p t k)*g r t) q=A;generalize aw (λt=>pos (cF n p t k)*ae m r t) q=B;have hB:∀x,hU p row k (ab x) q=ab (x+pos (ae p q k)*g r q):=λx=>by
   unfold hU pos;by_cases h:0<ae p q k;·rw[if_pos h,if_pos h,hrow q (by omega),qy,CK,qz]
   ·rw[if_neg h,if_neg h,Int.zero_mul,Int.add_zero]
  unfold eZ;rw[e1,hB];by_cases h:0<ae p (n+q) k;·rw[if_pos h,K6,CJ];congr 1;have:pos (cF n p q k)=ae p (n+q) k:=if_pos h;rw[this];omega
  ·rw[if_neg h];congr 1;have:pos (cF n p q k)=0:=if_neg h;rw[this,Int.zero_mul];omega
theorem mO.step(m1:m.1=(n:Int))(h:mO n g G)(hk:k<n):mO n (fa n (ae m) (ae p) (cF n p) g k) (lb p m k G):=by
 have e1:m.1.toNat=n:=by omega
 refine⟨by have:=xR (p:=p) (m:=m) (k:=k) (g:=G) (by rw[e1];exact h.sq);rwa [e1]at this,λr j hr hj=>?_⟩;unfold lb;rw[iI (by omega)];unfold qu;have hl:=h.sq.2 r hr;have key:=Dr (p:=p) m1 (λj hj=>h.at_ r j hr hj) hk n (Nat.le_refl _);unfold fa;by_cases e:j=k;·subst e;rw[if_pos rfl,List.getD_eq_getElem?_getD,List.getElem?_set_self (by omega),Option.getD_some];unfold CD;rw[e1,key];rfl
 ·rw[if_neg e,List.getD_eq_getElem?_getD,List.getElem?_set_ne (λq=>e q.symm),<-List.getD_eq_getElem?_getD];exact h.at_ r j hr hj
end
structure ow(n:Nat)(p q:Int×Int×List Int):Prop where
 ok:ig q
 q1:q.1=(n:Int)
 q2:q.2.1=(n:Int)
 up:∀i j,i<n->j<n->ae q i j=ae p i j
def ow.step{n:Nat}{p q:Int×Int×List Int}(p1:p.1=(n:Int))(p2:p.2.1=2*(n:Int))(hd:az p=true)(h:ow n p q){k:Nat}(hk:k<n)(hs:aS (aI p k)=true):aS (aI q k)=true/\ow n (aI p k) (aI q k):=by
 have e1:p.1.toNat=n:=by omega
 have e2:q.1.toNat=n:=by have:=h.q1;omega
 have e3:q.2.1.toNat=n:=by have:=h.q2;omega
 have hq:=cD (cR h.ok.1);have hup:∀i j,i<n->j<n->ae (aI q k) i j=ae (aI p k) i j:=λi j hi hj=>by rw[fW hq (by omega) (by omega),fW hd (by omega) (by omega),h.up i j hi hj,h.up i k hi hk,h.up k j hk hj]
 obtain⟨e,he⟩:=h.ok.2;have hg:=kY hq (k:=k) (by omega) he;have hsh:=(qF (gZ hd k)).1 (cR hs);have hs2:aS (aI q k)=true:=dy.sizes (d:=e) ⟨(qF (gZ hq k)).2 λi hi j hj=>by
  have hi:i<n:=by have:i<q.2.1.toNat:=hi;omega
  have hj:j<n:=by have:j<q.1.toNat:=hj;omega
  rw[hup i j hi hj];exact hsh i (by show i<p.2.1.toNat;omega) j (by show j<p.1.toNat;omega),hg⟩
 exact⟨hs2,yv h.ok (by omega) hs2,h.q1,h.q2,hup⟩
section
variable {n : Nat} {S : List (List (List Int))} {d : Nat → Int} {m : Int × Int × List Int} {f : Int × Int × List Int → Int → (Int × Int × List Int) × Bool}
theorem Ds(n1:1<=n)(n4:n<=4)(hS:ou n S)(m1:m.1=(n:Int))(hf:∀(p:Int×Int×List Int) (k:Nat),ig p->k<p.1.toNat->(f p (k:Int)).2=aS (aI p k)/\((f p (k:Int)).2=true->(f p (k:Int)).1=aI p k)) :
  ∀(ks:List Int) (p q:Int×Int×List Int) (g:Nat->Nat->Int) (G:List (List Int)),(∀k∈ks,0<=k/\k<(n:Int))->iZ n S (ae m) d p g->mO n g G->ow n p q ->
   ∃p' g' G' q',(cE f p ks).2=true/\(cE f p ks).1.getD ks.length (0,(0,[]))=p'/\lc m (cE f p ks).1 ks G=G'/\dS f q ks=(q',true)/\iZ n S (ae m) d p' g'/\mO n g' G'/\ow n p' q'
 |[],p,q,g,G,_,h1,h2,h3=>⟨p,g,G,q,rfl,rfl,rfl,rfl,h1,h2,h3⟩
 |k::ks,p,q,g,G,hk,h1,h2,h3=>by
  obtain⟨a,b⟩:=hk k List.mem_cons_self;obtain⟨k,rfl⟩:=Int.eq_ofNat_of_zero_le a;have hkn:k<n:=by omega
  obtain⟨s1,s2⟩:=h1.step n1 n4 hS hkn;obtain⟨t1,t2⟩:=h3.step h1.p1 h1.p2 h1.dim hkn s1;have s3:=h2.step (p:=p) m1 hkn;obtain⟨f1,f2⟩:=hf p k h1.ok (by have:=h1.p1;omega);rw[s1]at f1;have f3:=f2 f1;obtain⟨g1,g2⟩:=hf q k h3.ok (by have:=h3.q1;omega);rw[t1]at g1;have g3:=g2 g1;obtain⟨p',g',G',q',w1,w2,w3,w4,w5,w6,w7⟩:=Ds n1 n4 hS m1 hf ks (aI p k) (aI q k) _ _ (λx hx=>hk x (List.mem_cons_of_mem _ hx)) s2 s3 t2;have e:cE f p ((k:Int)::ks)=(p::(cE f (aI p k) ks).1,true):=by rw[cE,if_pos f1,f3,if_pos w1]
  have e2:dS f q ((k:Int)::ks)=dS f (aI q k) ks:=by rw[dS,if_pos g1,g3]
  refine⟨p',g',G',q',by rw[e], ?_, ?_,by rw[e2];exact w4,w5,w6,w7⟩;·rw[e,List.length_cons,List.getD_cons_succ];exact w2
  ·rw[e];exact w3
end
def MC{n:Nat}{S:List (List (List Int))}{m:Int×Int×List Int}{d:Nat->Int}(n1:1<=n)(n4:n<=4)(hm:b8 n m)(hd:cz m.1.toNat (ae m) d)(hS:tR n (cB m)∈S) :
  iZ n S (ae m) d (cS m) (λi j=>if i=j then 1 else 0)/\mO n (λi j=>if i=j then 1 else 0) (gC n)/\ow n (cS m) m:=by
 obtain⟨⟨d',hR⟩,m1,m2⟩:=id hm;have e1:m.1.toNat=n:=by omega
 have h8:2*m.1<=8:=by omega
 have hok:=L9 hR.ok (m2.trans m1.symm) h8;have hup:∀i j,i<n->j<n->ae (cS m) i j=ae m i j:=λi j hi hj=>mM hm.dim (m2.trans m1.symm) (by omega) (by omega);have hlow:∀r j,r<n->j<n->cF n (cS m) r j=if r=j then 1 else 0:=λr j hr hj=>yC hm.dim m1 m2 hr hj
 refine⟨⟨hok,m1,by show 2*m.1=_;rw[m1],⟨_,hS,Mf hm h8⟩,⟨λi hi=>(hd i (by omega)).1,λi j hi hj=>?_,λi j hi hj=>?_,λi j hi hj=>?_⟩,1,.inl rfl, ?_, ?_⟩,⟨by have:=CE n;exact this,λr j hr hj=>?_⟩,⟨hR.sizes,⟨d',hR.good⟩⟩,m1,m2,λi j hi hj=>(hup i j hi hj).symm⟩;·rw[hup i j hi hj,hup j i hj hi];exact(hd i (by omega)).2 j (by omega)
 ·rw[oc (k:=i) n hi (λt _ e=>by rw[if_neg (λq=>e q.symm),Int.zero_mul]),if_pos rfl,Int.one_mul,hup i j hi hj,
   oc (k:=j) n hj (λt ht e=>by rw[hlow t j ht hj,if_neg e,Int.mul_zero]),hlow j j hj hj,if_pos rfl,Int.mul_one]
 ·rw[oc (k:=i) n hi (λt _ e=>by rw[if_neg e,Int.zero_mul,Int.zero_mul]),if_pos rfl,Int.one_mul,hlow i j hi hj];by_cases e:i=j;·rw[if_pos e,if_pos e,Int.mul_one]
  ·rw[if_neg e,if_neg e,Int.mul_zero]
 ·exact CI n1 n4 _ λi j hi hj=>hlow i j hi hj
 ·exact CI n1 n4 _ λi j hi hj=>rfl
 ·unfold gC;rw[iI hr,xM hj];split<;>exact(aL (by omega) (by omega)).symm
end Go.Fw
set_option linter.defProp false
set_option linter.unusedSectionVars false
set_option linter.unusedSimpArgs false
set_option maxRecDepth 100000
namespace Go.Fw
section
variable {J : Type}
namespace kw
def g(b:List Int):Bool:=decide (1048576<(b.length:Int))
def Z0{J:Type}(N:Nat)(a:List Int)(kr:Bool->Option J):Option J :=
 kr (lk N (decide (1048576<(a.length:Int))))
def Spec:Prop:=∀ (v0:List Int),Ty.bd (.sl 0 (.int .u8)) v0->∃N0,∀N,N0<=N->Z0 N v0 (λv2=>some ((),(v2,())))=some ((),((g v0),()))
def ok:Spec:=λb hb=>⟨0,λN hN=>by simp only[Z0,aC,g]⟩
end kw
namespace bS
def tT(h x:Int):Int:=eD .and .i64 (ab (ab (ab (h*131)+ab x)+7)) 1073741823
def g(b:List Int):Int×Int:=(0,(b.take 4000).foldl tT (ab (124929+(b.length:Int))))
def Z1{J:Type}(N:Nat)(a:List Int)(kn:List Int->Option J):Option J :=
 kn a
def Z3{J:Type}(N:Nat)(a:List Int)(kn:List Int->Int->Option J):Option J :=
 kn a (ab (124929+(a.length:Int)))
def Z6{J:Type}(N:Nat)(a:List Int)(b:Int)(kn:List Int->I2 (Option J)):Option J :=
 kn a b 0
def Z9{J:Type}(N:Nat)(a:List Int)(c b:Int)(kn:List Int->I2 (Option J))(k0:List Int->Int->Option J):Option J :=
 cond (lk N (decide (b<(a.length:Int))))
 (
  cond (lk N (decide (b<4000)))
  (
   cond (lk N (av b a.length)) (
    kn a (eD .and .i64 (ab ((ab ((ab (c*131))+(ab ((a.getD b.toNat 0)))))+7)) 1073741823) (ab (b+1))) none)
  (
   k0 a c))
 (
  k0 a c)
def Z8L{J:Type}(N:Nat)(k0:List Int->Int->Option J):Nat->List Int->Int->Int->Option J
 |0,_,_,_=>none
 |M+1,a,b,c=>Z9 N a b c (λa b c=>Z8L N k0 M a b c) k0
def Z8 N a b c k0:=(Z8L N k0 N a b c:Option J)
def Z7 N a b c kn:=(Z8 N a b c kn:Option J)
def Z5 N a b kn:=(Z6 N a b (λa b c=>Z7 N a b c kn):Option J)
def Z10{J:Type}(N:Nat)(a:List Int)(b:Int)(kr:List Int->I2 (Option J)):Option J :=
 kr a 0 b
def Z4 N a b kr:=(Z5 N a b (λa b=>Z10 N a b kr):Option J)
def Z2 N a kr:=(Z3 N a (λa b=>Z4 N a b kr):Option J)
def Z0 N a kr:=(Z1 N a (λa=>Z2 N a kr):Option J)
def Spec:Prop:=∀{U:Type} (u:U) (v0:List Int),Ty.bd (.sl 0 (.int .u8)) v0->∃N0,∀N,N0<=N->Z0 N v0 (λv31_0 v31_1 v31_2=>some (u,(v31_1,v31_2)))=some (u,(g v0))
def loop{J:Type}{N:Nat}(b:List Int)(k0:List Int->Int->Option J):∀(M i:Nat) (h:Int),i<=(b.take 4000).length->(b.take 4000).length-i<M ->
  Z8L N k0 M b h (i:Int)=k0 b (((b.take 4000).drop i).foldl tT h):=by
 intro M;induction M with
 |zero=>intro i h _ hM;omega
 |succ M ih =>
  intro i h hi hM;have hL:(b.take 4000).length=min 4000 b.length:=List.length_take;simp only[Z8L,Z9];by_cases hl:i<(b.take 4000).length
  ·have hlt:i<b.length:=by omega
   have hge:(b.take 4000).getD i 0=b.getD i 0:=by rw[List.getD_eq_getElem?_getD,List.getD_eq_getElem?_getD,List.getElem?_take,if_pos (by omega)]
   rw[ct (dt (by omega)),ct (dt (by omega)),ct (aR hlt),Int.toNat_natCast,iH (l:=b.take 4000) 0 hl,hge,bA (by rw[bD];omega)];exact ih (i+1) _ hl (by omega)
  ·rw[List.drop_of_length_le (by omega)];by_cases hlt:i<b.length;·rw[ct (dt (by omega)),cf (df (by omega))];rfl
   ·rw[cf (df (by omega))];rfl
def ok:Spec:=λu b hb=>⟨5000,λN hN=>by simp only[Z0,Z1,Z2,Z3,Z4,Z5,Z6,Z7,Z8];refine(loop b _ N 0 _ (Nat.zero_le _) (by rw[List.length_take];omega)).trans ?_;rw[List.drop_zero];rfl⟩
end bS
namespace f7
def g(n low high:Int):Bool:=bX n low high
def Z0{J:Type}(N:Nat)(a b c:Int)(kr:Bool->Option J):Option J :=
 cond (lk N (decide (b<=a)))
 (
  kr (lk N (decide (a<=c))))
 (
  kr false)
def Spec:Prop:=∀ (v0 v1 v2:Int),∃N0,∀N,N0<=N->Z0 N v0 v1 v2 (λv6=>some ((),(v6,())))=some ((),((g v0 v1 v2),()))
def ok:Spec:=λn low high=>⟨0,λN hN=>by simp only[Z0,aC,g,bX];cases decide (low<=n)<;>rfl⟩
end f7
namespace ca
def g(m:Int×Int×List Int):Bool:=aS m
def Z1{J:Type}(N:Nat)(a:MT)(kn:I2 (LI->Option J)):Option J :=
 kn a.1 a.2.1 a.2.2
def Z3{J:Type}(N:Nat)(a b:Int)(c:LI)(kn:I2 (LI->Option J))(kr:Bool->Option J):Option J :=
 cond (!(lk N ((f7.g a 1 5))))
 (
  kr false)
 (
  cond (!(lk N ((f7.g b a 8))))
  (
   kr false)
  (
   cond (lk N (!(decide ((c.length:Int)=(ab (a*b))))))
   (
    kr false)
   (
    kn a b c)))
def Z6{J:Type}(N:Nat)(a b:Int)(c:LI)(kn:I3 (LI->Option J)):Option J :=
 kn 0 a b c
def Z9{J:Type}(N:Nat)(b c d:Int)(a:LI)(kn:I3 (LI->Option J))(k0:I2 (LI->Option J))(kr:Bool->Option J):Option J :=
 cond (lk N (decide (b<(a.length:Int))))
 (
  cond (lk N (av b a.length)) (
   cond (!(lk N ((f7.g (a.getD b.toNat 0) (-99) 99))))
   (
    kr false)
   (
    kn (ab (b+1)) c d a)) none)
 (
  k0 c d a)
def Z8L{J:Type}(N:Nat)(k0:I2 (LI->Option J))(kr:Bool->Option J):Nat->Int->Int->Int->LI->Option J
 |0,_,_,_,_=>none
 |M+1,a,b,c,d=>Z9 N a b c d (λa b c d=>Z8L N k0 kr M a b c d) k0 kr
def Z8 N a b c d k0 kr:=(Z8L N k0 kr N a b c d:Option J)
def Z7 N a b c d kn kr:=(Z8 N a b c d kn kr:Option J)
def Z5 N a b c kn kr:=(Z6 N a b c (λd a b c=>Z7 N d a b c kn kr):Option J)
def Z12{J:Type}(N:Nat)(a b:Int)(c:LI)(kn:I3 (LI->Option J)):Option J :=
 kn 0 a b c
def Z16{J:Type}(N:Nat)(a b c:Int)(d:LI)(kn:I3 (LI->Option J))(k2:Option J):Option J :=
 cond (lk N (decide (a<b)))
 (
  kn a b c d)
 (
  k2)
def Z20{J:Type}(N:Nat)(a b c:Int)(d:LI)(kn:I4 (LI->Option J)):Option J :=
 kn a 0 b c d
def Z23{J:Type}(N:Nat)(b c a d:Int)(e:LI)(kn:I4 (LI->Option J))(k4:I3 (LI->Option J))(kr:Bool->Option J):Option J :=
 cond (lk N (decide (c<a)))
 (
  cond (lk N (bw.P (a,(d,e)) b c)) (
   cond (lk N (bw.P (a,(d,e)) c b)) (
    cond (lk N (!(((lk N (decide (0<(bw.g (a,(d,e)) b c)))) == (lk N (decide ((bw.g (a,(d,e)) c b)<0)))))))
    (
     kr false)
    (
     cond (lk N (!(((lk N (decide ((bw.g (a,(d,e)) b c)=0))) == (lk N (decide ((bw.g (a,(d,e)) c b)=0)))))))
     (
      kr false)
     (
      kn b (ab (c+1)) a d e))) none) none)
 (
  k4 b a d e)
def Z22L{J:Type}(N:Nat)(k4:I3 (LI->Option J))(kr:Bool->Option J):Nat->Int->Int->Int->Int->LI->Option J
 |0,_,_,_,_,_=>none
 |M+1,a,b,c,d,e=>Z23 N a b c d e (λa b c d e=>Z22L N k4 kr M a b c d e) k4 kr
def Z22 N a b c d e k4 kr:=(Z22L N k4 kr N a b c d e:Option J)
def Z21 N a b c d e kn kr:=(Z22 N a b c d e kn kr:Option J)
def Z19 N a b c d kn kr:=(Z20 N a b c d (λa e b c d=>Z21 N a e b c d kn kr):Option J)
def Z18 N a b c d kn kr:=(Z19 N a b c d kn kr:Option J)
def Z24{J:Type}(N:Nat)(a b c:Int)(d:LI)(kn:I3 (LI->Option J)):Option J :=
 kn (ab (a+1)) b c d
def Z17 N a b c d kn kr:=(Z18 N a b c d (λa b c d=>Z24 N a b c d kn) kr:Option J)
def Z15 N a b c d kn k2 kr:=(Z16 N a b c d (λa b c d=>Z17 N a b c d kn kr) k2:Option J)
def Z14L{J:Type}(N:Nat)(k2:Option J)(kr:Bool->Option J):Nat->Int->Int->Int->LI->Option J
 |0,_,_,_,_=>none
 |M+1,a,b,c,d=>Z15 N a b c d (λa b c d=>Z14L N k2 kr M a b c d) k2 kr
def Z14 N a b c d k2 kr:=(Z14L N k2 kr N a b c d:Option J)
def Z13 N a b c d kn kr:=(Z14 N a b c d kn kr:Option J)
def Z11 N a b c kn kr:=(Z12 N a b c (λd a b c=>Z13 N d a b c kn kr):Option J)
def Z25{J:Type}(N:Nat) (kr:Bool->Option J):Option J :=
 kr true
def Z10 N a b c kr:=(Z11 N a b c (Z25 N kr) kr:Option J)
def Z4 N a b c kr:=(Z5 N a b c (λa b c=>Z10 N a b c kr) kr:Option J)
def Z2 N a b c kr:=(Z3 N a b c (λa b c=>Z4 N a b c kr) kr:Option J)
def Z0 N a kr:=(Z1 N a (λb c d=>Z2 N b c d kr):Option J)
def Spec:Prop:=∀ (v0:MT),Ty.bd (.pair (.int .i64) (.pair (.int .i64) (.sl 0 (.int .i64)))) v0->∃N0,∀N,N0<=N->Z0 N v0 (λv2=>some ((),(v2,())))=some ((),((g v0),()))
section
variable {J : Type} {N : Nat} {m : Int × Int × List Int}
def at_g(hd:0<=m.1)(a b:Nat):bw.g (m.1,(m.2.1,m.2.2)) (a:Int) (b:Int)=ae m a b:=gA hd a b
def at_p(hd:az m=true){a b:Nat}(ha:a<m.1.toNat)(hb:b<m.1.toNat):bw.P (m.1,(m.2.1,m.2.2)) (a:Int) (b:Int)=true:=by obtain⟨n,r,hn,hr,hn1,hn5,hnr,hr8,hl⟩:=aN hd;exact gW hd (by omega) hb
def loop1(hl:m.2.2.length<=maxLen)(k0:Int->Int->List Int->Option J)(kr:Bool->Option J):∀(M j:Nat),j<=m.2.2.length->m.2.2.length-j<M ->
  Z8L N k0 kr M (j:Int) m.1 m.2.1 m.2.2=cond (gB (m.2.2.drop j)) (k0 m.1 m.2.1 m.2.2) (kr false):=by
 intro M;induction M with
 |zero=>intro j _ h;omega
 |succ M ih =>
  intro j hj hM;simp only[Z8L,Z9];by_cases h:j<m.2.2.length;·rw[ct (dt (by omega)),ct (aR h),Int.toNat_natCast,bA (by omega),iH 0 h,gB,List.all_cons,ih (j+1) h (by omega)];simp only[aC,f7.g];cases bX (m.2.2.getD j 0) (-99) 99<;>rfl
  ·rw[cf (df (by omega)),List.drop_of_length_le (by omega)];rfl
def loop3(hd:az m=true)(k4:Int->Int->Int->List Int->Option J)(kr:Bool->Option J){i:Nat}(hi:i<m.1.toNat):∀(M j:Nat),j<=m.1.toNat->m.1.toNat-j<M ->
  Z22L N k4 kr M (i:Int) (j:Int) m.1 m.2.1 m.2.2=cond (((List.range m.1.toNat).drop j).all λj=>fk (ae m i j) (ae m j i)) (k4 (i:Int) m.1 m.2.1 m.2.2) (kr false):=by
 obtain⟨n,r,hn,hr,hn1,hn5,hnr,hr8,hl⟩:=aN hd;intro M;induction M with
 |zero=>intro j _ h;omega
 |succ M ih =>
  intro j hj hM;simp only[Z22L,Z23];by_cases h:j<m.1.toNat;·rw[ct (dt (by omega)),ct (at_p hd hi h),ct (at_p hd h hi),kV h,List.all_cons,bA (by rw[bD];omega),ih (j+1) h (by omega)];have hA:bw.g (m.1,(m.2.1,m.2.2)) (i:Int) (j:Int)=ae m i j:=at_g (by omega) _ _;have hB:bw.g (m.1,(m.2.1,m.2.2)) (j:Int) (i:Int)=ae m j i:=at_g (by omega) _ _;simp only[aC,hA,hB,fk];cases(decide (0<ae m i j) == decide (ae m j i<0))<;>cases(decide (ae m i j=0) == decide (ae m j i=0))<;>rfl
  ·rw[cf (df (by omega)),List.drop_of_length_le (by simp;omega)];rfl
def loop2(hN:10<=N)(hd:az m=true)(k2:Option J)(kr:Bool->Option J):∀(M i:Nat),i<=m.1.toNat->m.1.toNat-i<M ->
  Z14L N k2 kr M (i:Int) m.1 m.2.1 m.2.2=cond (((List.range m.1.toNat).drop i).all λi=>(List.range m.1.toNat).all λj=>fk (ae m i j) (ae m j i)) k2 (kr false):=by
 obtain⟨n,r,hn,hr,hn1,hn5,hnr,hr8,hl⟩:=aN hd;intro M;induction M with
 |zero=>intro i _ h;omega
 |succ M ih =>
  intro i hi hM;simp only[Z14L,Z15,Z16];by_cases h:i<m.1.toNat;·rw[ct (dt (by omega))];simp only[Z17,Z18,Z19,Z20,Z21,Z22];have h3:=loop3 (J:=J) (N:=N) hd (λa b c d=>Z24 N a b c d (λa b c d=>Z14L N k2 kr M a b c d)) kr h N 0 (by omega) (by omega);rw[show((0:Nat):Int)=0 from rfl]at h3;rw[h3,kV h,List.all_cons,List.drop_zero];simp only[Z24];rw[bA (by rw[bD];omega),ih (i+1) h (by omega)];cases((List.range m.1.toNat).all λj=>fk (ae m i j) (ae m j i))<;>rfl
  ·rw[cf (df (by omega)),List.drop_of_length_le (by simp;omega)];rfl
end
def ok:Spec:=λm hb=>⟨m.2.2.length+10,λN hN=>by
 have hlen:m.2.2.length<=maxLen:=hb.2.2.1;simp only[Z0,Z1,Z2,Z3,f7.g,g,aS,bi];have xX:az m=true->Z4 N m.1 m.2.1 m.2.2 (λt=>some ((),(t,())))=some ((),((gB m.2.2&&(List.range m.1.toNat).all λi=>(List.range m.1.toNat).all λj=>fk (ae m i j) (ae m j i)),())):=by intro hd;obtain⟨n,r,hn,hr,hn1,hn5,hnr,hr8,hl⟩:=aN hd;simp only[Z4,Z5,Z6,Z7,Z8];have h1:=loop1 (N:=N) hlen (λa b c=>Z10 N a b c (λt=>some ((),(t,())))) (λt=>some ((),(t,()))) N 0 (by omega) (by omega);rw[show((0:Nat):Int)=0 from rfl]at h1;rw[h1,List.drop_zero];simp only[Z10,Z11,Z12,Z13,Z14,Z25];have h2:=loop2 (N:=N) (by omega) hd (some ((),(true,()))) (λt=>some ((),(t,()))) N 0 (by omega) (by omega);rw[show((0:Nat):Int)=0 from rfl]at h2;rw[h2,List.drop_zero];cases gB m.2.2<;>cases((List.range m.1.toNat).all λi=>(List.range m.1.toNat).all λj=>fk (ae m i j) (ae m j i))<;>rfl
 cases h1:bX m.1 1 5;·rw[az,h1];simp[aC]
 cases h2:bX m.2.1 m.1 8;·rw[az,h1,h2];simp[aC]
 have e1:=cy.1 h1;have e2:=cy.1 h2;have e3:0<=m.1*m.2.1:=Int.mul_nonneg (by omega) (by omega);have e4:m.1*m.2.1<=5*8:=Int.mul_le_mul (by omega) (by omega) (by omega) (by omega);rw[aL (by omega) (by omega)];by_cases h3:(m.2.2.length:Int)=m.1*m.2.1
 ·have hd:az m=true:=by rw[az,h1,h2,dt h3];rfl
  rw[dO (by simp[aC]),dO (by simp[aC]),cf (nf h3),xX hd,hd];rfl
 ·have hd:az m=false:=by rw[az,h1,h2,df h3];rfl
  rw[dO (by simp[aC]),dO (by simp[aC]),ct (nt h3),hd];rfl⟩
end ca
namespace ky
def g(m:Int×Int×List Int):Bool:=aS m&&!decide (be m=[])
def Z0{J:Type}(N:Nat)(a:MT)(kr:Bool->Option J):Option J :=
 cond (!(lk N ((ca.g a))))
 (
  kr false)
 (
  cond (lk N (aQ.P a)) (
   kr (lk N ((aQ.g a).2))) none)
def Spec:Prop:=∀ (v0:MT),Ty.bd (.pair (.int .i64) (.pair (.int .i64) (.sl 0 (.int .i64)))) v0->∃N0,∀N,N0<=N->Z0 N v0 (λv2=>some ((),(v2,())))=some ((),((g v0),()))
def ok:Spec:=λm hb=>⟨0,λN hN=>by simp only[Z0,aC,g,ca.g,aQ.P,aQ.g];cases aS m<;>rfl⟩
end ky
namespace it
def P(a:List Int):Bool:=decide (a.length<1099511627776)
abbrev g(a:List Int):List Int:=a
def Z0{J:Type}(N:Nat)(a:LI)(kr:LI->Option J):Option J :=
 cond (lk N (Nat.blt (([]:List Int).length+a.length) 1099511627776)) (
  kr (([]:List Int)++a)) none
def Spec:Prop:=∀ (v0:LI),Ty.bd (.sl 0 (.int .i64)) v0->P v0=true->∃N0,∀N,N0<=N->Z0 N v0 (λv2=>some ((),(v2,())))=some ((),((g v0),()))
def ok:Spec:=λa hb hp=>⟨0,λN hN=>by
 have hl:a.length<1099511627776:=by simpa[P]using hp
 have hc:Nat.blt (([]:List Int).length+a.length) 1099511627776=true:=by simpa using hl
 simp only[Z0,aC,g,hc,cond_true,List.nil_append]⟩
end it
namespace eR
def P(m:Int×Int×List Int):Bool:=it.P m.2.2
abbrev g(m:Int×Int×List Int):Int×Int×List Int:=m
def Z0{J:Type}(N:Nat)(a:MT)(kr:LI->I2 (Option J)):Option J :=
 cond (lk N (it.P a.2.2)) (
  kr (it.g a.2.2) a.1 a.2.1) none
def Spec:Prop:=∀ (v0:MT),Ty.bd (.pair (.int .i64) (.pair (.int .i64) (.sl 0 (.int .i64)))) v0->P v0=true->∃N0,∀N,N0<=N->Z0 N v0 (λv2_2 v2_0 v2_1=>some ((),((v2_0,(v2_1,v2_2)),())))=some ((),((g v0),()))
def ok:Spec:=λm hb hp=>⟨0,λN hN=>by simp only[Z0];exact ct (show it.P m.2.2=true from hp)⟩
end eR
namespace bI
def P(m:Int×Int×List Int)(k:Int):Bool:=bi m&&(decide (0<=k)&&decide (k<m.1))
def g(m:Int×Int×List Int)(k:Int):Int×Int×List Int:=aI m k.toNat
def Z1{J:Type}(N:Nat)(a:MT)(b:Int)(kn:I3 (LI->I2 (Option J))):Option J :=
 kn b a.1 a.2.1 a.2.2 0 0
def Z3{J:Type}(N:Nat)(d a b:Int)(c:LI)(e f:Int)(kn:LI->I3 (LI->I4 (Option J))):Option J :=
 cond (lk N (eR.P (a,(b,c)))) (
  kn (eR.g (a,(b,c))).2.2 d a b c e f (eR.g (a,(b,c))).1 (eR.g (a,(b,c))).2.1) none
def Z6{J:Type}(N:Nat)(a:LI)(b c d:Int)(e:LI)(f g h i:Int)(kn:LI->I4 (LI->I4 (Option J))):Option J :=
 kn a b 0 c d e f g h i
def Z10{J:Type}(N:Nat)(a:LI)(h b i c:Int)(j:LI)(d e f g:Int)(kn:LI->I4 (LI->I4 (Option J)))(k0:LI->I4 (Option J)):Option J :=
 cond (lk N (decide (b<c)))
 (
  kn a h b i c j d e f g)
 (
  k0 a d e f g)
def Z14{J:Type}(N:Nat)(a:LI)(b c d e:Int)(f:LI)(g h i j:Int)(kn:LI->I5 (LI->I4 (Option J))):Option J :=
 kn a b c 0 d e f g h i j
def Z18{J:Type}(N:Nat)(b:LI)(c d e a f:Int)(g:LI)(h i j l:Int)(kn:LI->I5 (LI->I4 (Option J)))(k2:LI->I4 (LI->I4 (Option J))):Option J :=
 cond (lk N (decide (e<a)))
 (
  kn b c d e a f g h i j l)
 (
  k2 b c d a f g h i j l)
def Z22{J:Type}(N:Nat)(f:LI)(a b h c d:Int)(e:LI)(i j l m:Int)(kn:LI->I6 (LI->I4 (Option J))):Option J :=
 cond (lk N (bw.P (c,(d,e)) b a)) (
  kn f a b h (bw.g (c,(d,e)) b a) c d e i j l m) none
def Z24{J:Type}(N:Nat)(f:LI)(a h b i c d:Int)(e:LI)(j l m o:Int)(kn:LI->I7 (LI->I4 (Option J))):Option J :=
 cond (lk N (bw.P (c,(d,e)) a b)) (
  kn f a h b i (bw.g (c,(d,e)) a b) c d e j l m o) none
def Z27{J:Type}(N:Nat)(d:LI)(a b c e f g h:Int)(i:LI)(j l m o:Int)(kn:LI->I5 (Bool->I2 (LI->I4 (Option J)))):Option J :=
 cond (lk N (decide (b=a)))
 (
  kn d a b c e f true g h i j l m o)
 (
  kn d a b c e f (lk N (decide (c=a))) g h i j l m o)
def Z28{J:Type}(N:Nat)(f:LI)(h a b o p:Int)(q:Bool)(c d:Int)(e:LI)(i j l m:Int)(kn:LI->I5 (LI->I4 (Option J))):Option J :=
 cond (q)
 (
  cond (lk N (bw.P (c,(d,e)) a b)) (
   cond (lk N (av (ab ((ab (a*c))+b)) f.length)) (
    kn (f.set (ab ((ab (a*c))+b)).toNat (ab (0-(bw.g (c,(d,e)) a b)))) h a b c d e i j l m) none) none)
 (
  cond (lk N (decide (0<o)))
  (
   cond (lk N (decide (0<p)))
   (
    cond (lk N (bw.P (c,(d,e)) a b)) (
     cond (lk N (av (ab ((ab (a*c))+b)) f.length)) (
      kn (f.set (ab ((ab (a*c))+b)).toNat (ab ((bw.g (c,(d,e)) a b)+(ab (o*p))))) h a b c d e i j l m) none) none)
   (
    cond (lk N (decide (o<0)))
    (
     cond (lk N (decide (p<0)))
     (
      cond (lk N (bw.P (c,(d,e)) a b)) (
       cond (lk N (av (ab ((ab (a*c))+b)) f.length)) (
        kn (f.set (ab ((ab (a*c))+b)).toNat (ab ((bw.g (c,(d,e)) a b)-(ab (o*p))))) h a b c d e i j l m) none) none)
     (
      kn f h a b c d e i j l m))
    (
     kn f h a b c d e i j l m)))
  (
   cond (lk N (decide (o<0)))
   (
    cond (lk N (decide (p<0)))
    (
     cond (lk N (bw.P (c,(d,e)) a b)) (
      cond (lk N (av (ab ((ab (a*c))+b)) f.length)) (
       kn (f.set (ab ((ab (a*c))+b)).toNat (ab ((bw.g (c,(d,e)) a b)-(ab (o*p))))) h a b c d e i j l m) none) none)
    (
     kn f h a b c d e i j l m))
   (
    kn f h a b c d e i j l m)))
def Z26 N a b c d e f g h i j l m o kn:=(Z27 N a b c d e f g h i j l m o (λa b c d e f p g h i j l m o=>Z28 N a b c d e f p g h i j l m o kn):Option J)
def Z25 N a b c d e f g h i j l m o kn:=(Z26 N a b c d e f g h i j l m o kn:Option J)
def Z23 N a b c d e f g h i j l m kn:=(Z24 N a b c d e f g h i j l m (λa b c d e o f g h i j l m=>Z25 N a b c d e o f g h i j l m kn):Option J)
def Z21 N a b c d e f g h i j l kn:=(Z22 N a b c d e f g h i j l (λa b c d m e f g h i j l=>Z23 N a b c d m e f g h i j l kn):Option J)
def Z20 N a b c d e f g h i j l kn:=(Z21 N a b c d e f g h i j l kn:Option J)
def Z29{J:Type}(N:Nat)(a:LI)(b c d e f:Int)(g:LI)(h i j l:Int)(kn:LI->I5 (LI->I4 (Option J))):Option J :=
 kn a b c (ab (d+1)) e f g h i j l
def Z19 N a b c d e f g h i j l kn:=(Z20 N a b c d e f g h i j l (λa b c d e f g h i j l=>Z29 N a b c d e f g h i j l kn):Option J)
def Z17 N a b c d e f g h i j l kn k2:=(Z18 N a b c d e f g h i j l (λa b c d e f g h i j l=>Z19 N a b c d e f g h i j l kn) k2:Option J)
def Z16L{J:Type}(N:Nat)(k2:LI->I4 (LI->I4 (Option J))):Nat->LI->Int->Int->Int->Int->Int->LI->Int->Int->Int->Int->Option J
 |0,_,_,_,_,_,_,_,_,_,_,_=>none
 |M+1,a,b,c,d,e,f,g,h,i,j,l=>Z17 N a b c d e f g h i j l (λa b c d e f g h i j l=>Z16L N k2 M a b c d e f g h i j l) k2
def Z16 N a b c d e f g h i j l k2:=(Z16L N k2 N a b c d e f g h i j l:Option J)
def Z15 N a b c d e f g h i j l kn:=(Z16 N a b c d e f g h i j l kn:Option J)
def Z13 N a b c d e f g h i j kn:=(Z14 N a b c d e f g h i j (λa b c l d e f g h i j=>Z15 N a b c l d e f g h i j kn):Option J)
def Z12 N a b c d e f g h i j kn:=(Z13 N a b c d e f g h i j kn:Option J)
def Z30{J:Type}(N:Nat)(a:LI)(b c d e:Int)(f:LI)(g h i j:Int)(kn:LI->I4 (LI->I4 (Option J))):Option J :=
 kn a b (ab (c+1)) d e f g h i j
def Z11 N a b c d e f g h i j kn:=(Z12 N a b c d e f g h i j (λa b c d e f g h i j=>Z30 N a b c d e f g h i j kn):Option J)
def Z9 N a b c d e f g h i j kn k0:=(Z10 N a b c d e f g h i j (λa b c d e f g h i j=>Z11 N a b c d e f g h i j kn) k0:Option J)
def Z8L{J:Type}(N:Nat)(k0:LI->I4 (Option J)):Nat->LI->Int->Int->Int->Int->LI->Int->Int->Int->Int->Option J
 |0,_,_,_,_,_,_,_,_,_,_=>none
 |M+1,a,b,c,d,e,f,g,h,i,j=>Z9 N a b c d e f g h i j (λa b c d e f g h i j=>Z8L N k0 M a b c d e f g h i j) k0
def Z8 N a b c d e f g h i j k0:=(Z8L N k0 N a b c d e f g h i j:Option J)
def Z7 N a b c d e f g h i j kn:=(Z8 N a b c d e f g h i j kn:Option J)
def Z5 N a b c d e f g h i kn:=(Z6 N a b c d e f g h i (λa b j c d e f g h i=>Z7 N a b j c d e f g h i kn):Option J)
def Z31{J:Type}(N:Nat)(a:LI)(d e b c:Int)(kr:LI->I2 (Option J)):Option J :=
 kr a b c
def Z4 N a f g h i b c d e kr:=(Z5 N a f g h i b c d e (λa b c d e=>Z31 N a b c d e kr):Option J)
def Z2 N a b c d e f kr:=(Z3 N a b c d e f (λg a b c d e f h i=>Z4 N g a b c d e f h i kr):Option J)
def Z0 N b a kr:=(Z1 N b a (λa c d e f g=>Z2 N a c d e f g kr):Option J)
def Spec:Prop:=∀ (v0:MT) (v1:Int),Ty.bd (.pair (.int .i64) (.pair (.int .i64) (.sl 0 (.int .i64)))) v0->P v0 v1=true->∃N0,∀N,N0<=N->Z0 N v0 v1 (λv4_2 v4_0 v4_1=>some ((),((v4_0,(v4_1,v4_2)),())))=some ((),((g v0 v1),()))
section
variable {J : Type} {N : Nat} {m : Int × Int × List Int} {k : Nat}
def at_g(hd:0<=m.1)(a b:Nat):bw.g (m.1,(m.2.1,m.2.2)) (a:Int) (b:Int)=ae m a b:=gA hd a b
def at_p(hd:az m=true){a b:Nat}(ha:a<m.2.1.toNat)(hb:b<m.1.toNat):bw.P (m.1,(m.2.1,m.2.2)) (a:Int) (b:Int)=true:=gW hd ha hb
def cur(m:Int×Int×List Int)(k p:Nat):List Int:=eW m.2.2.length p (jv m k) (λp=>m.2.2.getD p 0)
def inner(hs:bi m=true)(hk:k<m.1.toNat)(k2:List Int->Int->Int->Int->Int->List Int->Int->Int->Int->Int->Option J)(t0 t1 o0 o1:Int){i:Nat}(hi:i<m.2.1.toNat):∀(M j:Nat),j<=m.1.toNat->m.1.toNat-j<M ->
  Z16L N k2 M (cur m k (i*m.1.toNat+j)) (k:Int) (i:Int) (j:Int) m.1 m.2.1 m.2.2 t0 t1 o0 o1=k2 (cur m k (i*m.1.toNat+m.1.toNat)) (k:Int) (i:Int) m.1 m.2.1 m.2.2 t0 t1 o0 o1:=by
 have hd:=cD hs;obtain⟨n,r,hn,hr,hn1,hn5,hnr,hr8,hl⟩:=aN hd;intro M;induction M with
 |zero=>intro j _ h;omega
 |succ M ih =>
  intro j hj hM;simp only[Z16L,Z17,Z18];by_cases h:j<m.1.toNat
  ·have hlt:i*m.1.toNat+j<m.2.2.length:=by have:=fU (n:=n) (r:=r) (i:=i) (j:=j) (by omega) (by omega);rw[hl,hn];exact this
   have hidx:ab (ab ((i:Int)*m.1)+(j:Int))=((i*m.1.toNat+j:Nat):Int):=by
    have e:(i:Int)*m.1=((i*m.1.toNat:Nat):Int):=by rw[hn,Int.natCast_mul];simp
    have hb:i*m.1.toNat<=8*5:=Nat.mul_le_mul (by omega) (by omega);have e2:ab (((i*m.1.toNat:Nat):Int))=((i*m.1.toNat:Nat):Int):=aL (by omega) (by omega);rw[e,e2,aL (by omega) (by omega)];omega
   have b1:=fV hs i j;have b2:=fV hs i k;have b3:=fV hs k j;have hbc:=Cr (f:=false) b1 b2 b3;have hF:=xI (m:=m) (k:=k) (i:=i) h;have hcl:(cur m k (i*m.1.toNat+j)).length=m.2.2.length:=nW;have hset:∀v,v=jv m k (i*m.1.toNat+j)->(cur m k (i*m.1.toNat+j)).set (i*m.1.toNat+j) v=cur m k (i*m.1.toNat+(j+1)):=λv hv=>by subst hv;exact xy hlt
   have hsame:jv m k (i*m.1.toNat+j)=ae m i j->cur m k (i*m.1.toNat+j)=cur m k (i*m.1.toNat+(j+1)):=λhv=>(Cs hv).symm;have iB:av (((i*m.1.toNat+j:Nat):Int)) (cur m k (i*m.1.toNat+j)).length=true:=aR (by rw[hcl];exact hlt);have pij:=at_p hd hi h;rw[ct (dt (by omega))];simp only[Z19,Z20,Z21,Z22,Z23,Z24,Z25];rw[ct (at_p hd hi hk),ct (at_p hd (show k<m.2.1.toNat by omega) h),at_g (by omega),at_g (by omega)];have fin:∀c,c=cur m k (i*m.1.toNat+(j+1))->Z29 N c (k:Int) (i:Int) (j:Int) m.1 m.2.1 m.2.2 t0 t1 o0 o1 (λout5_2 k1 i6 j7 m2_0 m2_1 m2_2 t4_0 t4_1 out5_0 out5_1=>Z16L N k2 M out5_2 k1 i6 j7 m2_0 m2_1 m2_2 t4_0 t4_1 out5_0 out5_1)=k2 (cur m k (i*m.1.toNat+m.1.toNat)) (k:Int) (i:Int) m.1 m.2.1 m.2.2 t0 t1 o0 o1:=by intro c hc;subst hc;simp only[Z29];rw[bA (by rw[bD];omega)];exact ih (j+1) h (by omega)
   simp only[Z26,Z27,Z28,hidx,Int.toNat_natCast,at_g (show 0<=m.1 by omega)];by_cases hik:i=k;·rw[ct (dt (by omega)),eI rfl,ct pij,ct iB,aL (by omega) (by omega)];refine fin _ (hset _ ?_);rw[hF,dt hik,Int.zero_sub];rfl
   ·rw[cf (df (by omega))];by_cases hjk:j=k;·rw[eI (by rw[aC];exact dt (by omega)),ct pij,ct iB,aL (by omega) (by omega)];refine fin _ (hset _ ?_);rw[hF,df hik,dt hjk,Int.zero_sub];rfl
    ·rw[dO (by rw[aC];exact df (by omega))];rw[df hik,df hjk]at hF;simp only[cw,Bool.or_self,Bool.false_eq_true,if_false]at hF;have wbc:ab (ae m i k*ae m k j)=ae m i k*ae m k j:=aL (by omega) (by omega);rw[wbc];by_cases a1:0<ae m i k
     ·rw[ct (dt a1)];by_cases a2:0<ae m k j;·rw[ct (dt a2),ct pij,ct iB,aL (by omega) (by omega)];refine fin _ (hset _ ?_);rw[hF,if_pos ⟨a1,a2⟩]
      ·rw[cf (df a2),cf (df (by omega))];refine fin _ (hsame ?_);rw[hF,if_neg (by omega),if_neg (by omega)]
     ·rw[cf (df a1)];by_cases a2:ae m i k<0
      ·rw[ct (dt a2)];by_cases a3:ae m k j<0;·rw[ct (dt a3),ct pij,ct iB,aL (by omega) (by omega)];refine fin _ (hset _ ?_);rw[hF,if_neg (by omega),if_pos ⟨a2,a3⟩]
       ·rw[cf (df a3)];refine fin _ (hsame ?_);rw[hF,if_neg (by omega),if_neg (by omega)]
      ·rw[cf (df a2)];refine fin _ (hsame ?_);rw[hF,if_neg (by omega),if_neg (by omega)]
  ·rw[cf (df (by omega)),show j=m.1.toNat by omega]
def outer(hN:10<=N)(hs:bi m=true)(hk:k<m.1.toNat)(k0:List Int->Int->Int->Int->Int->Option J)(t0 t1 o0 o1:Int):∀(M i:Nat),i<=m.2.1.toNat->m.2.1.toNat-i<M ->
  Z8L N k0 M (cur m k (i*m.1.toNat)) (k:Int) (i:Int) m.1 m.2.1 m.2.2 t0 t1 o0 o1=k0 (cur m k (m.2.1.toNat*m.1.toNat)) t0 t1 o0 o1:=by
 have hd:=cD hs;obtain⟨n,r,hn,hr,hn1,hn5,hnr,hr8,hl⟩:=aN hd;intro M;induction M with
 |zero=>intro i _ h;omega
 |succ M ih =>
  intro i hi hM;simp only[Z8L,Z9,Z10];by_cases h:i<m.2.1.toNat;·rw[ct (dt (by omega))];simp only[Z11,Z12,Z13,Z14,Z15,Z16];have hin:=inner (J:=J) (N:=N) hs hk (λout5_2 k1 i6 m2_0 m2_1 m2_2 t4_0 t4_1 out5_0 out5_1=>Z30 N out5_2 k1 i6 m2_0 m2_1 m2_2 t4_0 t4_1 out5_0 out5_1 (λout5_2 k1 i6 m2_0 m2_1 m2_2 t4_0 t4_1 out5_0 out5_1=>Z8L N k0 M out5_2 k1 i6 m2_0 m2_1 m2_2 t4_0 t4_1 out5_0 out5_1)) t0 t1 o0 o1 h N 0 (by omega) (by omega);rw[show((0:Nat):Int)=0 from rfl,Nat.add_zero]at hin;rw[hin];simp only[Z30];rw[bA (by rw[bD];omega)];have:=ih (i+1) h (by omega);rw[Nat.add_mul,Nat.one_mul]at this;exact this
  ·rw[cf (df (by omega)),show i=m.2.1.toNat by omega]
end
def ok:Spec:=λm k hb hp=>⟨10,λN hN=>by
 simp only[P,Bool.and_eq_true,decide_eq_true_eq]at hp;obtain⟨hs,h0,h1⟩:=hp;obtain⟨x,rfl⟩:=Int.eq_ofNat_of_zero_le h0;have hd:=cD hs;obtain⟨n,r,hn,hr,hn1,hn5,hnr,hr8,hl⟩:=aN hd;have hlen:m.2.2.length<=8*5:=by rw[hl];exact Nat.mul_le_mul hr8 hn5
 simp only[Z0,Z1,Z2,Z3];rw[ct (show eR.P (m.1,(m.2.1,m.2.2))=true from dt (show m.2.2.length<1099511627776 by omega))];simp only[Z4,Z5,Z6,Z7,Z8];have hstart:cur m x 0=m.2.2:=by unfold cur;rw[xz];exact qj 0 rfl
 have hend:cur m x (m.2.1.toNat*m.1.toNat)=(aI m x).2.2:=by
  have e:m.2.1.toNat*m.1.toNat=m.2.2.length:=by rw[hl,hn,hr];simp
  rw[e];exact xA
 have:=outer (J:=Unit×(Int×Int×List Int)×Unit) hN hs (show x<m.1.toNat by omega) (λout5_2 t4_0 t4_1 out5_0 out5_1=>Z31 N out5_2 t4_0 t4_1 out5_0 out5_1 (λt4_2 t4_0 t4_1=>some ((),((t4_0,(t4_1,t4_2)),())))) 0 0 m.1 m.2.1 N 0 (by omega) (by omega);rw[Nat.zero_mul,hstart,hend]at this;exact this⟩
end bI
namespace fb
def g(m:Int×Int×List Int)(k:Int):(Int×Int×List Int)×Bool :=
 if((aS m&&!decide (be m=[]))&&(bX k 0 (m.1-1)&&aS (aI m k.toNat)))=true then(aI m k.toNat,true)else((0,0,[]),false)
def Z0{J:Type}(N:Nat)(a:MT)(b:Int)(kr:LI->Bool->I2 (Option J)):Option J :=
 cond (!(lk N ((ky.g a))))
 (
  kr ([]:List Int) false 0 0)
 (
  cond (!(lk N ((f7.g b 0 (ab (a.1-1))))))
  (
   kr ([]:List Int) false 0 0)
  (
   cond (lk N (bI.P a b)) (
    cond (!(lk N ((ca.g (bI.g a b)))))
    (
     kr ([]:List Int) false 0 0)
    (
     kr (bI.g a b).2.2 true (bI.g a b).1 (bI.g a b).2.1)) none))
def Spec:Prop:=∀ (v0:MT) (v1:Int),Ty.bd (.pair (.int .i64) (.pair (.int .i64) (.sl 0 (.int .i64)))) v0->∃N0,∀N,N0<=N->Z0 N v0 v1 (λv4_2 v5 v4_0 v4_1=>some ((),((v4_0,(v4_1,v4_2)),(v5,()))))=some ((),((g v0 v1).1,((g v0 v1).2,())))
def ok:Spec:=λm k hb=>⟨0,λN hN=>by
 simp only[Z0,aC,g,ky.g,f7.g,ca.g];cases h1:(aS m&&!decide (be m=[]));·rfl
 have hs:aS m=true:=by simp only[Bool.and_eq_true]at h1;exact h1.1
 have hd:=cD (cR hs);obtain⟨n,r,hn,hr,hn1,hn5,hnr,hr8,hl⟩:=aN hd;rw[aL (by omega) (by omega)];cases h2:bX k 0 (m.1-1);·rfl
 have h3:=cy.1 h2;have hP:bI.P m k=true:=by simp only[bI.P,Bool.and_eq_true,decide_eq_true_eq];exact⟨cR hs,by omega,by omega⟩
 rw[hP];have hg:bI.g m k=aI m k.toNat:=rfl;rw[hg];cases aS (aI m k.toNat)<;>rfl⟩
end fb
namespace cj
def P(b:List Int)(r:Int×Int)(n:Int):Bool:=bU b r&&bX n 0 5
def stepN(b:List Int)(s:(Int×Int)×List Int)(k:Nat):(Int×Int)×List Int :=
 ((ao.g b s.1 ((s.2.length:Int)+1)).1,s.2.take (ao.g b s.1 ((s.2.length:Int)+1)).2.toNat++[(k:Int)]++s.2.drop (ao.g b s.1 ((s.2.length:Int)+1)).2.toNat)
def g(b:List Int)(r:Int×Int)(n:Int):(Int×Int)×List Int:=(List.range n.toNat).foldl (stepN b) (r,[])
def Z1{J:Type}(N:Nat)(b0:List Int)(r0:Int×Int)(a:Int)(kn:Int->List Int->I2 (Option J)):Option J :=
 kn a b0 r0.1 r0.2
def Z3{J:Type}(N:Nat)(a:Int)(b:List Int)(c d:Int)(kn:LI->Int->List Int->I2 (Option J)):Option J :=
 kn ([]:List Int) a b c d
def Z6{J:Type}(N:Nat)(a:LI)(b:Int)(c:List Int)(d e:Int)(kn:LI->I2 (List Int->I2 (Option J))):Option J :=
 kn a b 0 c d e
def Z9{J:Type}(N:Nat)(a:LI)(f b:Int)(c:List Int)(d e:Int)(kn:LI->I2 (List Int->I2 (Option J)))(k0:LI->List Int->I2 (Option J)):Option J :=
 let x1_:=(ao.g c (d,e) (ab ((a.length:Int)+1)));let x4_:=(lk N (bE 0 x1_.2&&bE x1_.2 a.length));let x7_:=(lk N (Nat.blt (([]:List Int).length+((a.drop 0).take x1_.2.toNat).length) 1099511627776));let x8_:=(([]:List Int)++((a.drop 0).take x1_.2.toNat));let x0_:=(
   cond (lk N (Nat.blt ((x8_++([b]:List Int)).length+((a.drop x1_.2.toNat).take (a.length-x1_.2).toNat).length) 1099511627776)) (
   kn ((x8_++([b]:List Int))++((a.drop x1_.2.toNat).take (a.length-x1_.2).toNat)) f (ab (b+1)) c x1_.1.1 x1_.1.2) none)
 let x5_:=(lk N (Nat.blt (x8_.length+([b]:List Int).length) 1099511627776));let x9_:=(
   bg (
   cond x5_ (
   cond x4_ x0_ none) none)
   (
   cond x4_ (
   cond x5_ x0_ none) none))
 let x2_:=(
   cond x7_ (
   cond x5_ x0_ none) none)
 let x3_:=(
   bg (
   cond x7_ x9_ none)
   (
   cond x4_ x2_ none))
 let x6_:=(
   bg (
   cond x7_ (
   bg x9_
   (
   cond x4_ (
   cond x5_ x0_ none) none)) none)
   (
   bg x3_
   (
   cond x4_ (
   bo x2_) none)))
 let x10_:=(
   bg (
   cond x4_ x3_ none)
   (
   cond x4_ (
   cond x4_ x2_ none) none))
 let x11_:=(
   bg (
   cond x4_ (
   bo x2_) none)
   (
   cond x4_ x2_ none))
 cond (lk N (decide (b<f)))
 (
 cond (lk N (ao.P c (d,e) (ab ((a.length:Int)+1)))) (
 bg (
 bg (
 cond x4_ x6_ none)
 (
 bg x10_
 (
 cond x4_ x11_ none)))
 (
 bg (
 cond x4_ (
 bg x6_
 (
 bg (
 bg x3_
 (
 cond x4_ x2_ none))
 (
 cond x4_ (
 bg (
 bo x2_)
 x2_) none))) none)
 (
 bg (
 bg x10_
 (
 bg (
 cond x4_ (
 bg x3_
 (
 cond x4_ x2_ none)) none)
 (
 cond x4_ (
 bo (
 cond x4_ x2_ none)) none)))
 (
 cond x4_ (
 bg x11_
 (
 bg (
 cond x4_ (
 bg (
 bo x2_)
 x2_) none)
 (
 bo (
 cond x4_ x2_ none)))) none)))) none)
 (
 k0 a c d e)
def Z8L{J:Type}(N:Nat)(k0:LI->List Int->I2 (Option J)):Nat->LI->Int->Int->List Int->Int->Int->Option J
 |0,_,_,_,_,_,_=>none
 |M+1,a,b,c,d,e,f=>Z9 N a b c d e f (λa b c d e f=>Z8L N k0 M a b c d e f) k0
def Z8 N a b c d e f k0:=(Z8L N k0 N a b c d e f:Option J)
def Z7 N a b c d e f kn:=(Z8 N a b c d e f kn:Option J)
def Z5 N a b c d e kn:=(Z6 N a b c d e (λa b f c d e=>Z7 N a b f c d e kn):Option J)
def Z10{J:Type}(N:Nat)(a:LI)(b:List Int)(c d:Int)(kr:LI->List Int->I2 (Option J)):Option J :=
 kr a b c d
def Z4 N a e b c d kr:=(Z5 N a e b c d (λa b c d=>Z10 N a b c d kr):Option J)
def Z2 N a b c d kr:=(Z3 N a b c d (λe a b c d=>Z4 N e a b c d kr):Option J)
def Z0 N b0 r0 a kr:=(Z1 N b0 r0 a (λa b c d=>Z2 N a b c d kr):Option J)
def Spec:Prop:=∀{U:Type} (u:U) (b0:List Int) (r0:Int×Int) (v1:Int),Ty.bd (.sl 0 (.int .u8)) b0->P b0 r0 v1=true->∃N0,∀N,N0<=N->Z0 N b0 r0 v1 (λv4 w0_0 w0_1 w0_2=>some (u,((w0_1,w0_2),((),(v4,())))))=some (u,((g b0 r0 v1).1,((),((g b0 r0 v1).2,()))))
def Dt(b:List Int)(s:(Int×Int)×List Int)(k:Nat):(stepN b s k).2.Perm ((k:Int)::s.2):=by unfold stepN;generalize(ao.g b s.1 ((s.2.length:Int)+1)).2.toNat=q;simp only;have h:(s.2.take q++[(k:Int)]++s.2.drop q).Perm ([(k:Int)]++s.2.take q++s.2.drop q):=List.Perm.append_right _ List.perm_append_comm;rw[List.append_assoc [(k:Int)],List.take_append_drop]at h;exact h
def Du(b:List Int):∀(l:List Nat) (s:(Int×Int)×List Int),(l.foldl (stepN b) s).2.Perm (aB l++s.2)
 |[],s=>List.Perm.refl _
 |k::l,s=>by rw[List.foldl_cons];refine(Du b l (stepN b s k)).trans ?_;show(aB l++(stepN b s k).2).Perm ((k:Int)::(aB l++s.2));refine(List.Perm.append_left _ (Dt b s k)).trans ?_;exact List.perm_middle
def keeps(b:List Int):∀(l:List Nat) (s:(Int×Int)×List Int),bU b s.1=true->bU b (l.foldl (stepN b) s).1=true
 |[],_,h=>h
 |k::l,s,h=>keeps b l (stepN b s k) (ao.keep h)
def keep{b:List Int}{r:Int×Int}{n:Int}(h:bU b r=true):bU b (g b r n).1=true:=keeps b _ _ h
def MD{l:List Int}{n:Nat}(h:l.Perm (aB (List.range n))):fo l (n:Int)=true:=by
 have hl:l.length=n:=by rw[h.length_eq,cv,List.length_range]
 have hnd:l.Nodup:=by refine h.nodup_iff.2 ?_;unfold aB;refine List.Pairwise.map _ (λa b hab=>?_) (List.nodup_range (n:=n));show((a:Nat):Int)≠((b:Nat):Int);omega
 simp only[fo,Bool.and_eq_true,decide_eq_true_eq];refine⟨by omega,List.all_eq_true.2 λi hi=>?_⟩;have hi:=List.mem_range.1 hi;have hm:=bF (l:=l) (j:=i) 0 hi;have hm2:=h.mem_iff.1 hm;unfold aB at hm2;obtain⟨x,hx,hxe⟩:=List.mem_map.1 hm2;have hx:=List.mem_range.1 hx;simp only[xJ,Bool.and_eq_true,cy,Bool.not_eq_true',List.any_eq_false,decide_eq_true_eq];refine⟨by omega,λy hy e=>?_⟩;obtain⟨j,hj,hje⟩:=List.getElem_of_mem hy;rw[List.length_take]at hj;rw[List.getElem_take]at hje;have:l[j]'(by omega)=l[i]:=by rw[hje,e,List.getD_eq_getElem?_getD,List.getElem?_eq_getElem hi];rfl
 exact(List.pairwise_iff_getElem.1 hnd) j i (by omega) hi (by omega) this
def names{b:List Int}{r:Int×Int}(n:Nat):fo (g b r (n:Int)).2 (n:Int)=true:=by have:=Du b (List.range n) (r,[]);rw[List.append_nil]at this;refine MD ?_;unfold g;rw[Int.toNat_natCast];exact this
def loop{J:Type}{N:Nat}{b:List Int}(kk:List Int->List Int->Int->Int->Option J){n:Nat}(hn:n<=5):∀(M k:Nat) (s:(Int×Int)×List Int),k<=n->bU b s.1=true->s.2.length=k->n-k<M ->
  Z8L N kk M s.2 (n:Int) (k:Int) b s.1.1 s.1.2=kk (((List.range n).drop k).foldl (stepN b) s).2 b (((List.range n).drop k).foldl (stepN b) s).1.1 (((List.range n).drop k).foldl (stepN b) s).1.2:=by
 intro M;induction M with
 |zero=>intro k s _ _ _ h;omega
 |succ M ih =>
  intro k s hk hs hl hM;simp only[Z8L,Z9];by_cases h:k<n
  ·have es:((s.1.1,s.1.2):Int×Int)=s.1:=rfl;have w0:ab ((s.2.length:Int)+1)=(s.2.length:Int)+1:=aL (by omega) (by omega);have hr:=ao.range (b:=b) (r:=s.1) (n:=(s.2.length:Int)+1) (by omega) (by omega);have hP:ao.P b s.1 ((s.2.length:Int)+1)=true:=hs;have hst:stepN b s k=((ao.g b s.1 ((s.2.length:Int)+1)).1,s.2.take (ao.g b s.1 ((s.2.length:Int)+1)).2.toNat++[(k:Int)]++s.2.drop (ao.g b s.1 ((s.2.length:Int)+1)).2.toNat):=rfl;have hstl:(stepN b s k).2.length=k+1:=by have:=(Dt b s k).length_eq;rw[List.length_cons]at this;omega
   have hkeep:bU b (stepN b s k).1=true:=ao.keep hs;rw[ct (dt (by omega)),kV h,List.foldl_cons];have nxt:=ih (k+1) (stepN b s k) h hkeep hstl (by omega);rw[hst]at nxt ⊢;rw[<-nxt];simp only[es,w0];generalize hx:ao.g b s.1 ((s.2.length:Int)+1)=x at hr;obtain⟨q,hq⟩:=Int.eq_ofNat_of_zero_le hr.1;have hq1:q<=s.2.length:=by omega
   have c1:(bE 0 x.2&&bE x.2 s.2.length)=true:=by rw[hq,nV (by omega),nV (by omega)];rfl
   have c2:∀l:List Int,l.length<=20->∀m:List Int,m.length<=20->Nat.blt (l.length+m.length) 1099511627776=true:=λl h1 m h2=>Nat.ble_eq_true_of_le (by omega);have l1:((s.2.drop 0).take x.2.toNat).length<=6:=by rw[List.length_take,List.length_drop];omega
   have l2:((s.2.drop x.2.toNat).take ((s.2.length:Int)-x.2).toNat).length<=6:=by rw[List.length_take,List.length_drop];omega
   have e2:(s.2.drop x.2.toNat).take ((s.2.length:Int)-x.2).toNat=s.2.drop x.2.toNat:=List.take_of_length_le (by rw[List.length_drop];omega);have w1:ab ((k:Int)+1)=((k+1:Nat):Int):=bA (by rw[bD];omega);have l3:(s.2.take x.2.toNat).length<=6:=by rw[List.length_take];omega
   have l4:(s.2.drop x.2.toNat).length<=6:=by rw[List.length_drop];omega
   have d1:=c2 [] (by simp) (s.2.take x.2.toNat) (by omega);have d2:=c2 (s.2.take x.2.toNat) (by omega) [(k:Int)] (by simp);have d3:=c2 (s.2.take x.2.toNat++[(k:Int)]) (by rw[List.length_append,List.length_singleton];omega) (s.2.drop x.2.toNat) (by omega);simp only[aC,hP,c1,d1,d2,d3,cond_true,fD,w1,e2,List.nil_append,List.drop_zero,hx]
  ·rw[cf (df (by omega)),List.drop_of_length_le (by rw[List.length_range];omega)];rfl
def ok:Spec:=λu b r n hb hp=>⟨10,λN hN=>by simp only[P,Bool.and_eq_true,cy]at hp;obtain⟨h,h0,h5⟩:=hp;obtain⟨k,rfl⟩:=Int.eq_ofNat_of_zero_le h0;simp only[Z0,Z1,Z2,Z3,Z4,Z5,Z6,Z7,Z8];refine(loop _ (by omega) N 0 (r,[]) (Nat.zero_le _) h rfl (by omega)).trans ?_;rw[List.drop_zero];rfl⟩
end cj
namespace bY
def P(m:Int×Int×List Int)(names:List Int):Bool:=az m&&fo names m.1
def g(m:Int×Int×List Int)(names:List Int):Int×Int×List Int:=b9 m names
def Z1{J:Type}(N:Nat)(a:MT)(b:LI)(kn:LI->I2 (LI->I2 (Option J))):Option J :=
 kn b a.1 a.2.1 a.2.2 0 0
def Z3{J:Type}(N:Nat)(d:LI)(a b:Int)(c:LI)(e f:Int)(kn:LI->LI->I2 (LI->I4 (Option J))):Option J :=
 cond (lk N (eR.P (a,(b,c)))) (
  kn (eR.g (a,(b,c))).2.2 d a b c e f (eR.g (a,(b,c))).1 (eR.g (a,(b,c))).2.1) none
def Z6{J:Type}(N:Nat)(a b:LI)(c d:Int)(e:LI)(f g h i:Int)(kn:LI->LI->I3 (LI->I4 (Option J))):Option J :=
 kn a b 0 c d e f g h i
def Z10{J:Type}(N:Nat)(a h:LI)(b i c:Int)(j:LI)(d e f g:Int)(kn:LI->LI->I3 (LI->I4 (Option J)))(k0:LI->I4 (Option J)):Option J :=
 cond (lk N (decide (b<c)))
 (
  kn a h b i c j d e f g)
 (
  k0 a d e f g)
def Z14{J:Type}(N:Nat)(b c:LI)(a d e:Int)(f:LI)(g h i j:Int)(kn:LI->LI->I4 (LI->I4 (Option J))):Option J :=
 kn b c a a d e f g h i j
def Z16{J:Type}(N:Nat)(d b:LI)(a l c e:Int)(f:LI)(g h i j:Int)(kn:LI->LI->I4 (LI->I4 (Option J))):Option J :=
 cond (lk N (decide (a<c)))
 (
  cond (lk N (av a b.length)) (
   kn d b a (b.getD a.toNat 0) c e f g h i j) none)
 (
  kn d b a l c e f g h i j)
def Z18{J:Type}(N:Nat)(a b:LI)(c d e f:Int)(g:LI)(h i j l:Int)(kn:LI->LI->I5 (LI->I4 (Option J))):Option J :=
 kn a b c d 0 e f g h i j l
def Z21{J:Type}(N:Nat)(h c:LI)(d i a b e:Int)(f:LI)(j l m o:Int)(kn:LI->LI->I5 (LI->I4 (Option J)))(k2:LI->LI->I3 (LI->I4 (Option J))):Option J :=
 cond (lk N (decide (a<b)))
 (
  cond (lk N (av a c.length)) (
   cond (lk N (bw.P (b,(e,f)) d a)) (
    cond (lk N (av (ab ((ab (i*b))+(c.getD a.toNat 0))) h.length)) (
     kn (h.set (ab ((ab (i*b))+(c.getD a.toNat 0))).toNat (bw.g (b,(e,f)) d a)) c d i (ab (a+1)) b e f j l m o) none) none) none)
 (
  k2 h c d b e f j l m o)
def Z20L{J:Type}(N:Nat)(k2:LI->LI->I3 (LI->I4 (Option J))):Nat->LI->LI->Int->Int->Int->Int->Int->LI->Int->Int->Int->Int->Option J
 |0,_,_,_,_,_,_,_,_,_,_,_,_=>none
 |M+1,a,b,c,d,e,f,g,h,i,j,l,m=>Z21 N a b c d e f g h i j l m (λa b c d e f g h i j l m=>Z20L N k2 M a b c d e f g h i j l m) k2
def Z20 N a b c d e f g h i j l m k2:=(Z20L N k2 N a b c d e f g h i j l m:Option J)
def Z19 N a b c d e f g h i j l m kn:=(Z20 N a b c d e f g h i j l m kn:Option J)
def Z17 N a b c d e f g h i j l kn:=(Z18 N a b c d e f g h i j l (λa b c d m e f g h i j l=>Z19 N a b c d m e f g h i j l kn):Option J)
def Z15 N a b c d e f g h i j l kn:=(Z16 N a b c d e f g h i j l (λa b c d e f g h i j l=>Z17 N a b c d e f g h i j l kn):Option J)
def Z13 N a b c d e f g h i j kn:=(Z14 N a b c d e f g h i j (λa b c l d e f g h i j=>Z15 N a b c l d e f g h i j kn):Option J)
def Z12 N a b c d e f g h i j kn:=(Z13 N a b c d e f g h i j kn:Option J)
def Z22{J:Type}(N:Nat)(a b:LI)(c d e:Int)(f:LI)(g h i j:Int)(kn:LI->LI->I3 (LI->I4 (Option J))):Option J :=
 kn a b (ab (c+1)) d e f g h i j
def Z11 N a b c d e f g h i j kn:=(Z12 N a b c d e f g h i j (λa b c d e f g h i j=>Z22 N a b c d e f g h i j kn):Option J)
def Z9 N a b c d e f g h i j kn k0:=(Z10 N a b c d e f g h i j (λa b c d e f g h i j=>Z11 N a b c d e f g h i j kn) k0:Option J)
def Z8L{J:Type}(N:Nat)(k0:LI->I4 (Option J)):Nat->LI->LI->Int->Int->Int->LI->Int->Int->Int->Int->Option J
 |0,_,_,_,_,_,_,_,_,_,_=>none
 |M+1,a,b,c,d,e,f,g,h,i,j=>Z9 N a b c d e f g h i j (λa b c d e f g h i j=>Z8L N k0 M a b c d e f g h i j) k0
def Z8 N a b c d e f g h i j k0:=(Z8L N k0 N a b c d e f g h i j:Option J)
def Z7 N a b c d e f g h i j kn:=(Z8 N a b c d e f g h i j kn:Option J)
def Z5 N a b c d e f g h i kn:=(Z6 N a b c d e f g h i (λa b j c d e f g h i=>Z7 N a b j c d e f g h i kn):Option J)
def Z23{J:Type}(N:Nat)(a:LI)(d e b c:Int)(kr:LI->I2 (Option J)):Option J :=
 kr a b c
def Z4 N a f g h i b c d e kr:=(Z5 N a f g h i b c d e (λa b c d e=>Z23 N a b c d e kr):Option J)
def Z2 N a b c d e f kr:=(Z3 N a b c d e f (λg a b c d e f h i=>Z4 N g a b c d e f h i kr):Option J)
def Z0 N b a kr:=(Z1 N b a (λa c d e f g=>Z2 N a c d e f g kr):Option J)
def Spec:Prop:=∀ (v0:MT) (v1:LI),Ty.bd (.pair (.int .i64) (.pair (.int .i64) (.sl 0 (.int .i64)))) v0->Ty.bd (.sl 0 (.int .i64)) v1->P v0 v1=true->∃N0,∀N,N0<=N->Z0 N v0 v1 (λv4_2 v4_0 v4_1=>some ((),((v4_0,(v4_1,v4_2)),())))=some ((),((g v0 v1),()))
section
variable {J : Type} {N : Nat} {m : Int × Int × List Int} {L : List Nat}
def at_g(hd:0<=m.1)(a b:Nat):bw.g (m.1,(m.2.1,m.2.2)) (a:Int) (b:Int)=ae m a b:=gA hd a b
def at_p(hd:az m=true){a b:Nat}(ha:a<m.2.1.toNat)(hb:b<m.1.toNat):bw.P (m.1,(m.2.1,m.2.2)) (a:Int) (b:Int)=true:=gW hd ha hb
def cur(m:Int×Int×List Int)(L:List Nat)(st:List Int)(t:Nat):List Int:=iL m.2.2.length t (fI m.1.toNat L) (λp=>m.2.2.getD (fI m.1.toNat L p) 0) (λp=>st.getD p 0)
def inner(hd:az m=true)(h1:L.Nodup)(h2:∀x∈L,x<m.1.toNat)(h3:L.length=m.1.toNat)(st:List Int)(k2:List Int->List Int->Int->Int->Int->List Int->Int->Int->Int->Int->Option J)(t0 t1 o0 o1:Int){i:Nat}(hi:i<m.2.1.toNat):∀(M j:Nat),j<=m.1.toNat->m.1.toNat-j<M ->
  Z20L N k2 M (cur m L st (i*m.1.toNat+j)) (aB L) (i:Int) ((dw m.1.toNat L i:Nat):Int) (j:Int) m.1 m.2.1 m.2.2 t0 t1 o0 o1=k2 (cur m L st (i*m.1.toNat+m.1.toNat)) (aB L) (i:Int) m.1 m.2.1 m.2.2 t0 t1 o0 o1:=by
 obtain⟨n,r,hn,hr,hn1,hn5,hnr,hr8,hl⟩:=aN hd;have hnr':m.1.toNat<=m.2.1.toNat:=by omega
 intro M;induction M with
 |zero=>intro j _ h;omega
 |succ M ih =>
  intro j hj hM;simp only[Z20L,Z21];by_cases h:j<m.1.toNat
  ·have hx:=h2 _ (bF (l:=L) (j:=j) 0 (by omega));have hrow:=Cv h1 h2 h3 hnr' hi;have hlt:dw m.1.toNat L i*m.1.toNat+L.getD j 0<m.2.2.length:=by
    have:=fU (n:=m.1.toNat) (r:=m.2.1.toNat) hrow hx;rw[hl];have e:m.2.1.toNat*m.1.toNat=r*n:=by rw[hn,hr];rfl
    omega
   have hidx:ab (ab (((dw m.1.toNat L i:Nat):Int)*m.1)+((L.getD j 0:Nat):Int))=((dw m.1.toNat L i*m.1.toNat+L.getD j 0:Nat):Int):=by
    have e:((dw m.1.toNat L i:Nat):Int)*m.1=((dw m.1.toNat L i*m.1.toNat:Nat):Int):=by rw[hn,Int.natCast_mul];simp
    have hb:dw m.1.toNat L i*m.1.toNat<=8*5:=Nat.mul_le_mul (by omega) (by omega);have e2:ab (((dw m.1.toNat L i*m.1.toNat:Nat):Int))=((dw m.1.toNat L i*m.1.toNat:Nat):Int):=aL (by omega) (by omega);rw[e,e2,aL (by omega) (by omega)];omega
   have hset:(cur m L st (i*m.1.toNat+j)).set (dw m.1.toNat L i*m.1.toNat+L.getD j 0) (ae m i j)=cur m L st (i*m.1.toNat+(j+1)):=by have e:=Ku (total:=m.2.2.length) (t:=i*m.1.toNat+j) (p:=dw m.1.toNat L i*m.1.toNat+L.getD j 0) (back:=fI m.1.toNat L) (F:=λp=>m.2.2.getD (fI m.1.toNat L p) 0) (G:=λp=>st.getD p 0) hlt (Cw h1 h2 h3 hnr' h) (λq _ hq=>Kx h1 h2 h3 hnr' h hq);simp only[Cw h1 h2 h3 hnr' h]at e;exact e
   rw[ct (dt (by omega)),ct (aR (by rw[cv];omega)),ct (at_p hd hi h)];simp only[Int.toNat_natCast,gX,hidx];rw[ct (aR (by rw[cur,tm];exact hlt)),at_g (by omega),hset,bA (by rw[bD];omega)];exact ih (j+1) h (by omega)
  ·rw[cf (df (by omega)),show j=m.1.toNat by omega]
def outer(hN:10<=N)(hd:az m=true)(h1:L.Nodup)(h2:∀x∈L,x<m.1.toNat)(h3:L.length=m.1.toNat)(st:List Int)(k0:List Int->Int->Int->Int->Int->Option J)(t0 t1 o0 o1:Int):∀(M i:Nat),i<=m.2.1.toNat->m.2.1.toNat-i<M ->
  Z8L N k0 M (cur m L st (i*m.1.toNat)) (aB L) (i:Int) m.1 m.2.1 m.2.2 t0 t1 o0 o1=k0 (cur m L st (m.2.1.toNat*m.1.toNat)) t0 t1 o0 o1:=by
 obtain⟨n,r,hn,hr,hn1,hn5,hnr,hr8,hl⟩:=aN hd;intro M;induction M with
 |zero=>intro i _ h;omega
 |succ M ih =>
  intro i hi hM;simp only[Z8L,Z9,Z10];by_cases h:i<m.2.1.toNat
  ·have hin:=inner (J:=J) (N:=N) hd h1 h2 h3 st (λout5_2 names1 i6 m2_0 m2_1 m2_2 t4_0 t4_1 out5_0 out5_1=>Z22 N out5_2 names1 i6 m2_0 m2_1 m2_2 t4_0 t4_1 out5_0 out5_1 (λout5_2 names1 i6 m2_0 m2_1 m2_2 t4_0 t4_1 out5_0 out5_1=>Z8L N k0 M out5_2 names1 i6 m2_0 m2_1 m2_2 t4_0 t4_1 out5_0 out5_1)) t0 t1 o0 o1 h N 0 (by omega) (by omega);rw[show((0:Nat):Int)=0 from rfl,Nat.add_zero]at hin;have hnext:=ih (i+1) h (by omega);rw[Nat.add_mul,Nat.one_mul]at hnext;rw[ct (dt (by omega))];simp only[Z11,Z12,Z13,Z14,Z15,Z16];by_cases hin':i<m.1.toNat;·rw[ct (dt (by omega)),ct (aR (by rw[cv];omega)),Int.toNat_natCast,gX];rw[dw,if_pos hin']at hin;simp only[Z17,Z18,Z19,Z20];rw[hin];simp only[Z22];rw[bA (by rw[bD];omega)];exact hnext
   ·rw[cf (df (by omega))];rw[dw,if_neg hin']at hin;simp only[Z17,Z18,Z19,Z20];rw[hin];simp only[Z22];rw[bA (by rw[bD];omega)];exact hnext
  ·rw[cf (df (by omega)),show i=m.2.1.toNat by omega]
def ME(L:List Nat):cur m L m.2.2 0=m.2.2:=by unfold cur;rw[Kv];exact qj 0 rfl
def MF(hd:az m=true)(h1:L.Nodup)(h2:∀x∈L,x<m.1.toNat)(h3:L.length=m.1.toNat)(st:List Int):cur m L st (m.2.1.toNat*m.1.toNat)=(b9 m (aB L)).2.2:=by
 obtain⟨n,r,hn,hr,hn1,hn5,hnr,hr8,hl⟩:=aN hd;have e:m.2.1.toNat*m.1.toNat=m.2.2.length:=by rw[hl,hn,hr];simp
 rw[e];unfold cur b9;rw[g9];exact Kw (λp hp=>by have:=Ky h1 h2 h3 (r:=m.2.1.toNat) (by omega) (by omega) (q:=p) (by omega);omega)
end
def ok:Spec:=λm names hb hv hp=>⟨10,λN hN=>by
 simp only[P,Bool.and_eq_true]at hp;obtain⟨hd,hnm⟩:=hp;obtain⟨L,rfl,h1,h2,h3⟩:=j0 hnm;obtain⟨n,r,hn,hr,hn1,hn5,hnr,hr8,hl⟩:=aN hd;have hlen:m.2.2.length<=8*5:=by rw[hl];exact Nat.mul_le_mul hr8 hn5
 simp only[Z0,Z1,Z2,Z3];rw[ct (show eR.P (m.1,(m.2.1,m.2.2))=true from dt (show m.2.2.length<1099511627776 by omega))];simp only[Z4,Z5,Z6,Z7,Z8];have:=outer (J:=Unit×(Int×Int×List Int)×Unit) hN hd h1 h2 h3 m.2.2 (λout5_2 t4_0 t4_1 out5_0 out5_1=>Z23 N out5_2 t4_0 t4_1 out5_0 out5_1 (λt4_2 t4_0 t4_1=>some ((),((t4_0,(t4_1,t4_2)),())))) 0 0 m.1 m.2.1 N 0 (by omega) (by omega);rw[Nat.zero_mul,ME,MF hd h1 h2 h3]at this;exact this⟩
end bY
namespace bN
def P(b:List Int)(r:Int×Int)(m:Int×Int×List Int):Bool:=bU b r&&az m
abbrev S:=(Int×Int)×(Int×Int×List Int)
def moveS(b:List Int)(s:S):S :=
 ((ao.g b s.1 s.2.1).1,if(fb.g s.2 (ao.g b s.1 s.2.1).2).2=true then(fb.g s.2 (ao.g b s.1 s.2.1).2).1 else s.2)
def walkS(b:List Int):Nat->S->S
 |0,s=>s
 |n+1,s=>walkS b n (moveS b s)
def walked(b:List Int)(r:Int×Int)(m:Int×Int×List Int):S:=walkS b (ao.g b r 4).2.toNat ((ao.g b r 4).1,m)
def g(b:List Int)(r:Int×Int)(m:Int×Int×List Int):(Int×Int)×(Int×Int×List Int) :=
 ((cj.g b (walked b r m).1 (walked b r m).2.1).1,bY.g (walked b r m).2 (cj.g b (walked b r m).1 (walked b r m).2.1).2)
def Z1{J:Type}(N:Nat)(b0:List Int)(r0:Int×Int)(a:MT)(kn:List Int->I4 (LI->I2 (Option J))):Option J :=
 kn b0 r0.1 r0.2 a.1 a.2.1 a.2.2 0 0
def Z3{J:Type}(N:Nat)(a:List Int)(b c d e:Int)(f:LI)(h i:Int)(kn:Int->List Int->I4 (LI->I2 (Option J))):Option J :=
 cond (lk N (ao.P a (b,c) 4)) (
  kn (ao.g a (b,c) 4).2 a (ao.g a (b,c) 4).1.1 (ao.g a (b,c) 4).1.2 d e f h i) none
def Z6{J:Type}(N:Nat)(a:Int)(b:List Int)(c d e f:Int)(g:LI)(h i:Int)(kn:I2 (List Int->I4 (LI->I2 (Option J)))):Option J :=
 kn a 0 b c d e f g h i
def Z9{J:Type}(N:Nat)(c d:Int)(a:List Int)(e f b h:Int)(i:LI)(j l:Int)(kn:I2 (List Int->I4 (LI->I2 (Option J))))(k0:List Int->I4 (LI->I2 (Option J))):Option J :=
 let x1_:=(ao.g a (e,f) b);let x2_:=(fb.g (b,(h,i)) x1_.2);let x3_:=(lk N (ao.P a (e,f) b));let x0_:=(
   cond (lk N (x2_.2))
   (
   kn c (ab (d+1)) a x1_.1.1 x1_.1.2 x2_.1.1 x2_.1.2.1 x2_.1.2.2 j l)
   (
   kn c (ab (d+1)) a x1_.1.1 x1_.1.2 b h i j l))
 cond (lk N (decide (d<c)))
 (
 bg (
 bg (
 cond x3_ (
 bo x0_) none)
 (
 cond x3_ x0_ none))
 (
 bg (
 cond x3_ (
 bg (
 bo x0_)
 x0_) none)
 (
 bo (
 cond x3_ x0_ none))))
 (
 k0 a e f b h i j l)
def Z8L{J:Type}(N:Nat)(k0:List Int->I4 (LI->I2 (Option J))):Nat->Int->Int->List Int->Int->Int->Int->Int->LI->Int->Int->Option J
 |0,_,_,_,_,_,_,_,_,_,_=>none
 |M+1,a,b,c,d,e,f,g,h,i,j=>Z9 N a b c d e f g h i j (λa b c d e f g h i j=>Z8L N k0 M a b c d e f g h i j) k0
def Z8 N a b c d e f g h i j k0:=(Z8L N k0 N a b c d e f g h i j:Option J)
def Z7 N a b c d e f g h i j kn:=(Z8 N a b c d e f g h i j kn:Option J)
def Z5 N a b c d e f g h i kn:=(Z6 N a b c d e f g h i (λa j b c d e f g h i=>Z7 N a j b c d e f g h i kn):Option J)
def Z10{J:Type}(N:Nat)(b:List Int)(c d a e:Int)(f:LI)(h i:Int)(kr:LI->I2 (List Int->I2 (Option J))):Option J :=
 bo (
  cond (lk N (cj.P b (c,d) a)) (
   cond (lk N (bY.P (a,(e,f)) (cj.g b (c,d) a).2)) (
    kr (bY.g (a,(e,f)) (cj.g b (c,d) a).2).2.2 (bY.g (a,(e,f)) (cj.g b (c,d) a).2).1 (bY.g (a,(e,f)) (cj.g b (c,d) a).2).2.1 b (cj.g b (c,d) a).1.1 (cj.g b (c,d) a).1.2) none) none)
def Z4 N i a b c d e f g h kr:=(Z5 N i a b c d e f g h (λa b c d e f g h=>Z10 N a b c d e f g h kr):Option J)
def Z2 N a b c d e f g h kr:=(Z3 N a b c d e f g h (λi a b c d e f g h=>Z4 N i a b c d e f g h kr):Option J)
def Z0 N b0 r0 a kr:=(Z1 N b0 r0 a (λb c d e f g h i=>Z2 N b c d e f g h i kr):Option J)
def Spec:Prop:=∀{U:Type} (u:U) (b0:List Int) (r0:Int×Int) (v1:MT),Ty.bd (.sl 0 (.int .u8)) b0->Ty.bd (.pair (.int .i64) (.pair (.int .i64) (.sl 0 (.int .i64)))) v1->P b0 r0 v1=true->∃N0,∀N,N0<=N->Z0 N b0 r0 v1 (λv4_2 v4_0 v4_1 w0_0 w0_1 w0_2=>some (u,((w0_1,w0_2),((),((v4_0,(v4_1,v4_2)),())))))=some (u,((g b0 r0 v1).1,((),((g b0 r0 v1).2,()))))
def mut_step{m:Int×Int×List Int}{k:Int}(h:(fb.g m k).2=true):(fb.g m k).1=aI m k.toNat:=by
 unfold fb.g at h ⊢;split at h;·rename_i hc;rw[if_pos hc]
 ·cases h
structure Jd(b:List Int)(n q:Int)(s:S):Prop where
 cur:bU b s.1=true
 dim:az s.2=true
 hn:s.2.1=n
 hr:s.2.2.1=q
def Jd.move{b:List Int}{n q:Int}{s:S}(h:Jd b n q s):Jd b n q (moveS b s):=by
 unfold moveS;by_cases hc:(fb.g s.2 (ao.g b s.1 s.2.1).2).2=true;·rw[if_pos hc,mut_step hc];exact⟨ao.keep h.cur,gZ h.dim _,h.hn,h.hr⟩
 ·rw[if_neg hc];exact⟨ao.keep h.cur,h.dim,h.hn,h.hr⟩
def Jd.walk{b:List Int}{n q:Int}:∀(c:Nat) {s:S},Jd b n q s->Jd b n q (walkS b c s)
 |0,_,h=>h
 |c+1,s,h=>Jd.walk c h.move
def yD{b:List Int}{r:Int×Int}{m:Int×Int×List Int}(h:bU b r=true)(hd:az m=true):Jd b m.1 m.2.1 (walked b r m) :=
 Jd.walk _ ⟨ao.keep h,hd,rfl,rfl⟩
def keep{b:List Int}{r:Int×Int}{m:Int×Int×List Int}(h:bU b r=true)(hd:az m=true):bU b (g b r m).1=true:=cj.keep (yD h hd).cur
def dim{b:List Int}{r:Int×Int}{m:Int×Int×List Int}(h:bU b r=true)(hd:az m=true):az (g b r m).2=true/\(g b r m).2.1=m.1/\(g b r m).2.2.1=m.2.1:=by have hj:=yD h hd;refine⟨?_,hj.hn,hj.hr⟩;have:=hj.dim;simpa[az,g,bY.g,b9]using this
def loop{J:Type}{N:Nat}{b:List Int}(kk:List Int->Int->Int->Int->Int->List Int->Int->Int->Option J)(t0 t1 n0 q0:Int){c:Nat}(hc:c<=5):∀(M i:Nat) (s:S),i<=c->Jd b n0 q0 s->c-i<M ->
  Z8L N kk M (c:Int) (i:Int) b s.1.1 s.1.2 s.2.1 s.2.2.1 s.2.2.2 t0 t1=kk b (walkS b (c-i) s).1.1 (walkS b (c-i) s).1.2 (walkS b (c-i) s).2.1 (walkS b (c-i) s).2.2.1 (walkS b (c-i) s).2.2.2 t0 t1:=by
 intro M;induction M with
 |zero=>intro i s _ _ h;omega
 |succ M ih =>
  intro i s hi hs hM;simp only[Z8L,Z9];by_cases h:i<c
  ·have es:((s.1.1,s.1.2):Int×Int)=s.1:=rfl;have em:((s.2.1,(s.2.2.1,s.2.2.2)):Int×Int×List Int)=s.2:=rfl;have hP:ao.P b s.1 s.2.1=true:=hs.cur;have w1:ab ((i:Int)+1)=((i+1:Nat):Int):=bA (by rw[bD];omega);rw[ct (dt (by omega))];have nxt:=ih (i+1) (moveS b s) h hs.move (by omega);have ec:c-i=(c-(i+1))+1:=by omega
   rw[ec];show _=kk b (walkS b (c-(i+1)) (moveS b s)).1.1 (walkS b (c-(i+1)) (moveS b s)).1.2 (walkS b (c-(i+1)) (moveS b s)).2.1 (walkS b (c-(i+1)) (moveS b s)).2.2.1 (walkS b (c-(i+1)) (moveS b s)).2.2.2 t0 t1;rw[<-nxt];simp only[aC,es,em,hP,cond_true,fD,w1];unfold moveS;cases hq:(fb.g s.2 (ao.g b s.1 s.2.1).2).2;·rw[if_neg (by simp)];rfl
   ·rw[if_pos rfl];rfl
  ·rw[cf (df (by omega)),show c-i=0 by omega];rfl
def ok:Spec:=λu b r m hb hbm hp=>⟨10,λN hN=>by
 simp only[P,Bool.and_eq_true]at hp;obtain⟨h,hd⟩:=hp;have h0:=ao.keep (n:=4) h;have p0:ao.P b r 4=true:=h;have er:((r.1,r.2):Int×Int)=r:=rfl;have hr:=ao.range (b:=b) (r:=r) (n:=4) (by omega) (by omega);simp only[Z0,Z1,Z2,Z3,aC,er,p0,cond_true,Z4,Z5,Z6,Z7,Z8];have hj:=yD h hd;obtain⟨c,hc⟩:=Int.eq_ofNat_of_zero_le hr.1;have hw:walked b r m=walkS b (c-0) ((ao.g b r 4).1,m):=by unfold walked;rw[hc];rfl
 rw[hc];refine(loop _ 0 0 m.1 m.2.1 (by omega) N 0 ((ao.g b r 4).1,m) (Nat.zero_le _) ⟨h0,hd,rfl,rfl⟩ (by omega)).trans ?_;simp only[g];rw[<-hw];have es:(((walked b r m).1.1,(walked b r m).1.2):Int×Int)=(walked b r m).1:=rfl;have em:(((walked b r m).2.1,((walked b r m).2.2.1,(walked b r m).2.2.2)):Int×Int×List Int)=(walked b r m).2:=rfl;obtain⟨n,q,hn,_,hn1,hn5,_⟩:=aN hj.dim;have pn:cj.P b (walked b r m).1 (walked b r m).2.1=true:=by simp only[cj.P,Bool.and_eq_true,cy];exact⟨hj.cur,by omega,by omega⟩
 have hnm:fo (cj.g b (walked b r m).1 (walked b r m).2.1).2 (walked b r m).2.1=true:=by rw[hn];exact cj.names n
 have pr:bY.P (walked b r m).2 (cj.g b (walked b r m).1 (walked b r m).2.1).2=true:=by simp only[bY.P,Bool.and_eq_true];exact⟨hj.dim,hnm⟩
 simp only[Z10,aC,es,em,pn,pr,cond_true,fD]⟩
end bN
namespace ck
def P(b:List Int)(r:Int×Int)(most:Int):Bool:=bU b r&&bX most 1 4
def g(b:List Int)(r:Int×Int)(most:Int):(Int×Int)×(Int×Int×List Int)×ByteArray :=
 ((bN.g b (spec_dTree.g b r most).1 (spec_dTree.g b r most).2.1).1,(bN.g b (spec_dTree.g b r most).1 (spec_dTree.g b r most).2.1).2,(spec_dTree.g b r most).2.2)
def Z0{J:Type}(N:Nat)(b0:List Int)(r0:Int×Int)(a:Int)(kr:LI->ByteArray->I2 (List Int->I2 (Option J))):Option J :=
 cond (lk N (spec_dTree.P b0 r0 a)) (
  cond (lk N (bN.P b0 (spec_dTree.g b0 r0 a).1 (spec_dTree.g b0 r0 a).2.1)) (
   kr (bN.g b0 (spec_dTree.g b0 r0 a).1 (spec_dTree.g b0 r0 a).2.1).2.2.2 (spec_dTree.g b0 r0 a).2.2 (bN.g b0 (spec_dTree.g b0 r0 a).1 (spec_dTree.g b0 r0 a).2.1).2.1 (bN.g b0 (spec_dTree.g b0 r0 a).1 (spec_dTree.g b0 r0 a).2.1).2.2.1 b0 (bN.g b0 (spec_dTree.g b0 r0 a).1 (spec_dTree.g b0 r0 a).2.1).1.1 (bN.g b0 (spec_dTree.g b0 r0 a).1 (spec_dTree.g b0 r0 a).2.1).1.2) none) none
def Spec:Prop:=∀{U:Type} (u:U) (b0:List Int) (r0:Int×Int) (v1:Int),Ty.bd (.sl 0 (.int .u8)) b0->P b0 r0 v1=true->∃N0,∀N,N0<=N->Z0 N b0 r0 v1 (λv4_2 v5 v4_0 v4_1 w0_0 w0_1 w0_2=>some (u,((w0_1,w0_2),((),((v4_0,(v4_1,v4_2)),(v5,()))))))=some (u,((g b0 r0 v1).1,((),((g b0 r0 v1).2.1,((g b0 r0 v1).2.2,())))))
def facts{b:List Int}{r:Int×Int}{most:Int}(h:bU b r=true)(h1:1<=most)(h4:most<=4):bU b (g b r most).1=true/\az (g b r most).2.1=true/\(g b r most).2.1.1<=4/\(g b r most).2.1.2.1=(g b r most).2.1.1:=by obtain⟨q,q1,q4,hj⟩:=spec_dTree.facts h h1 h4;obtain⟨d1,d2,d3⟩:=bN.dim hj.cur hj.dim;have e1:=hj.hn;have e2:=hj.hr;exact⟨bN.keep hj.cur hj.dim,d1,by show(bN.g b _ _).2.1<=4;rw[d2,e1];exact q4,by show(bN.g b _ _).2.2.1=(bN.g b _ _).2.1;rw[d2,d3,e1,e2]⟩
def ok:Spec:=λu b r most hb hp=>⟨0,λN hN=>by
 simp only[P,Bool.and_eq_true,cy]at hp;obtain⟨q,q1,q4,hj⟩:=spec_dTree.facts hp.1 hp.2.1 hp.2.2;have p1:spec_dTree.P b r most=true:=by simp only[spec_dTree.P,Bool.and_eq_true,cy];exact⟨hp.1,hp.2⟩
 have p2:bN.P b (spec_dTree.g b r most).1 (spec_dTree.g b r most).2.1=true:=by simp only[bN.P,Bool.and_eq_true];exact⟨hj.cur,hj.dim⟩
 simp only[Z0,aC,p1,p2,cond_true];rfl⟩
end ck
namespace cH
def P(b:List Int)(r:Int×Int)(n most:Int):Bool:=bU b r&&bX most 0 100
def ox(b:List Int)(n:Int)(s:(Int×Int)×List Int):(Int×Int)×List Int:=((ao.g b s.1 n).1,s.2++[(ao.g b s.1 n).2])
def lr(b:List Int)(n:Int):Nat->(Int×Int)×List Int->(Int×Int)×List Int
 |0,s=>s
 |c+1,s=>lr b n c (ox b n s)
def g(b:List Int)(r:Int×Int)(n most:Int):(Int×Int)×List Int:=lr b n (ao.g b r (most+1)).2.toNat ((ao.g b r (most+1)).1,[])
def Z1{J:Type}(N:Nat)(b0:List Int)(r0:Int×Int)(a b:Int)(kn:I2 (List Int->I2 (Option J))):Option J :=
 kn a b b0 r0.1 r0.2
def Z3{J:Type}(N:Nat)(a b:Int)(c:List Int)(d e:Int)(kn:LI->I2 (List Int->I2 (Option J))):Option J :=
 kn ([]:List Int) a b c d e
def Z5{J:Type}(N:Nat)(e:LI)(f b:Int)(a:List Int)(c d:Int)(kn:LI->I2 (List Int->I2 (Option J))):Option J :=
 cond (lk N (ao.P a (c,d) (ab (b+1)))) (
  kn e f (ao.g a (c,d) (ab (b+1))).2 a (ao.g a (c,d) (ab (b+1))).1.1 (ao.g a (c,d) (ab (b+1))).1.2) none
def Z8{J:Type}(N:Nat)(a:LI)(b c:Int)(d:List Int)(e f:Int)(kn:LI->I3 (List Int->I2 (Option J))):Option J :=
 kn a b c 0 d e f
def Z11{J:Type}(N:Nat)(e:LI)(b f h:Int)(a:List Int)(c d:Int)(kn:LI->I3 (List Int->I2 (Option J)))(k0:LI->List Int->I2 (Option J)):Option J :=
 cond (lk N (decide (h<f)))
 (
  cond (lk N (ao.P a (c,d) b)) (
   cond (lk N (Nat.blt (e.length+([(ao.g a (c,d) b).2]:List Int).length) 1099511627776)) (
    kn (e++([(ao.g a (c,d) b).2]:List Int)) b f (ab (h+1)) a (ao.g a (c,d) b).1.1 (ao.g a (c,d) b).1.2) none) none)
 (
  k0 e a c d)
def Z10L{J:Type}(N:Nat)(k0:LI->List Int->I2 (Option J)):Nat->LI->Int->Int->Int->List Int->Int->Int->Option J
 |0,_,_,_,_,_,_,_=>none
 |M+1,a,b,c,d,e,f,g=>Z11 N a b c d e f g (λa b c d e f g=>Z10L N k0 M a b c d e f g) k0
def Z10 N a b c d e f g k0:=(Z10L N k0 N a b c d e f g:Option J)
def Z9 N a b c d e f g kn:=(Z10 N a b c d e f g kn:Option J)
def Z7 N a b c d e f kn:=(Z8 N a b c d e f (λa b c g d e f=>Z9 N a b c g d e f kn):Option J)
def Z12{J:Type}(N:Nat)(a:LI)(b:List Int)(c d:Int)(kr:LI->List Int->I2 (Option J)):Option J :=
 kr a b c d
def Z6 N a e f b c d kr:=(Z7 N a e f b c d (λa b c d=>Z12 N a b c d kr):Option J)
def Z4 N a b f c d e kr:=(Z5 N a b f c d e (λa b g c d e=>Z6 N a b g c d e kr):Option J)
def Z2 N a b c d e kr:=(Z3 N a b c d e (λf a b c d e=>Z4 N f a b c d e kr):Option J)
def Z0 N b0 r0 a b kr:=(Z1 N b0 r0 a b (λa b c d e=>Z2 N a b c d e kr):Option J)
def Spec:Prop:=∀{U:Type} (u:U) (b0:List Int) (r0:Int×Int) (v1 v2:Int),Ty.bd (.sl 0 (.int .u8)) b0->P b0 r0 v1 v2=true->∃N0,∀N,N0<=N->Z0 N b0 r0 v1 v2 (λv6 w0_0 w0_1 w0_2=>some (u,((w0_1,w0_2),((),(v6,())))))=some (u,((g b0 r0 v1 v2).1,((),((g b0 r0 v1 v2).2,()))))
def Dv{b:List Int}{n:Int}(h1:1<=n)(h2:n<=256):∀(c:Nat) {s:(Int×Int)×List Int},(∀x∈s.2,0<=x/\x<n)->(∀x∈(lr b n c s).2,0<=x/\x<n)/\(lr b n c s).2.length=s.2.length+c
 |0,_,h=>⟨h,rfl⟩
 |c+1,s,h=>by
  have:=Dv h1 h2 (b:=b) c (s:=ox b n s) (λx hx=>by
   rcases List.mem_append.1 hx with hx|hx;·exact h x hx
   ·rw[List.mem_singleton.1 hx];exact ao.range h1 h2)
  refine⟨this.1,this.2.trans ?_⟩;simp[ox];omega
def range{b:List Int}{r:Int×Int}{n most:Int}(h1:1<=n)(h2:n<=256)(hm:0<=most/\most<=100):(∀x∈(g b r n most).2,0<=x/\x<n)/\((g b r n most).2.length:Int)<=most:=by have h0:=ao.range (b:=b) (r:=r) (n:=most+1) (by omega) (by omega);have:=Dv h1 h2 (b:=b) (ao.g b r (most+1)).2.toNat (s:=((ao.g b r (most+1)).1,[])) (λx hx=>by cases hx);refine⟨this.1, ?_⟩;have h3:(g b r n most).2.length=0+(ao.g b r (most+1)).2.toNat:=this.2;omega
def loop{J:Type}{N:Nat}{b:List Int}(n:Int)(k0:List Int->List Int->Int->Int->Option J){c:Nat}(hc:c<=101):∀(M i:Nat) (s:(Int×Int)×List Int),i<=c->bU b s.1=true->s.2.length+(c-i)<=1000->c-i<M ->
  Z10L N k0 M s.2 n (c:Int) (i:Int) b s.1.1 s.1.2=k0 (lr b n (c-i) s).2 b (lr b n (c-i) s).1.1 (lr b n (c-i) s).1.2:=by
 intro M;induction M with
 |zero=>intro i s _ _ _ h;omega
 |succ M ih =>
  intro i s hi hs hl hM;simp only[Z10L,Z11];by_cases h:i<c;·have es:((s.1.1,s.1.2):Int×Int)=s.1:=rfl;have hP:ao.P b s.1 n=true:=hs;have w1:ab ((i:Int)+1)=((i+1:Nat):Int):=bA (by rw[bD];omega);have c1:Nat.blt (s.2.length+([(ao.g b s.1 n).2]:List Int).length) 1099511627776=true:=Nat.ble_eq_true_of_le (by rw[List.length_singleton];omega);rw[ct (dt (by omega)),es,ct hP,ct c1,w1,show c-i=(c-(i+1))+1 by omega];exact ih (i+1) (ox b n s) h (ao.keep hs) (by simp[ox];omega) (by omega)
  ·rw[cf (df (by omega)),show c-i=0 by omega];rfl
def ok:Spec:=λu b r n most hb hp=>⟨200,λN hN=>by simp only[P,Bool.and_eq_true,cy]at hp;obtain⟨h,hm⟩:=hp;have h0:=ao.keep (n:=most+1) h;have hr:=ao.range (b:=b) (r:=r) (n:=most+1) (by omega) (by omega);have er:((r.1,r.2):Int×Int)=r:=rfl;have p0:ao.P b r (most+1)=true:=h;simp only[Z1,Z3,Z5,Z8,Z11,Z10,Z9,Z7,Z12,Z6,Z4,Z2,Z0];rw[er,aL (n:=most+1) (by omega) (by omega),ct p0];obtain⟨c,hc⟩:=Int.eq_ofNat_of_zero_le hr.1;have key:=λ{J:Type} (k0:List Int->List Int->Int->Int->Option J)=>loop (J:=J) (N:=N) n k0 (c:=c) (by omega) N 0 ((ao.g b r (most+1)).1,[]) (Nat.zero_le _) h0 (by simp;omega) (by omega);rw[hc];refine(key _).trans ?_;unfold g;rw[hc];rfl⟩
end cH
namespace fw
def g(b:List Int):(Int×Int×List Int)×ByteArray×List Int:=((ck.g b (bS.g b) 4).2.1,(ck.g b (bS.g b) 4).2.2,(cH.g b (ck.g b (bS.g b) 4).1 (ck.g b (bS.g b) 4).2.1.1 6).2)
def Z0{J:Type}(N:Nat)(a:List Int)(kr:LI->LI->ByteArray->I2 (Option J)):Option J :=
 cond (lk N (ck.P a (bS.g a) 4)) (
  bo (
   cond (lk N (cH.P a (ck.g a (bS.g a) 4).1 (ck.g a (bS.g a) 4).2.1.1 6)) (
    kr (cH.g a (ck.g a (bS.g a) 4).1 (ck.g a (bS.g a) 4).2.1.1 6).2 (ck.g a (bS.g a) 4).2.1.2.2 (ck.g a (bS.g a) 4).2.2 (ck.g a (bS.g a) 4).2.1.1 (ck.g a (bS.g a) 4).2.1.2.1) none)) none
def Spec:Prop:=∀ (v0:List Int),Ty.bd (.sl 0 (.int .u8)) v0->∃N0,∀N,N0<=N->Z0 N v0 (λv4 v2_2 v3 v2_0 v2_1=>some ((),((v2_0,(v2_1,v2_2)),(v3,(v4,())))))=some ((),((g v0).1,((g v0).2.1,((g v0).2.2,()))))
def cur0{b:List Int}(h:b.length<=maxLen):bU b (bS.g b)=true:=by rw[xC];exact⟨Int.le_refl 0,by show(0:Int)<=_;omega,h⟩
def ok:Spec:=λb hb=>⟨0,λN hN=>by
 have h0:=cur0 hb.1;obtain⟨h1,d1,n4,hsq⟩:=ck.facts (most:=4) h0 (by omega) (by omega);have p1:ck.P b (bS.g b) 4=true:=by simp only[ck.P,Bool.and_eq_true,cy];exact⟨h0,by omega,by omega⟩
 have p2:cH.P b (ck.g b (bS.g b) 4).1 (ck.g b (bS.g b) 4).2.1.1 6=true:=by simp only[cH.P,Bool.and_eq_true,cy];exact⟨h1,by omega,by omega⟩
 simp only[Z0,aC,p1,p2,cond_true,bo,fD];rfl⟩
end fw
namespace fy
def g(n low high:Int):Bool:=bX n low high
def Z0{J:Type}(N:Nat)(a b c:Int)(kr:Bool->Option J):Option J :=
 cond (lk N (decide (b<=a)))
 (
  kr (lk N (decide (a<=c))))
 (
  kr false)
def Spec:Prop:=∀ (v0 v1 v2:Int),∃N0,∀N,N0<=N->Z0 N v0 v1 v2 (λv6=>some ((),(v6,())))=some ((),((g v0 v1 v2),()))
def ok:Spec:=λn low high=>⟨0,λN hN=>by simp only[Z0,aC,g,bX];cases decide (low<=n)<;>rfl⟩
end fy
namespace fz
def g(x:Int):Bool:=!bX x (-99) 99
def Z0{J:Type}(N:Nat)(a:Int)(kr:Bool->Option J):Option J :=
 kr (!(lk N ((fy.g a (-99) 99))))
def Spec:Prop:=∀ (v0:Int),∃N0,∀N,N0<=N->Z0 N v0 (λv2=>some ((),(v2,())))=some ((),((g v0),()))
def ok:Spec:=λn=>⟨0,λN hN=>by simp only[Z0,g,aC,fy.g]⟩
end fz
namespace eB
def go(p:Int->Bool):List Int->Nat->Int
 |[],_=>-1
 |x::xs,j=>if p x=true then(j:Int)else go p xs (j+1)
def g(s:List Int)(_:Unit):Int:=go fz.g s 0
def Z1{J:Type}(N:Nat)(a:LI)(b:Unit)(kn:LI->Option J):Option J :=
 kn a
def Z4{J:Type}(N:Nat)(a:LI)(kn:LI->I2 (Option J)):Option J :=
 kn a (a.length:Int) 0
def Z7{J:Type}(N:Nat)(b:LI)(c a:Int)(kn:LI->I2 (Option J))(k0:Option J)(kr:Int->Option J):Option J :=
 cond (lk N (decide (a<c)))
 (
  cond (lk N (av a b.length)) (
   cond (lk N ((fz.g (b.getD a.toNat 0))))
   (
    kr a)
   (
    kn b c (ab (a+1)))) none)
 (
  k0)
def Z6L{J:Type}(N:Nat)(k0:Option J)(kr:Int->Option J):Nat->LI->Int->Int->Option J
 |0,_,_,_=>none
 |M+1,a,b,c=>Z7 N a b c (λa b c=>Z6L N k0 kr M a b c) k0 kr
def Z6 N a b c k0 kr:=(Z6L N k0 kr N a b c:Option J)
def Z5 N a b c kn kr:=(Z6 N a b c kn kr:Option J)
def Z3 N a kn kr:=(Z4 N a (λa b c=>Z5 N a b c kn kr):Option J)
def Z8{J:Type}(N:Nat) (kr:Int->Option J):Option J :=
 kr (-1)
def Z2 N a kr:=(Z3 N a (Z8 N kr) kr:Option J)
def Z0 N a b kr:=(Z1 N a b (λa=>Z2 N a kr):Option J)
def Spec:Prop:=∀ (v0:LI) (v1:Unit),Ty.bd (.sl 0 (.int .i64)) v0->∃N0,∀N,N0<=N->Z0 N v0 v1 (λv4=>some ((),(v4,())))=some ((),((g v0 v1),()))
def loop{J:Type}(N:Nat)(kr:Int->Option J)(a:List Int)(ha:a.length<=maxLen):∀(M j:Nat),j<=a.length->a.length-j<M ->
  Z6L N (kr (-1)) kr M a (a.length:Int) (j:Int)=kr (go fz.g (a.drop j) j):=by
 intro M;induction M with
 |zero=>intro j _ h;omega
 |succ M ih =>
  intro j hj hM;simp only[Z6L,Z7];by_cases h:j<a.length
  ·rw[ct (dt (by omega)),ct (aR h),Int.toNat_natCast,bA (by omega),ih (j+1) h (by omega),iH 0 h,go];cases e:fz.g (a.getD j 0);·rw[cf rfl,if_neg (by simp)]
   ·rw[ct rfl,if_pos rfl]
  ·rw[cf (df (by omega)),List.drop_of_length_le (by omega),go]
def ok:Spec:=λa _ ha=>⟨a.length+1,λN hN=>by simp only[Z1,Z4,Z7,Z6,Z5,Z3,Z8,Z2,Z0];exact(loop N (λt=>some ((),(t,()))) a ha.1 N 0 (by omega) (by omega)).trans rfl⟩
def go_pos(p:Int->Bool):∀(l:List Int) (j:Nat),0<=go p l j↔∃x∈l,p x=true
 |[],j=>by simp[go]
 |x::xs,j=>by
  rw[go];by_cases h:p x=true;·rw[if_pos h];simp[h]
  ·rw[if_neg h,go_pos p xs];simp[h]
end eB
namespace kz
def g(s:List Int)(_:Unit):Bool:=s.any fz.g
def Z0{J:Type}(N:Nat)(a:LI)(b:Unit)(kr:Bool->Option J):Option J :=
 kr (lk N (decide (0<=(eB.g a ()))))
def Spec:Prop:=∀ (v0:LI) (v1:Unit),Ty.bd (.sl 0 (.int .i64)) v0->∃N0,∀N,N0<=N->Z0 N v0 v1 (λv4=>some ((),(v4,())))=some ((),((g v0 v1),()))
def ok:Spec:=λa _ ha=>⟨0,λN hN=>by
 simp only[Z0,aC,g];have:=(show 0<=eB.g a ()↔∃x∈a,fz.g x=true from eB.go_pos fz.g a 0);cases e:a.any fz.g;·rw[df (λh=>by have:=this.1 h;rw[<-List.any_eq_true,e]at this;cases this)]
 ·rw[dt (this.2 (List.any_eq_true.1 e))]⟩
end kz
namespace jg
def g(m:Int×Int×List Int):Bool:=bi m
def Z0{J:Type}(N:Nat)(a:MT)(kr:Bool->Option J):Option J :=
 cond (lk N ((fy.g a.1 1 5)))
 (
  cond (lk N ((fy.g a.2.1 a.1 8)))
  (
   cond (lk N (decide ((a.2.2.length:Int)=(ab (a.1*a.2.1)))))
   (
    kr (!(lk N ((kz.g a.2.2 ())))))
   (
    kr false))
  (
   kr false))
 (
  kr false)
def Spec:Prop:=∀ (v0:MT),Ty.bd (.pair (.int .i64) (.pair (.int .i64) (.sl 0 (.int .i64)))) v0->∃N0,∀N,N0<=N->Z0 N v0 (λv2=>some ((),(v2,())))=some ((),((g v0),()))
def ok:Spec:=λm hb=>⟨0,λN hN=>by
 simp only[Z0,g,aC,fy.g,bi,az,kz.g,List.not_any_eq_all_not,gB];cases h1:bX m.1 1 5;·rfl
 cases h2:bX m.2.1 m.1 8;·rfl
 have e1:=cy.1 h1;have e2:=cy.1 h2;have e3:0<=m.1*m.2.1:=Int.mul_nonneg (by omega) (by omega);have e4:m.1*m.2.1<=5*8:=Int.mul_le_mul (by omega) (by omega) (by omega) (by omega);rw[aL (by omega) (by omega)];cases h3:decide ((m.2.2.length:Int)=m.1*m.2.1);·rfl
 simp[fz.g]⟩
end jg
namespace bz
def P(m:Int×Int×List Int)(i j:Int):Bool:=nX m i j
def g(m:Int×Int×List Int)(i j:Int):Int:=nY m i j
def Z0{J:Type}(N:Nat)(a:MT)(b c:Int)(kr:Int->Option J):Option J :=
 cond (lk N (av (ab ((ab (b*a.1))+c)) a.2.2.length)) (
  kr (a.2.2.getD (ab ((ab (b*a.1))+c)).toNat 0)) none
def Spec:Prop:=∀ (v0:MT) (v1 v2:Int),Ty.bd (.pair (.int .i64) (.pair (.int .i64) (.sl 0 (.int .i64)))) v0->P v0 v1 v2=true->∃N0,∀N,N0<=N->Z0 N v0 v1 v2 (λv6=>some ((),(v6,())))=some ((),((g v0 v1 v2),()))
def ok:Spec:=λm i j hb hp=>⟨0,λN hN=>by obtain⟨h1,h2,h3⟩:=B8 hb.2.2.1 hp;simp only[Z0,g,nY,h1];rw[ct (xv h2 h3)]⟩
end bz
namespace cI
def P(a b:Int):Bool:=decide (0<=a)&&(decide (a<9223372036854775808)&&(decide (0<=b)&&decide (b<9223372036854775808)))
def g(a b:Int):Int:=(Int.gcd a b:Int)
def Z1{J:Type}(N:Nat)(a b:Int)(kn:I2 (Option J)):Option J :=
 kn a b
def Z5{J:Type}(N:Nat)(b a:Int)(kn:I2 (Option J))(k0:Int->Option J):Option J :=
 cond (lk N (!(decide (a=0))))
 (
  cond (lk N (!(decide (a=0)))) (
   kn a (Int.tmod b a)) none)
 (
  k0 b)
def Z4L{J:Type}(N:Nat)(k0:Int->Option J):Nat->Int->Int->Option J
 |0,_,_=>none
 |M+1,a,b=>Z5 N a b (λa b=>Z4L N k0 M a b) k0
def Z4 N a b k0:=(Z4L N k0 N a b:Option J)
def Z3 N a b kn:=(Z4 N a b kn:Option J)
def Z6{J:Type}(N:Nat)(a:Int)(kr:Int->Option J):Option J :=
 kr (mx a (ab (0-a)))
def Z2 N a b kr:=(Z3 N a b (λa=>Z6 N a kr):Option J)
def Z0 N a b kr:=(Z1 N a b (λa b=>Z2 N a b kr):Option J)
def Spec:Prop:=∀ (v0 v1:Int),P v0 v1=true->∃N0,∀N,N0<=N->Z0 N v0 v1 (λv4=>some ((),(v4,())))=some ((),((g v0 v1),()))
def loop{J:Type}(N:Nat)(k0:Int->Option J):∀(M:Nat) (a b:Nat),b<M->Z4L N k0 M (a:Int) (b:Int)=k0 (Nat.gcd b a:Nat):=by
 intro M;induction M with
 |zero=>intro a b h;omega
 |succ M ih =>
  intro a b hM;simp only[Z4L,Z5];by_cases h:b=0;·subst h;rw[cf (by simp),Nat.gcd_zero_left]
  ·rw[ct (nt (by omega)),ct (nt (by omega)),show Int.tmod (a:Int) (b:Int)=((a%b:Nat):Int)from rfl,ih _ _ (by have:=Nat.mod_lt a (Nat.pos_of_ne_zero h);omega),<-Nat.gcd_rec]
def ok:Spec:=λa b hp=>⟨b.toNat+1,λN hN=>by
 simp only[P,Bool.and_eq_true,decide_eq_true_eq]at hp;obtain⟨h1,h2,h3,h4⟩:=hp;obtain⟨x,rfl⟩:=Int.eq_ofNat_of_zero_le h1;obtain⟨y,rfl⟩:=Int.eq_ofNat_of_zero_le h3;simp only[Z1,Z5,Z4,Z3,Z6,Z2,Z0,g];rw[loop N _ N x y (by omega),Nat.gcd_comm];have hl:Nat.gcd x y<=max x y:=by
  rcases Nat.eq_zero_or_pos x with h|h;·subst h;rw[Nat.gcd_zero_left];omega
  ·have:=Nat.gcd_le_left y h;omega
 show some ((),(mx ((Nat.gcd x y:Nat):Int) (ab (0-((Nat.gcd x y:Nat):Int))),()))=some ((),(((Nat.gcd x y:Nat):Int),()));rw[aL (by omega) (by omega),mB];congr 3;omega⟩
end cI
namespace aH
def P(m:Int×Int×List Int):Bool:=bi m
abbrev g(m:Int×Int×List Int):List Int:=be m
def Z1{J:Type}(N:Nat)(a:MT)(kn:I2 (LI->Option J)):Option J :=
 kn a.1 a.2.1 a.2.2
def Z3{J:Type}(N:Nat)(a b:Int)(c:LI)(kn:LI->LI->I2 (LI->Option J)):Option J :=
 bo (
  cond (lk N (bE 0 a&&decide (a<1099511627776))) (
   cond (lk N (bE 0 a&&decide (a<1099511627776))) (
    kn (List.replicate a.toNat (0:Int)) (List.replicate a.toNat (0:Int)) a b c) none) none)
def Z5{J:Type}(N:Nat)(b c:LI)(a d:Int)(e:LI)(kn:LI->LI->LI->I2 (LI->Option J)):Option J :=
 cond (lk N (bE 0 a&&decide (a<1099511627776))) (
  kn b c (List.replicate a.toNat (0:Int)) a d e) none
def Z8{J:Type}(N:Nat)(a b c:LI)(d e:Int)(f:LI)(kn:LI->LI->LI->I4 (LI->Option J)):Option J :=
 kn a b c (a.length:Int) 0 d e f
def Z12{J:Type}(N:Nat)(c d e:LI)(a b f g:Int)(h:LI)(kn:LI->LI->LI->I2 (Bool->I2 (LI->Option J))):Option J :=
 kn c d e a b (lk N (decide (b<a))) f g h
def Z14{J:Type}(N:Nat)(b c a:LI)(d e:Int)(f:Bool)(g h:Int)(i:LI)(kn:LI->LI->LI->I4 (LI->Option J))(k0:LI->Option J):Option J :=
 cond (f)
 (
  kn b c a d e g h i)
 (
  k0 a)
def Z18{J:Type}(N:Nat)(b c d:LI)(e a f g:Int)(h:LI)(kn:LI->LI->LI->I5 (LI->Option J)):Option J :=
 kn b c d a e a f g h
def Z20{J:Type}(N:Nat)(a c d:LI)(b e f g h:Int)(i:LI)(kn:LI->LI->LI->I5 (LI->Option J))(k1:LI->LI->LI->I4 (LI->Option J)):Option J :=
 cond (lk N (av b a.length)) (
  cond (lk N (!(decide ((a.getD b.toNat 0)=0))))
  (
   k1 a c d e f g h i)
  (
   kn a c d b e f g h i)) none
def Z22{J:Type}(N:Nat)(b c d:LI)(a e f g h:Int)(i:LI)(kn:LI->LI->LI->I5 (LI->Option J)):Option J :=
 cond (lk N (av a b.length)) (
  cond (lk N (av a c.length)) (
   kn (b.set a.toNat 1) (c.set a.toNat 1) d a e f g h i) none) none
def Z24{J:Type}(N:Nat)(a b c:LI)(d e f g h:Int)(i:LI)(kn:LI->LI->LI->LI->I4 (LI->Option J)):Option J :=
 kn a b c ([d]:List Int) e f g h i
def Z27{J:Type}(N:Nat)(a b c d:LI)(e f g h:Int)(i:LI)(kn:LI->LI->LI->LI->I5 (LI->Option J)):Option J :=
 kn a b c d 0 e f g h i
def Z31{J:Type}(N:Nat)(b c d a:LI)(e f g h i:Int)(j:LI)(kn:LI->LI->LI->LI->I5 (LI->Option J))(k2:LI->LI->LI->LI->I4 (LI->Option J)):Option J :=
 cond (lk N (decide (e<(a.length:Int))))
 (
  kn b c d a e f g h i j)
 (
  k2 b c d a f g h i j)
def Z35{J:Type}(N:Nat)(c d e a:LI)(b f g h i:Int)(j:LI)(kn:LI->LI->LI->LI->I6 (LI->Option J)):Option J :=
 cond (lk N (av b a.length)) (
  kn c d e a b (a.getD b.toNat 0) f g h i j) none
def Z37{J:Type}(N:Nat)(a b c d:LI)(e f g h i j:Int)(l:LI)(kn:LI->LI->LI->LI->I8 (LI->Option J)):Option J :=
 kn a b c d e f g h (a.length:Int) 0 i j l
def Z41{J:Type}(N:Nat)(c d e f:LI)(g h i j a b l m:Int)(o:LI)(kn:LI->LI->LI->LI->I6 (Bool->I2 (LI->Option J))):Option J :=
 kn c d e f g h i j a b (lk N (decide (b<a))) l m o
def Z43{J:Type}(N:Nat)(a b c d:LI)(e l f g m o:Int)(p:Bool)(h i:Int)(j:LI)(kn:LI->LI->LI->LI->I8 (LI->Option J))(k4:LI->LI->LI->LI->I5 (LI->Option J)):Option J :=
 cond (p)
 (
  kn a b c d e l f g m o h i j)
 (
  k4 a b c d e f g h i j)
def Z47{J:Type}(N:Nat)(b c d e:LI)(f g h i j a l m:Int)(o:LI)(kn:LI->LI->LI->LI->Int->I8 (LI->Option J)):Option J :=
 kn b c d e f g a h i j a l m o
def Z49{J:Type}(N:Nat)(f h i j:LI)(l a b m o p q c d:Int)(e:LI)(kn:LI->LI->LI->LI->I3 (I8 (LI->Option J))):Option J :=
 cond (lk N (bz.P (c,(d,e)) a b)) (
  cond (lk N (bz.P (c,(d,e)) b a)) (
   kn f h i j l a b (bz.g (c,(d,e)) a b) (ab (0-(bz.g (c,(d,e)) b a))) m o p q c d e) none) none
def Z51{J:Type}(N:Nat)(a b c d:LI)(e f r g h i j l m o p:Int)(q:LI)(kn:LI->LI->LI->LI->I3 (I8 (LI->Option J)))(k5:LI->LI->LI->LI->I8 (LI->Option J)):Option J :=
 cond (lk N (decide (g=0)))
 (
  cond (lk N (decide (h=0)))
  (
   k5 a b c d e f i j l m o p q)
  (
   kn a b c d e f r g h i j l m o p q))
 (
  kn a b c d e f r g h i j l m o p q)
def Z52{J:Type}(N:Nat)(b c i h:LI)(j d a e f l m o p q r:Int)(s:LI)(kn:LI->LI->LI->LI->I8 (LI->Option J))(kr:LI->Option J):Option J :=
 let x1_:=(ab ((b.getD d.toNat 0)*(mx e (ab (0-e)))));let x2_:=(ab ((c.getD d.toNat 0)*(mx f (ab (0-f)))));let x0_:=(cI.g x1_ x2_);cond (lk N (decide (e=0)))
 (
 kr ([]:List Int))
 (
 cond (lk N (decide (f=0)))
 (
 kr ([]:List Int))
 (
 cond (lk N (!(((lk N (decide (0<e))) == (lk N (decide (0<f)))))))
 (
 kr ([]:List Int))
 (
 cond (lk N (decide (d=a)))
 (
 kr ([]:List Int))
 (
 cond (lk N (av d b.length)) (
 cond (lk N (av d c.length)) (
 cond (lk N (cI.P x1_ x2_)) (
 cond (lk N (!(decide (x0_=0)))) (
 cond (lk N (!(decide (x0_=0)))) (
 cond (lk N (av a b.length)) (
 cond (lk N (decide ((b.getD a.toNat 0)=0)))
 (
 cond (lk N (av a b.length)) (
 cond (lk N (av a c.length)) (
 cond (lk N (Nat.blt (h.length+([a]:List Int).length) 1099511627776)) (
 kn (b.set a.toNat (ab (Int.tdiv x1_ x0_))) (c.set a.toNat (ab (Int.tdiv x2_ x0_))) i (h++([a]:List Int)) j d l m o p q r s) none) none) none)
 (
 cond (lk N (av a b.length)) (
 cond (lk N (!(decide ((b.getD a.toNat 0)=(ab (Int.tdiv x1_ x0_))))))
 (
 kr ([]:List Int))
 (
 cond (lk N (av a c.length)) (
 cond (lk N (!(decide ((c.getD a.toNat 0)=(ab (Int.tdiv x2_ x0_))))))
 (
 kr ([]:List Int))
 (
 kn b c i h j d l m o p q r s)) none)) none)) none) none) none) none) none) none))))
def Z50 N a b c d e f g h i j l m o p q r kn k5 kr:=(Z51 N a b c d e f g h i j l m o p q r (λa b c d e f g h i j l m o p q r=>Z52 N a b c d e f g h i j l m o p q r kn kr) k5:Option J)
def Z48 N a b c d e f g h i j l m o p kn k5 kr:=(Z49 N a b c d e f g h i j l m o p (λa b c d e f g q r h i j l m o p=>Z50 N a b c d e f g q r h i j l m o p kn k5 kr):Option J)
def Z46 N a b c d e f g h i j l m o kn k5 kr:=(Z47 N a b c d e f g h i j l m o (λa b c d e f p g h i j l m o=>Z48 N a b c d e f p g h i j l m o kn k5 kr):Option J)
def Z45 N a b c d e f g h i j l m o kn kr:=(Z46 N a b c d e f g h i j l m o kn kn kr:Option J)
def Z53{J:Type}(N:Nat)(a b c d:LI)(e f g h i j l m:Int)(o:LI)(kn:LI->LI->LI->LI->I8 (LI->Option J)):Option J :=
 kn a b c d e f g h i (ab (j+1)) l m o
def Z44 N a b c d e f g h i j l m o kn kr:=(Z45 N a b c d e f g h i j l m o (λa b c d e f g h i j l m o=>Z53 N a b c d e f g h i j l m o kn) kr:Option J)
def Z42 N a b c d e f g h i j p l m o kn k4 kr:=(Z43 N a b c d e f g h i j p l m o (λa b c d e f g h i j l m o=>Z44 N a b c d e f g h i j l m o kn kr) k4:Option J)
def Z40 N a b c d e f g h i j l m o kn k4 kr:=(Z41 N a b c d e f g h i j l m o (λa b c d e f g h i j p l m o=>Z42 N a b c d e f g h i j p l m o kn k4 kr):Option J)
def Z39L{J:Type}(N:Nat)(k4:LI->LI->LI->LI->I5 (LI->Option J))(kr:LI->Option J):Nat->LI->LI->LI->LI->Int->Int->Int->Int->Int->Int->Int->Int->LI->Option J
 |0,_,_,_,_,_,_,_,_,_,_,_,_,_=>none
 |M+1,a,b,c,d,e,f,g,h,i,j,l,m,o=>Z40 N a b c d e f g h i j l m o (λa b c d e f g h i j l m o=>Z39L N k4 kr M a b c d e f g h i j l m o) k4 kr
def Z39 N a b c d e f g h i j l m o k4 kr:=(Z39L N k4 kr N a b c d e f g h i j l m o:Option J)
def Z38 N a b c d e f g h i j l m o kn kr:=(Z39 N a b c d e f g h i j l m o kn kr:Option J)
def Z36 N a b c d e f g h i j l kn kr:=(Z37 N a b c d e f g h i j l (λa b c d e f g h m o i j l=>Z38 N a b c d e f g h m o i j l kn kr):Option J)
def Z34 N a b c d e f g h i j kn kr:=(Z35 N a b c d e f g h i j (λa b c d e l f g h i j=>Z36 N a b c d e l f g h i j kn kr):Option J)
def Z33 N a b c d e f g h i j kn kr:=(Z34 N a b c d e f g h i j kn kr:Option J)
def Z54{J:Type}(N:Nat)(a b c d:LI)(e f g h i:Int)(j:LI)(kn:LI->LI->LI->LI->I5 (LI->Option J)):Option J :=
 kn a b c d (ab (e+1)) f g h i j
def Z32 N a b c d e f g h i j kn kr:=(Z33 N a b c d e f g h i j (λa b c d e f g h i j=>Z54 N a b c d e f g h i j kn) kr:Option J)
def Z30 N a b c d e f g h i j kn k2 kr:=(Z31 N a b c d e f g h i j (λa b c d e f g h i j=>Z32 N a b c d e f g h i j kn kr) k2:Option J)
def Z29L{J:Type}(N:Nat)(k2:LI->LI->LI->LI->I4 (LI->Option J))(kr:LI->Option J):Nat->LI->LI->LI->LI->Int->Int->Int->Int->Int->LI->Option J
 |0,_,_,_,_,_,_,_,_,_,_=>none
 |M+1,a,b,c,d,e,f,g,h,i,j=>Z30 N a b c d e f g h i j (λa b c d e f g h i j=>Z29L N k2 kr M a b c d e f g h i j) k2 kr
def Z29 N a b c d e f g h i j k2 kr:=(Z29L N k2 kr N a b c d e f g h i j:Option J)
def Z28 N a b c d e f g h i j kn kr:=(Z29 N a b c d e f g h i j kn kr:Option J)
def Z26 N a b c d e f g h i kn kr:=(Z27 N a b c d e f g h i (λa b c d j e f g h i=>Z28 N a b c d j e f g h i kn kr):Option J)
def Z56{J:Type}(N:Nat)(a b c d:LI)(e f g h:Int)(i:LI)(kn:LI->LI->LI->LI->I5 (LI->Option J)):Option J :=
 kn a b c d 1 e f g h i
def Z59{J:Type}(N:Nat)(b c d a:LI)(e f g h i:Int)(j:LI)(kn:LI->LI->LI->LI->I7 (LI->Option J)):Option J :=
 kn b c d a e f g (a.length:Int) 0 h i j
def Z62{J:Type}(N:Nat)(e c f a:LI)(d h i j b l m:Int)(o:LI)(kn:LI->LI->LI->LI->I7 (LI->Option J))(k6:LI->LI->LI->LI->I5 (LI->Option J)):Option J :=
 cond (lk N (decide (b<j)))
 (
  cond (lk N (av b a.length)) (
   cond (lk N (av (a.getD b.toNat 0) c.length)) (
    cond (lk N (av (a.getD b.toNat 0) c.length)) (
     cond (lk N (cI.P d (c.getD (a.getD b.toNat 0).toNat 0))) (
      cond (lk N (!(decide ((cI.g d (c.getD (a.getD b.toNat 0).toNat 0))=0)))) (
       kn e c f a (ab ((ab (Int.tdiv d (cI.g d (c.getD (a.getD b.toNat 0).toNat 0))))*(c.getD (a.getD b.toNat 0).toNat 0))) h i j (ab (b+1)) l m o) none) none) none) none) none)
 (
  k6 e c f a d h i l m o)
def Z61L{J:Type}(N:Nat)(k6:LI->LI->LI->LI->I5 (LI->Option J)):Nat->LI->LI->LI->LI->Int->Int->Int->Int->Int->Int->Int->LI->Option J
 |0,_,_,_,_,_,_,_,_,_,_,_,_=>none
 |M+1,a,b,c,d,e,f,g,h,i,j,l,m=>Z62 N a b c d e f g h i j l m (λa b c d e f g h i j l m=>Z61L N k6 M a b c d e f g h i j l m) k6
def Dw N a b c d e f g h i j l m k6:=(Z61L N k6 N a b c d e f g h i j l m:Option J)
def Z60 N a b c d e f g h i j l m kn:=(Dw N a b c d e f g h i j l m kn:Option J)
def Z58 N a b c d e f g h i j kn:=(Z59 N a b c d e f g h i j (λa b c d e f g l m h i j=>Z60 N a b c d e f g l m h i j kn):Option J)
def Z64{J:Type}(N:Nat)(a b c d:LI)(e f g h i:Int)(j:LI)(kn:LI->LI->LI->LI->I6 (LI->Option J)):Option J :=
 kn a b c d e 0 f g h i j
def Z67{J:Type}(N:Nat)(b c d a:LI)(e f g h i j:Int)(l:LI)(kn:LI->LI->LI->LI->I8 (LI->Option J)):Option J :=
 kn b c d a e f g h (a.length:Int) 0 i j l
def Z70{J:Type}(N:Nat)(d c e a:LI)(f h i j l b m o:Int)(p:LI)(kn:LI->LI->LI->LI->I8 (LI->Option J))(k8:LI->LI->LI->LI->I5 (LI->Option J)):Option J :=
 cond (lk N (decide (b<l)))
 (
  cond (lk N (av b a.length)) (
   cond (lk N (av (a.getD b.toNat 0) c.length)) (
    cond (lk N (!(decide ((c.getD (a.getD b.toNat 0).toNat 0)=0)))) (
     cond (lk N (av (a.getD b.toNat 0) d.length)) (
      cond (lk N (av (a.getD b.toNat 0) e.length)) (
       cond (lk N (av (a.getD b.toNat 0) (e.set (a.getD b.toNat 0).toNat (ab ((ab (Int.tdiv f (c.getD (a.getD b.toNat 0).toNat 0)))*(d.getD (a.getD b.toNat 0).toNat 0)))).length)) (
        cond (lk N (cI.P h ((e.set (a.getD b.toNat 0).toNat (ab ((ab (Int.tdiv f (c.getD (a.getD b.toNat 0).toNat 0)))*(d.getD (a.getD b.toNat 0).toNat 0)))).getD (a.getD b.toNat 0).toNat 0))) (
         kn d c (e.set (a.getD b.toNat 0).toNat (ab ((ab (Int.tdiv f (c.getD (a.getD b.toNat 0).toNat 0)))*(d.getD (a.getD b.toNat 0).toNat 0)))) a f (cI.g h ((e.set (a.getD b.toNat 0).toNat (ab ((ab (Int.tdiv f (c.getD (a.getD b.toNat 0).toNat 0)))*(d.getD (a.getD b.toNat 0).toNat 0)))).getD (a.getD b.toNat 0).toNat 0)) i j l (ab (b+1)) m o p) none) none) none) none) none) none) none)
 (
  k8 d c e a h i j m o p)
def Z69L{J:Type}(N:Nat)(k8:LI->LI->LI->LI->I5 (LI->Option J)):Nat->LI->LI->LI->LI->Int->Int->Int->Int->Int->Int->Int->Int->LI->Option J
 |0,_,_,_,_,_,_,_,_,_,_,_,_,_=>none
 |M+1,a,b,c,d,e,f,g,h,i,j,l,m,o=>Z70 N a b c d e f g h i j l m o (λa b c d e f g h i j l m o=>Z69L N k8 M a b c d e f g h i j l m o) k8
def Dx N a b c d e f g h i j l m o k8:=(Z69L N k8 N a b c d e f g h i j l m o:Option J)
def Z68 N a b c d e f g h i j l m o kn:=(Dx N a b c d e f g h i j l m o kn:Option J)
def Z66 N a b c d e f g h i j l kn:=(Z67 N a b c d e f g h i j l (λa b c d e f g h m o i j l=>Z68 N a b c d e f g h m o i j l kn):Option J)
def Z72{J:Type}(N:Nat)(b c d a:LI)(e f g h i:Int)(j:LI)(kn:LI->LI->LI->LI->I7 (LI->Option J)):Option J :=
 kn b c d a e f g (a.length:Int) 0 h i j
def Z75{J:Type}(N:Nat)(e f c b:LI)(d g h i a j l:Int)(m:LI)(kn:LI->LI->LI->LI->I7 (LI->Option J))(k10:LI->LI->LI->I4 (LI->Option J)):Option J :=
 cond (lk N (decide (a<i)))
 (
  cond (lk N (av a b.length)) (
   cond (lk N (av (b.getD a.toNat 0) c.length)) (
    cond (lk N (!(decide (d=0)))) (
     cond (lk N (av (b.getD a.toNat 0) c.length)) (
      kn e f (c.set (b.getD a.toNat 0).toNat (ab (Int.tdiv (c.getD (b.getD a.toNat 0).toNat 0) d))) b d g h i (ab (a+1)) j l m) none) none) none) none)
 (
  k10 e f c g h j l m)
def Z74L{J:Type}(N:Nat)(k10:LI->LI->LI->I4 (LI->Option J)):Nat->LI->LI->LI->LI->Int->Int->Int->Int->Int->Int->Int->LI->Option J
 |0,_,_,_,_,_,_,_,_,_,_,_,_=>none
 |M+1,a,b,c,d,e,f,g,h,i,j,l,m=>Z75 N a b c d e f g h i j l m (λa b c d e f g h i j l m=>Z74L N k10 M a b c d e f g h i j l m) k10
def Dy N a b c d e f g h i j l m k10:=(Z74L N k10 N a b c d e f g h i j l m:Option J)
def Z73 N a b c d e f g h i j l m kn:=(Dy N a b c d e f g h i j l m kn:Option J)
def yE N a b c j d e f g h i kn:=(Z72 N a b c j d e f g h i (λa b c l d e f m o g h i=>Z73 N a b c l d e f m o g h i kn):Option J)
def Dz N a b c d l e f g h i j kn:=(Z66 N a b c d l e f g h i j (λa b c d e f g h i j=>yE N a b c d e f g h i j kn):Option J)
def yF N a b c d e f g h i j kn:=(Z64 N a b c d e f g h i j (λa b c d e l f g h i j=>Dz N a b c d e l f g h i j kn):Option J)
def DA N a b c d e f g h i j kn:=(Z58 N a b c d e f g h i j (λa b c d e f g h i j=>yF N a b c d e f g h i j kn):Option J)
def Z55 N a b c d e f g h i kn:=(Z56 N a b c d e f g h i (λa b c d j e f g h i=>DA N a b c d j e f g h i kn):Option J)
def Z25 N a b c d e f g h i kn kr:=(Z26 N a b c d e f g h i (λa b c d e f g h i=>Z55 N a b c d e f g h i kn) kr:Option J)
def Z23 N a b c i d e f g h kn kr:=(Z24 N a b c i d e f g h (λa b c j d e f g h=>Z25 N a b c j d e f g h kn kr):Option J)
def Z21 N a b c d e f g h i kn kr:=(Z22 N a b c d e f g h i (λa b c d e f g h i=>Z23 N a b c d e f g h i kn kr):Option J)
def Z19 N a b c d e f g h i kn k1 kr:=(Z20 N a b c d e f g h i (λa b c d e f g h i=>Z21 N a b c d e f g h i kn kr) k1:Option J)
def Z17 N a b c d e f g h kn k1 kr:=(Z18 N a b c d e f g h (λa b c i d e f g h=>Z19 N a b c i d e f g h kn k1 kr):Option J)
def Z16 N a b c d e f g h kn kr:=(Z17 N a b c d e f g h kn kn kr:Option J)
def Z76{J:Type}(N:Nat)(a b c:LI)(d e f g:Int)(h:LI)(kn:LI->LI->LI->I4 (LI->Option J)):Option J :=
 kn a b c d (ab (e+1)) f g h
def Z15 N a b c d e f g h kn kr:=(Z16 N a b c d e f g h (λa b c d e f g h=>Z76 N a b c d e f g h kn) kr:Option J)
def Z13 N a b c d e i f g h kn k0 kr:=(Z14 N a b c d e i f g h (λa b c d e f g h=>Z15 N a b c d e f g h kn kr) k0:Option J)
def Z11 N a b c d e f g h kn k0 kr:=(Z12 N a b c d e f g h (λa b c d e i f g h=>Z13 N a b c d e i f g h kn k0 kr):Option J)
def Z10L{J:Type}(N:Nat)(k0 kr:LI->Option J):Nat->LI->LI->LI->Int->Int->Int->Int->LI->Option J
 |0,_,_,_,_,_,_,_,_=>none
 |M+1,a,b,c,d,e,f,g,h=>Z11 N a b c d e f g h (λa b c d e f g h=>Z10L N k0 kr M a b c d e f g h) k0 kr
def Z10 N a b c d e f g h k0 kr:=(Z10L N k0 kr N a b c d e f g h:Option J)
def Z9 N a b c d e f g h kn kr:=(Z10 N a b c d e f g h kn kr:Option J)
def Z7 N a b c d e f kn kr:=(Z8 N a b c d e f (λa b c g h d e f=>Z9 N a b c g h d e f kn kr):Option J)
def Z77{J:Type}(N:Nat)(a:LI)(kr:LI->Option J):Option J :=
 cond (Nat.blt 0 a.length) (
  kr a) none
def Z6 N b c a d e f kr:=(Z7 N b c a d e f (λa=>Z77 N a kr) kr:Option J)
def Z4 N a b c d e kr:=(Z5 N a b c d e (λa b f c d e=>Z6 N a b f c d e kr):Option J)
def Z2 N a b c kr:=(Z3 N a b c (λd e a b c=>Z4 N d e a b c kr):Option J)
def Z0 N a kr:=(Z1 N a (λb c d=>Z2 N b c d kr):Option J)
def Spec:Prop:=∀ (v0:MT),Ty.bd (.pair (.int .i64) (.pair (.int .i64) (.sl 0 (.int .i64)))) v0->P v0=true->∃N0,∀N,N0<=N->Z0 N v0 (λv2=>some ((),(v2,())))=some ((),((g v0),()))
def DB{a:Int}(h:-99<=a/\a<=99):mx a (ab (0-a))=bG a:=by rw[aL (by omega) (by omega),mB];unfold bG;omega
def MG(a:Int):bG (-a)=bG a:=by unfold bG;omega
def DD{k:Nat}(h:k<=4):(99:Int) ^ k<=96059601:=by
 have h1:99 ^ k<=99 ^ 4:=Nat.pow_le_pow_right (by omega) h;have h2:(99:Int) ^ k=((99 ^ k:Nat):Int):=by rw[Int.natCast_pow];rfl
 rw[h2];omega
def DE{n:Nat}{A:Nat->Nat->Int}{x j:Nat}(hx:x<n)(hj:j<n)(h:¬ (A x j=0/\A j x=0))(h':A x j=0\/A j x=0):¬ ∃e,cz n A e:=by
 rintro ⟨e,he⟩
 rcases h' with z|z;·exact h ⟨z,tg he hx hj z⟩
 ·exact h ⟨tg he hj hx z,z⟩
section
variable {J : Type} {N : Nat} {m : Int × Int × List Int} {s p x j : Nat} {num0 num den out : List Int} {L : List Nat}
def MH(hm:bi m=true)(hn:m.1.toNat<=5)(hcl:tn m.1.toNat (ae m) num0)(hf:eK m.1.toNat (ae m) s num0 L num den)(hp:p<L.length)(hx:L.getD p 0=x)(hj:j<m.1.toNat)(h0:¬ (ae m x j=0/\ae m j x=0))
  (kn:List Int->List Int->List Int->List Int->Int->Int->Int->Int->Int->Int->Int->Int->List Int->Option J) (kr:List Int->Option J) (t34 t35 t62 t63:Int) :
  (Z52 N num den out (aB L) (p:Int) (x:Int) (j:Int) (ae m x j) (-(ae m j x)) t34 t35 t62 t63 m.1 m.2.1 m.2.2 kn kr=kr []/\¬ ∃e,cz m.1.toNat (ae m) e) \/
  (∃L' num' den',eK m.1.toNat (ae m) s num0 L' num' den'/\(∃u,L'=L++u)/\(∀y∈L,∀k,fp (ae m) L num den y k->fp (ae m) L' num' den' y k)/\fp (ae m) L' num' den' x j /\
   Z52 N num den out (aB L) (p:Int) (x:Int) (j:Int) (ae m x j) (-(ae m j x)) t34 t35 t62 t63 m.1 m.2.1 m.2.2 kn kr=kn num' den' out (aB L') (p:Int) (x:Int) t34 t35 t62 t63 m.1 m.2.1 m.2.2):=by
 have hxm:x∈L:=by rw[<-hx];exact bF 0 hp
 have hxn:=hf.lt x hxm;have hle:=hf.le;simp only[Z52];by_cases z1:ae m x j=0;·rw[ct (dt z1)];exact Or.inl ⟨rfl,DE hxn hj h0 (Or.inl z1)⟩
 rw[cf (df z1)];by_cases z2:ae m j x=0;·rw[ct (dt (by omega))];exact Or.inl ⟨rfl,DE hxn hj h0 (Or.inr z2)⟩
 rw[cf (df (by omega))];by_cases sg:(0<ae m x j↔0 < -(ae m j x))
 ·have sgb:(!(((lk N (decide (0<ae m x j))) == (lk N (decide (0 < -(ae m j x)))))))=false:=by
   rw[aC,aC];by_cases h1:0<ae m x j;·rw[dt h1,dt (sg.1 h1)];rfl
   ·rw[df h1,df (λh=>h1 (sg.2 h))];rfl
  rw[cf sgb];have hne:¬ ((x:Int)=(j:Int)):=λe=>by
   have e':x=j:=by omega
   subst e';omega
  rw[cf (df hne)];obtain⟨Q,q1,q2,q3⟩:=hf.frac;obtain⟨c1,c2,c3,c4,c5⟩:=q3 x hxm;have st:=stepN (A:=ae m) (num:=num) (den:=den) x j c1 c3 z1 z2;have sk:=KA z1 z2 sg;have hb:=fV hm;have e1:=DB (hb x j);have e2:mx (-(ae m j x)) (ab (0 - -(ae m j x)))=bG (ae m j x):=by rw[DB (by have:=hb j x;omega),MG]
  have pw:=DD (k:=L.length-1) (by omega);have hdQ:=Int.le_of_dvd q1 c4;have a1:=qk (hb x j);have a2:=qk (hb j x);have a1':=n8 z1;have a2':=n8 z2;have b1:num.getD x 0*bG (ae m x j)<=96059601*99:=Int.mul_le_mul (by omega) a1 (by omega) (by omega);have b2:den.getD x 0*bG (ae m j x)<=96059601*99:=Int.mul_le_mul (by omega) a2 (by omega) (by omega);have hA:=st.a0p;have hB:=st.b0p;simp only[e1,e2,Int.toNat_natCast,aL (show -9223372036854775808<=num.getD x 0*bG (ae m x j) by omega) (by omega),aL (show -9223372036854775808<=den.getD x 0*bG (ae m j x) by omega) (by omega),cI.g];generalize hA0:num.getD x 0*bG (ae m x j)=A0 at *
  generalize hB0:den.getD x 0*bG (ae m j x)=B0 at *
  generalize hG:(Int.gcd A0 B0:Int)=G at *
  generalize ha:Int.tdiv A0 G=a at *
  generalize hb':Int.tdiv B0 G=b at *
  have gp:=st.gp;have ap:=st.ap;have bp:=st.bp;have al:a<=A0:=by have h1:=Int.mul_le_mul_of_nonneg_left (show(1:Int)<=G by omega) (Int.le_of_lt ap);have h2:=st.ea;omega
  have bl:b<=B0:=by have h1:=Int.mul_le_mul_of_nonneg_left (show(1:Int)<=G by omega) (Int.le_of_lt bp);have h2:=st.eb;omega
  have i1:av (x:Int) num.length=true:=aR (by rw[hf.nl];exact hxn);have i2:av (x:Int) den.length=true:=aR (by rw[hf.dl];exact hxn);have i3:av (j:Int) num.length=true:=aR (by rw[hf.nl];exact hj);have i4:av (j:Int) den.length=true:=aR (by rw[hf.dl];exact hj);have hP:cI.P A0 B0=true:=by simp only[cI.P,Bool.and_eq_true,decide_eq_true_eq];omega
  rw[ct i1,ct i2,ct hP,ct (nt (by omega)),ct (nt (by omega)),ct i3];simp only[aL (show -9223372036854775808<=a by omega) (by omega),aL (show -9223372036854775808<=b by omega) (by omega)];by_cases hz:num.getD j 0=0
  ·obtain⟨hg,hnj⟩:=hf.grow hp hj hz (by rw[hx];exact st) (λy k=>qk (hb y k));have hxj:∀y∈L,j≠y:=λy hy e=>hnj (e▸hy);have hnl:j<num.length:=by rw[hf.nl];exact hj
   have hdl:j<den.length:=by rw[hf.dl];exact hj
   rw[ct (dt hz),ct i3,ct i4,ct (show Nat.blt ((aB L).length+([(j:Int)]).length) 1099511627776=true by simp[cv,Nat.blt_eq];omega),xG];refine Or.inr ⟨L++[j],num.set j a,den.set j b,hg,⟨_,rfl⟩,λy hy k he=>he.grow hxj hnl hdl hy,Or.inr ⟨by simp, ?_⟩,rfl⟩;have:=Cy st sk;rw[cA hnl,if_neg (hxj x hxm),cA hdl,if_pos rfl,cA hnl,if_pos rfl,cA hdl,if_neg (hxj x hxm)];exact this
  ·have hjm:j∈L:=Classical.byContradiction λhc=>by
    have h1:num0.getD j 0≠0:=by rw[<-hf.out j hj hc];exact hz
    exact hcl j hj h1 x hxn (Or.inr z1) (hf.new x hxm)
   obtain⟨d1,d2,d3,d4,d5⟩:=q3 j hjm;have hgood:(∃e,cz m.1.toNat (ae m) e)->num.getD j 0=a/\den.getD j 0=b:=by
    rintro ⟨e,he⟩
    have g1:=Cx st hxn hj he (hf.good e he x hxm);have g2:=hf.good e he j hjm;have p1:=(he j hj).1;have p2:0<e s:=(he s (by rw[<-hf.hd];exact hf.lt _ (bF 0 hf.pos))).1;have g3:(e s*e j)*(num.getD j 0*b)=(e s*e j)*(a*den.getD j 0):=by grind
    have p3:=Int.mul_pos p2 p1;exact Kz d1 d3 ap bp d5 st.co (Int.eq_of_mul_eq_mul_left (by omega) g3)
   rw[cf (df hz),ct i3];by_cases ea:num.getD j 0=a
   ·rw[cf (nf ea),ct i4];by_cases eb:den.getD j 0=b;·rw[cf (nf eb)];refine Or.inr ⟨L,num,den,hf,⟨[],by simp⟩,λ_ _ _ h=>h,Or.inr ⟨hjm, ?_⟩,rfl⟩;rw[ea,eb];exact Cy st sk
    ·rw[ct (nt eb)];exact Or.inl ⟨rfl,λh=>eb (hgood h).2⟩
   ·rw[ct (nt ea)];exact Or.inl ⟨rfl,λh=>ea (hgood h).1⟩
 ·have sgb:(!(((lk N (decide (0<ae m x j))) == (lk N (decide (0 < -(ae m j x)))))))=true:=by
   rw[aC,aC];by_cases h1:0<ae m x j;·rw[dt h1,df (λh2=>sg ⟨λ_=>h2,λ_=>h1⟩)];rfl
   ·rw[df h1,dt (Classical.byContradiction λh2=>sg ⟨λh=>absurd h h1,λh=>absurd h h2⟩)];rfl
  rw[ct sgb];refine Or.inl ⟨rfl, ?_⟩;rintro ⟨e,he⟩
  have h1:=n7 he hxn hj;rw[fk,Bool.and_eq_true,beq_iff_eq,decide_eq_decide]at h1;have:=h1.1;omega
def at_g(hd:0<=m.1)(a b:Nat):bz.g (m.1,(m.2.1,m.2.2)) (a:Int) (b:Int)=ae m a b:=gA hd a b
def at_p(hd:az m=true){a b:Nat}(ha:a<m.1.toNat)(hb:b<m.1.toNat):bz.P (m.1,(m.2.1,m.2.2)) (a:Int) (b:Int)=true:=by obtain⟨n,r,hn,hr,hn1,hn5,hnr,hr8,hl⟩:=aN hd;exact gW hd (by omega) hb
def inner(hm:bi m=true)(hcl:tn m.1.toNat (ae m) num0)(k4:List Int->List Int->List Int->List Int->Int->Int->Int->Int->Int->List Int->Option J)(kr:List Int->Option J)(t34 t35:Int):∀(M j:Nat) (L:List Nat) (num den:List Int),eK m.1.toNat (ae m) s num0 L num den->p<L.length->L.getD p 0=x->j<=m.1.toNat->m.1.toNat-j<M ->
  (∀k',k'<p->∀k,k<m.1.toNat->fp (ae m) L num den (L.getD k' 0) k)->(∀k,k<j->fp (ae m) L num den x k) ->
  (Z39L N k4 kr M num den out (aB L) (p:Int) (x:Int) t34 t35 (m.1.toNat:Int) (j:Int) m.1 m.2.1 m.2.2=kr []/\¬ ∃e,cz m.1.toNat (ae m) e) \/
  (∃L' num' den',eK m.1.toNat (ae m) s num0 L' num' den'/\p<L'.length/\(∀k',k'<p+1->∀k,k<m.1.toNat->fp (ae m) L' num' den' (L'.getD k' 0) k) /\
   Z39L N k4 kr M num den out (aB L) (p:Int) (x:Int) t34 t35 (m.1.toNat:Int) (j:Int) m.1 m.2.1 m.2.2=k4 num' den' out (aB L') (p:Int) t34 t35 m.1 m.2.1 m.2.2):=by
 have hdim:=cD hm;obtain⟨n,r,hn,hr,hn1,hn5,hnr,hr8,hl⟩:=aN hdim;intro M;induction M with
 |zero=>intro j _ _ _ _ _ _ _ h;omega
 |succ M ih =>
  intro j L num den hf hp hx hj hM hE1 hE2;have hxm:x∈L:=by rw[<-hx];exact bF 0 hp
  have hxn:=hf.lt x hxm;simp only[Z39L,Z40,Z41,Z42,Z43];by_cases hlt:j<m.1.toNat
  ·rw[eI (by rw[aC];exact dt (by omega))];simp only[Z44,Z45,Z46,Z47,Z48,Z49];rw[ct (at_p hdim hxn hlt),ct (at_p hdim hlt hxn),at_g (by omega),at_g (by omega)];have hb:=fV hm j x;rw[show ab (0-ae m j x)=-(ae m j x) by rw[aL (by omega) (by omega)];omega];simp only[Z50,Z51];have next:∀(L':List Nat) (num' den':List Int),eK m.1.toNat (ae m) s num0 L' num' den'->(∃u,L'=L++u)->(∀y∈L,∀k,fp (ae m) L num den y k->fp (ae m) L' num' den' y k)->fp (ae m) L' num' den' x j ->
     (Z39L N k4 kr M num' den' out (aB L') (p:Int) (x:Int) t34 t35 (m.1.toNat:Int) ((j+1:Nat):Int) m.1 m.2.1 m.2.2=kr []/\¬ ∃e,cz m.1.toNat (ae m) e) \/
     (∃L'' num'' den'',eK m.1.toNat (ae m) s num0 L'' num'' den''/\p<L''.length/\(∀k',k'<p+1->∀k,k<m.1.toNat->fp (ae m) L'' num'' den'' (L''.getD k' 0) k) /\
      Z39L N k4 kr M num' den' out (aB L') (p:Int) (x:Int) t34 t35 (m.1.toNat:Int) ((j+1:Nat):Int) m.1 m.2.1 m.2.2=k4 num'' den'' out (aB L'') (p:Int) t34 t35 m.1 m.2.1 m.2.2):=by
    intro L' num' den' hf' hu hk he;obtain⟨u,hu⟩:=hu;have hget:∀k',k'<L.length->L'.getD k' 0=L.getD k' 0:=λk' hk'=>by rw[hu,iK hk']
    refine ih (j+1) L' num' den' hf' (by rw[hu];simp;omega) (by rw[hget p hp];exact hx) hlt (by omega) (λk' hk' k hkn=>?_) (λk hk'=>?_);·rw[hget k' (by omega)];exact hk _ (bF 0 (by omega)) k (hE1 k' hk' k hkn)
    ·by_cases e:k=j;·subst e;exact he
     ·exact hk x hxm k (hE2 k (by omega))
   by_cases h0:ae m x j=0/\ae m j x=0;·rw[ct (dt h0.1),ct (dt (by omega))];simp only[Z53];rw[bA (by rw[bD];omega)];exact next L num den hf ⟨[],by simp⟩ (λ_ _ _ h=>h) (Or.inl h0)
   ·have hz:∀(X Y:Option J),(cond (lk N (decide (ae m x j=0))) (cond (lk N (decide (-(ae m j x)=0))) X Y) Y)=Y:=by
     intro X Y;by_cases z1:ae m x j=0;·rw[ct (dt z1),cf (df (λz2=>h0 ⟨z1,by omega⟩))]
     ·rw[cf (df z1)]
    rw[hz];rcases MH (N:=N) (out:=out) hm (by omega) hcl hf hp hx hlt h0 (λnum3 den4 out5 piece7 at8 i9 t34 t35 t62 t63 m1_0 m1_1 m1_2=>Z53 N num3 den4 out5 piece7 at8 i9 t34 t35 t62 t63 m1_0 m1_1 m1_2 (λnum3 den4 out5 piece7 at8 i9 t34 t35 t62 t63 m1_0 m1_1 m1_2=>Z39L N k4 kr M num3 den4 out5 piece7 at8 i9 t34 t35 t62 t63 m1_0 m1_1 m1_2)) kr t34 t35 (m.1.toNat:Int) (j:Int)with hc|⟨L',num',den',h1,h2,h3,h4,h5⟩;·exact Or.inl hc
    ·rw[h5];simp only[Z53];rw[bA (by rw[bD];omega)];exact next L' num' den' h1 h2 h3 h4
  ·rw[dO (by rw[aC];exact df (by omega))];refine Or.inr ⟨L,num,den,hf,hp,λk' hk' k hk=>?_,rfl⟩;by_cases e:k'=p;·subst e;rw[hx];exact hE2 k (by omega)
   ·exact hE1 k' (by omega) k hk
def middle(hN:10<=N)(hm:bi m=true)(hcl:tn m.1.toNat (ae m) num0)(k2:List Int->List Int->List Int->List Int->Int->Int->Int->Int->List Int->Option J)(kr:List Int->Option J)(t34 t35:Int):∀(M p:Nat) (L:List Nat) (num den:List Int),eK m.1.toNat (ae m) s num0 L num den->p<=L.length->m.1.toNat-p<M ->
  (∀k',k'<p->∀k,k<m.1.toNat->fp (ae m) L num den (L.getD k' 0) k) ->
  (Z29L N k2 kr M num den out (aB L) (p:Int) t34 t35 m.1 m.2.1 m.2.2=kr []/\¬ ∃e,cz m.1.toNat (ae m) e) \/
  (∃L' num' den',eK m.1.toNat (ae m) s num0 L' num' den'/\(∀x∈L',∀k,k<m.1.toNat->fp (ae m) L' num' den' x k) /\
   Z29L N k2 kr M num den out (aB L) (p:Int) t34 t35 m.1 m.2.1 m.2.2=k2 num' den' out (aB L') t34 t35 m.1 m.2.1 m.2.2):=by
 have hdim:=cD hm;obtain⟨n,r,hn,hr,hn1,hn5,hnr,hr8,hl⟩:=aN hdim;intro M;induction M with
 |zero=>intro p _ _ _ _ _ h;omega
 |succ M ih =>
  intro p L num den hf hp hM hE;have hle:=hf.le;simp only[Z29L,Z30,Z31];by_cases hlt:p<L.length
  ·rw[ct (dt (by rw[cv];omega))];simp only[Z32,Z33,Z34,Z35];rw[ct (aR (by rw[cv];exact hlt))];simp only[Z36,Z37,Z38,Z39,Int.toNat_natCast,gX,hf.nl];have hin:=inner (J:=J) (N:=N) (out:=out) hm hcl (λnum3 den4 out5 piece7 at8 t34 t35 m1_0 m1_1 m1_2=>Z54 N num3 den4 out5 piece7 at8 t34 t35 m1_0 m1_1 m1_2 (λnum3 den4 out5 piece7 at8 t34 t35 m1_0 m1_1 m1_2=>Z29L N k2 kr M num3 den4 out5 piece7 at8 t34 t35 m1_0 m1_1 m1_2)) kr t34 t35 N 0 L num den hf hlt rfl (by omega) (by omega) hE (λk hk=>by omega);rw[show((0:Nat):Int)=0 from rfl]at hin;rcases hin with hc|⟨L',num',den',h1,h2,h3,h4⟩;·exact Or.inl hc
   ·rw[h4];simp only[Z54];rw[bA (by rw[bD];omega)];exact ih (p+1) L' num' den' h1 h2 (by omega) h3
  ·rw[cf (df (by rw[cv];omega))];refine Or.inr ⟨L,num,den,hf,λx hx k hk=>?_,rfl⟩;obtain⟨k',hk',e⟩:=mE hx;rw[<-e];exact hE k' (by omega) k hk
def MI(hf:eK m.1.toNat (ae m) s num0 L num den)(h5:m.1.toNat<=5){Q:Int}(q1:0<Q)(q2:Q<=96059601)(q3:∀x∈L,0<den.getD x 0/\den.getD x 0∣Q)(k6:List Int->List Int->List Int->List Int->Int->Int->Int->Int->Int->List Int->Option J)(t34 t35:Int):∀(M k:Nat) (c:Int),k<=L.length->L.length-k<M->0<c->c∣Q->(∀k',k'<k->den.getD (L.getD k' 0) 0∣c) ->
  ∃c',0<c'/\c'∣Q/\(∀x∈L,den.getD x 0∣c') /\
   Z61L N k6 M num den out (aB L) c t34 t35 ((aB L).length:Int) (k:Int) m.1 m.2.1 m.2.2=k6 num den out (aB L) c' t34 t35 m.1 m.2.1 m.2.2:=by
 have hle:=hf.le;intro M;induction M with
 |zero=>intro k _ _ h;omega
 |succ M ih =>
  intro k c hk hM hc hcQ hd;simp only[Z61L,Z62];by_cases hlt:k<L.length
  ·have hxm:L.getD k 0∈L:=bF 0 hlt;obtain⟨d1,d2⟩:=q3 _ hxm;have i1:av (k:Int) (aB L).length=true:=aR (by rw[cv];exact hlt);have i2:av ((L.getD k 0:Nat):Int) den.length=true:=aR (by rw[hf.dl];exact hf.lt _ hxm);obtain⟨g1,g2,g3,g4,g5,g6,g7⟩:=KB hc d1 hcQ d2 q1;have b1:=Int.le_of_dvd q1 hcQ;have b2:=Int.le_of_dvd q1 d2;have b3:=Int.le_of_dvd q1 g5;rw[ct (dt (by rw[cv];omega)),ct i1];simp only[Int.toNat_natCast,gX];rw[ct i2,ct i2,ct (show cI.P c (den.getD (L.getD k 0) 0)=true by simp only[cI.P,Bool.and_eq_true,decide_eq_true_eq];omega)];have eg:cI.g c (den.getD (L.getD k 0) 0)=(Int.gcd c (den.getD (L.getD k 0) 0):Int):=rfl;rw[ct (nt (by rw[eg];omega)),eg,aL (n:=Int.tdiv c _) (by omega) (by omega),aL (by omega) (by omega),bA (by rw[bD];omega)];refine ih (k+1) _ hlt (by omega) g4 g5 (λk' hk'=>?_);by_cases e:k'=k;·subst e;exact g7
   ·exact Int.dvd_trans (hd k' (by omega)) g6
  ·rw[cf (df (by rw[cv];omega))];refine⟨c,hc,hcQ,λx hx=>?_,rfl⟩;obtain⟨k',hk',e⟩:=mE hx;rw[<-e];exact hd k' (by omega)
structure O2(n:Nat)(L:List Nat)(num den out0:List Int)(c:Int)(k:Nat)(out:List Int)(g:Int):Prop where
 len:out.length=n
 old:∀x,x<n->(∀k',k'<k->x≠L.getD k' 0)->out.getD x 0=out0.getD x 0
 val:∀k',k'<k->out.getD (L.getD k' 0) 0*den.getD (L.getD k' 0) 0=c*num.getD (L.getD k' 0) 0/\0<out.getD (L.getD k' 0) 0/\out.getD (L.getD k' 0) 0<=9227446944279201
 gcd:g=((ce ((List.range k).map λt=>out.getD (L.getD t 0) 0):Nat):Int)
def O2.g_range{n:Nat}{out0:List Int}{c g:Int}{k:Nat}(h:O2 n L num den out0 c k out g):0<=g/\g<=9227446944279201/\(0<k->0<g):=by
 have h0:0<=g:=by rw[h.gcd];omega
 by_cases e:k=0;·subst e;have:=h.gcd;simp[ce]at this;omega
 ·obtain⟨_,a1,a2⟩:=h.val 0 (by omega);have hd:g∣out.getD (L.getD 0 0) 0:=by rw[h.gcd];exact tf (List.mem_map.2 ⟨0,List.mem_range.2 (by omega),rfl⟩)
  have:=Int.le_of_dvd a1 hd;refine⟨h0,by omega,λ_=>?_⟩;rcases Int.lt_or_le 0 g with h'|h';·exact h'
  ·have e:g=0:=by omega
   rw[e]at hd;have:=Int.zero_dvd.1 hd;omega
def MJ(hf:eK m.1.toNat (ae m) s num0 L num den)(h5:m.1.toNat<=5){c:Int}(c1:0<c)(c2:c<=96059601)(q3:∀x∈L,0<num.getD x 0/\num.getD x 0<=96059601/\0<den.getD x 0/\den.getD x 0∣c)(out0:List Int)(k8:List Int->List Int->List Int->List Int->Int->Int->Int->Int->Int->List Int->Option J)(t34 t35:Int):∀(M k:Nat) (out:List Int) (g:Int),k<=L.length->L.length-k<M->O2 m.1.toNat L num den out0 c k out g ->
  ∃out' g',O2 m.1.toNat L num den out0 c L.length out' g' /\
   Z69L N k8 M num den out (aB L) c g t34 t35 ((aB L).length:Int) (k:Int) m.1 m.2.1 m.2.2=k8 num den out' (aB L) g' t34 t35 m.1 m.2.1 m.2.2:=by
 have hle:=hf.le;intro M;induction M with
 |zero=>intro k _ _ _ h;omega
 |succ M ih =>
  intro k out g hk hM ho;simp only[Z69L,Z70];by_cases hlt:k<L.length
  ·have hxm:L.getD k 0∈L:=bF 0 hlt;have hxn:=hf.lt _ hxm;obtain⟨d1,d2,d3,d4⟩:=q3 _ hxm;have i1:av (k:Int) (aB L).length=true:=aR (by rw[cv];exact hlt);have i2:av ((L.getD k 0:Nat):Int) den.length=true:=aR (by rw[hf.dl];exact hxn);have i3:av ((L.getD k 0:Nat):Int) num.length=true:=aR (by rw[hf.nl];exact hxn);have i4:av ((L.getD k 0:Nat):Int) out.length=true:=aR (by rw[ho.len];exact hxn);have hxo:L.getD k 0<out.length:=by rw[ho.len];exact hxn
   have hg:=ho.g_range;have t1:Int.tdiv c (den.getD (L.getD k 0) 0)*den.getD (L.getD k 0) 0=c:=Int.tdiv_mul_cancel d4;have t2:0<Int.tdiv c (den.getD (L.getD k 0) 0)/\Int.tdiv c (den.getD (L.getD k 0) 0)<=c:=by
    generalize Int.tdiv c (den.getD (L.getD k 0) 0)=t at t1 ⊢;have:0<t:=by
     rcases Int.lt_or_le 0 t with h'|h';·exact h'
     ·have:=Int.mul_nonpos_of_nonpos_of_nonneg h' (Int.le_of_lt d3);omega
    have:=Int.mul_le_mul_of_nonneg_left (show(1:Int)<=den.getD (L.getD k 0) 0 by omega) (Int.le_of_lt this);exact⟨by omega,by omega⟩
   have t3:0<Int.tdiv c (den.getD (L.getD k 0) 0)*num.getD (L.getD k 0) 0:=Int.mul_pos t2.1 d1;have t4:Int.tdiv c (den.getD (L.getD k 0) 0)*num.getD (L.getD k 0) 0<=96059601*96059601:=Int.mul_le_mul (by omega) d2 (by omega) (by omega);rw[ct (dt (by rw[cv];omega)),ct i1];simp only[Int.toNat_natCast,gX];rw[ct i2,ct (nt (by omega)),ct i3,ct i4];simp only[aL (show -9223372036854775808<=Int.tdiv c (den.getD (L.getD k 0) 0) by omega) (by omega)];simp only[aL (show -9223372036854775808<=Int.tdiv c (den.getD (L.getD k 0) 0)*num.getD (L.getD k 0) 0 by omega) (by omega)];generalize hv:Int.tdiv c (den.getD (L.getD k 0) 0)*num.getD (L.getD k 0) 0=v at t3 t4 ⊢;have hself:(out.set (L.getD k 0) v).getD (L.getD k 0) 0=v:=by rw[cA hxo,if_pos rfl]
   have hget:∀t,t<k->(out.set (L.getD k 0) v).getD (L.getD t 0) 0=out.getD (L.getD t 0) 0:=λt ht'=>by rw[cA hxo,if_neg (λe=>by have:=jt hf.nd hlt (by omega) e;omega)]
   rw[ct (aR (by rw[List.length_set];exact hxo)),hself,ct (show cI.P g v=true by simp only[cI.P,Bool.and_eq_true,decide_eq_true_eq];omega),bA (by rw[bD];omega)];refine ih (k+1) _ _ hlt (by omega) ⟨by rw[List.length_set];exact ho.len, ?_, ?_, ?_⟩;·intro x hx hall;rw[cA hxo,if_neg (λe=>hall k (by omega) e.symm)];exact ho.old x hx (λt ht'=>hall t (by omega))
   ·intro t ht';by_cases e:t=k;·subst e;rw[hself];refine⟨?_,t3,by omega⟩;rw[<-hv];have e1:=t1;grind
    ·rw[hget t (by omega)];exact ho.val t (by omega)
   ·rw[List.range_succ,List.map_append,List.map_cons,List.map_nil,hself];rw[show(List.range k).map (λt=>(out.set (L.getD k 0) v).getD (L.getD t 0) 0)=(List.range k).map (λt=>out.getD (L.getD t 0) 0)from List.map_congr_left (λt ht'=>hget t (List.mem_range.1 ht'))];rw[ho.gcd];exact Cn _ _ v (by omega) rfl
  ·have e:k=L.length:=by omega
   subst e;exact⟨out,g,ho,by rw[cf (df (by rw[cv];omega))]⟩
def MK(hf:eK m.1.toNat (ae m) s num0 L num den)(h5:m.1.toNat<=5){out2:List Int}{g:Int}(hg:0<g)(hv:∀x∈L,0<out2.getD x 0/\out2.getD x 0<=9227446944279201)(k10:List Int->List Int->List Int->Int->Int->Int->Int->List Int->Option J)(t34 t35:Int):∀(M k:Nat) (d:List Int),k<=L.length->L.length-k<M->T3 m (L,[]) out2 g k d ->
  ∃d',T3 m (L,[]) out2 g L.length d'/\Z74L N k10 M num den d (aB L) g t34 t35 ((aB L).length:Int) (k:Int) m.1 m.2.1 m.2.2=k10 num den d' t34 t35 m.1 m.2.1 m.2.2:=by
 have hle:=hf.le;intro M;induction M with
 |zero=>intro k _ _ h;omega
 |succ M ih =>
  intro k d hk hM ht;simp only[Z74L,Z75];by_cases hlt:k<L.length
  ·have hxm:L.getD k 0∈L:=bF 0 hlt;have hxn:=hf.lt _ hxm;obtain⟨v1,v2⟩:=hv _ hxm;have hcur:=ht.cur hf.nd hf.lt hlt;have hdv:0<=Int.tdiv (out2.getD (L.getD k 0) 0) g/\Int.tdiv (out2.getD (L.getD k 0) 0) g<=9227446944279201:=by rw[Int.tdiv_eq_ediv_of_nonneg (by omega)];refine⟨Int.ediv_nonneg (by omega) (by omega), ?_⟩;have:=Int.ediv_le_self (a:=out2.getD (L.getD k 0) 0) g (by omega);omega
   have i4:av ((L.getD k 0:Nat):Int) d.length=true:=aR (by rw[ht.len];exact hxn);have hcur':d.getD (L.getD k 0) 0=out2.getD (L.getD k 0) 0:=hcur;rw[ct (dt (by rw[cv];omega)),ct (aR (by rw[cv];exact hlt))];simp only[Int.toNat_natCast,gX];rw[ct i4,ct (nt (by omega)),ct i4,hcur',aL (by omega) (by omega),bA (by rw[bD];omega)];exact ih (k+1) _ hlt (by omega) (ht.step hf.nd hf.lt hlt)
  ·have e:k=L.length:=by omega
   subst e;exact⟨d,ht,by rw[cf (df (by rw[cv];omega))]⟩
def outer(hN:10<=N)(hm:bi m=true)(kr:List Int->Option J):∀(M i:Nat) (num den out:List Int),n9 m.1.toNat (ae m) num out->den.length=m.1.toNat->i<=m.1.toNat->(∀x,x<i->num.getD x 0≠0)->m.1.toNat-i<M ->
  Z10L N (λout5=>Z77 N out5 kr) kr M num den out (m.1.toNat:Int) (i:Int) m.1 m.2.1 m.2.2=kr (be m):=by
 have hdim:=cD hm;obtain⟨n,r,hn,hr,hn1,hn5,hnr,hr8,hl⟩:=aN hdim;intro M;induction M with
 |zero=>intro i _ _ _ _ _ _ _ h;omega
 |succ M ih =>
  intro i num den out hO hdl hi hpos hM;simp only[Z10L,Z11,Z12,Z13,Z14];by_cases hlt:i<m.1.toNat
  ·rw[eI (by rw[aC];exact dt (by omega))];simp only[Z15,Z16,Z17,Z18,Z19,Z20];rw[ct (aR (by rw[hO.nl];exact hlt)),Int.toNat_natCast];by_cases hz:num.getD i 0=0
   ·rw[cf (nf hz)];simp only[Z21,Z22];rw[ct (aR (by rw[hO.nl];exact hlt)),ct (aR (by rw[hdl];exact hlt)),Int.toNat_natCast];simp only[Z23,Z24,Z25,Z26,Z27,Z28,Z29];have hnl:i<num.length:=by rw[hO.nl];exact hlt
    have hdl':i<den.length:=by rw[hdl];exact hlt
    have f0:eK m.1.toNat (ae m) i num [i] (num.set i 1) (den.set i 1):=by
     refine⟨by rw[List.length_set];exact hO.nl,by rw[List.length_set];exact hdl,by simp,λx hx=>by rw[List.mem_singleton]at hx;omega,rfl,by simp, ?_, ?_, ?_, ?_⟩;·intro x hx hni;rw[cA hnl,if_neg (λe=>hni (by simp[e]))]
     ·intro x hx;rw[List.mem_singleton]at hx;subst hx;exact hz
     ·refine⟨1,by omega,by simp,λx hx=>?_⟩;rw[List.mem_singleton]at hx;subst hx;rw[cA hnl,if_pos rfl,cA hdl',if_pos rfl];exact⟨by omega,by simp,by omega,Int.dvd_refl _,by decide⟩
     ·intro e he x hx;rw[List.mem_singleton]at hx;subst hx;rw[cA hnl,if_pos rfl,cA hdl',if_pos rfl]
    have hmid:=middle (J:=J) (out:=out) hN hm hO.closed (λnum3 den4 out5 piece7 t34 t35 m1_0 m1_1 m1_2=>Z55 N num3 den4 out5 piece7 t34 t35 m1_0 m1_1 m1_2 (λnum3 den4 out5 t34 t35 m1_0 m1_1 m1_2=>Z76 N num3 den4 out5 t34 t35 m1_0 m1_1 m1_2 (λnum3 den4 out5 t34 t35 m1_0 m1_1 m1_2=>Z10L N (λout5=>Z77 N out5 kr) kr M num3 den4 out5 t34 t35 m1_0 m1_1 m1_2))) kr (m.1.toNat:Int) (i:Int) N 0 [i] (num.set i 1) (den.set i 1) f0 (by omega) (by omega) (λk' hk'=>by omega);rw[show((0:Nat):Int)=0 from rfl,show aB [i]=[(i:Int)]from rfl]at hmid;rcases hmid with⟨h1,h2⟩|⟨L,num',den',hf,hE,h1⟩;·rw[h1,Ch h2]
    ·rw[h1];have hle:=hf.le;obtain⟨Q,q1,q2,q3⟩:=hf.frac;have pw:=DD (k:=L.length-1) (by omega);simp only[Z55,Z56,DA,Z58,Z59,Z60,Dw];obtain⟨c,c1,c2,c3,c4⟩:=MI (J:=J) (N:=N) (out:=out) (num:=num') (m:=m) hf (by omega) q1 (by omega) (λx hx=>⟨(q3 x hx).2.2.1,(q3 x hx).2.2.2.1⟩) (λnum3 den4 out5 piece7 common16 t34 t35 m1_0 m1_1 m1_2=>yF N num3 den4 out5 piece7 common16 t34 t35 m1_0 m1_1 m1_2 (λnum3 den4 out5 t34 t35 m1_0 m1_1 m1_2=>Z76 N num3 den4 out5 t34 t35 m1_0 m1_1 m1_2 (λnum3 den4 out5 t34 t35 m1_0 m1_1 m1_2=>Z10L N (λout5=>Z77 N out5 kr) kr M num3 den4 out5 t34 t35 m1_0 m1_1 m1_2))) (m.1.toNat:Int) (i:Int) N 0 1 (by omega) (by omega) (by omega) (Int.one_dvd _) (λk' hk'=>by omega);rw[show((0:Nat):Int)=0 from rfl]at c4;rw[c4];have cQ:=Int.le_of_dvd q1 c2;simp only[yF,Z64,Dz,Z66,Z67,Z68,Dx];obtain⟨out2,g2,o1,o2⟩:=MJ (J:=J) (N:=N) (num:=num') (m:=m) hf (by omega) c1 (by omega) (λx hx=>⟨(q3 x hx).1,by have:=(q3 x hx).2.1;omega,(q3 x hx).2.2.1,c3 x hx⟩) out (λnum3 den4 out5 piece7 g19 t34 t35 m1_0 m1_1 m1_2=>yE N num3 den4 out5 piece7 g19 t34 t35 m1_0 m1_1 m1_2 (λnum3 den4 out5 t34 t35 m1_0 m1_1 m1_2=>Z76 N num3 den4 out5 t34 t35 m1_0 m1_1 m1_2 (λnum3 den4 out5 t34 t35 m1_0 m1_1 m1_2=>Z10L N (λout5=>Z77 N out5 kr) kr M num3 den4 out5 t34 t35 m1_0 m1_1 m1_2))) (m.1.toNat:Int) (i:Int) N 0 out 0 (by omega) (by omega) ⟨hO.ol,λ_ _ _=>rfl,λk hk=>by omega,rfl⟩;rw[show((0:Nat):Int)=0 from rfl]at o2;rw[o2];have hg2:=o1.g_range.2.2 hf.pos;have hval:∀x∈L,out2.getD x 0*den'.getD x 0=c*num'.getD x 0/\0<out2.getD x 0/\out2.getD x 0<=9227446944279201:=by intro x hx;obtain⟨k,hk,e⟩:=mE hx;rw[<-e];exact o1.val k hk
     simp only[yE,Z72,Z73,Dy];obtain⟨out3,p1,p2⟩:=MK (J:=J) (N:=N) (num:=num') (m:=m) hf (by omega) hg2 (λx hx=>(hval x hx).2) (λnum3 den4 out5 t34 t35 m1_0 m1_1 m1_2=>Z76 N num3 den4 out5 t34 t35 m1_0 m1_1 m1_2 (λnum3 den4 out5 t34 t35 m1_0 m1_1 m1_2=>Z10L N (λout5=>Z77 N out5 kr) kr M num3 den4 out5 t34 t35 m1_0 m1_1 m1_2)) (m.1.toNat:Int) (i:Int) N 0 out2 (by omega) (by omega) ⟨o1.len,λ_ _ _=>rfl,λk hk=>by omega⟩;rw[show((0:Nat):Int)=0 from rfl]at p2;rw[p2];have hgl:g2=((ce (L.map λx=>out2.getD x 0):Nat):Int):=by rw[<-Ck L (λx=>out2.getD x 0)];exact o1.gcd
     obtain⟨r1,r2,r3⟩:=hO.piece (out3:=out3) hf hE c1 hg2 (λx hx=>(hval x hx).1) hgl (λx hx=>by
      obtain⟨k,hk,e⟩:=mE hx;have:=p1.val k hk;rw[<-e];rw[show out3.getD (L.getD k 0) 0=_ from this];refine Int.tdiv_mul_cancel ?_;rw[hgl];exact tf (List.mem_map.2 ⟨L.getD k 0,bF 0 hk,rfl⟩)) (λx hx hni=>by
      have hne:∀k',k'<L.length->x≠L.getD k' 0:=λk' hk' e=>hni (by rw[e];exact bF 0 hk');rw[p1.out x hx hne,o1.old x hx hne]) p1.len
     simp only[Z76];rw[bA (by rw[bD];omega)];exact ih (i+1) num' den' out3 r1 hf.dl hlt (λx hx=>by
      by_cases e:x=i;·subst e;exact r2
      ·exact r3 x (by omega) (hpos x (by omega))) (by omega)
   ·rw[ct (nt hz)];simp only[Z76];rw[bA (by rw[bD];omega)];exact ih (i+1) num den out hO hdl hlt (λx hx=>by
     by_cases e:x=i;·subst e;exact hz
     ·exact hpos x (by omega)) (by omega)
  ·rw[dO (by rw[aC];exact df (by omega))];simp only[Z77];rw[hO.fac (λx hx=>hpos x (by omega)),eI (by rw[hO.ol,Nat.blt_eq];omega)]
end
def ok:Spec:=λm hb hp=>⟨10,λN hN=>by
 have hm:bi m=true:=hp;have hdim:=cD hm;obtain⟨n,r,hn,hr,hn1,hn5,hnr,hr8,hl⟩:=aN hdim;have hz:∀x,(List.replicate m.1.toNat (0:Int)).getD x 0=0:=λx=>by rw[List.getD_eq_getElem?_getD,List.getElem?_replicate];split<;>rfl
 have hc:(bE 0 m.1&&decide (m.1<1099511627776))=true:=by rw[nV (by omega),dt (by omega)];rfl
 simp only[Z0,Z1,Z2,Z3];rw[ct hc,ct hc];have key:Z4 N (List.replicate m.1.toNat 0) (List.replicate m.1.toNat 0) m.1 m.2.1 m.2.2 (λt2=>some ((),(t2,())))=some ((),(g m,())):=by simp only[Z4,Z5];rw[ct hc];simp only[Z6,Z7,Z8,Z9,Z10,List.length_replicate];have:=outer (J:=Unit×List Int×Unit) hN hm (λt2=>some ((),(t2,()))) N 0 (List.replicate m.1.toNat 0) (List.replicate m.1.toNat 0) (List.replicate m.1.toNat 0) ⟨by simp,by simp,λy hy h=>absurd (hz y) h,λj hj h=>absurd (hz j) h⟩ (by simp) (by omega) (λx hx=>by omega) (by omega);exact this
 rw[key];simp only[bo,fD]⟩
end aH
namespace f8
def g(m:Int×Int×List Int):Bool:=bi m&&!decide (be m=[])
def Z0{J:Type}(N:Nat)(a:MT)(kr:Bool->Option J):Option J :=
 cond (lk N ((jg.g a)))
 (
  cond (lk N (aH.P a)) (
   kr (lk N (!(decide ((aH.g a).length=0))))) none)
 (
  kr false)
def Spec:Prop:=∀ (v0:MT),Ty.bd (.pair (.int .i64) (.pair (.int .i64) (.sl 0 (.int .i64)))) v0->∃N0,∀N,N0<=N->Z0 N v0 (λv2=>some ((),(v2,())))=some ((),((g v0),()))
def ok:Spec:=λm hb=>⟨0,λN hN=>by
 simp only[Z0,aC,g,jg.g,aH.P,aH.g];cases bi m;·rfl
 ·by_cases h:be m=[];·rw[dt h,dt (by rw[h];rfl)];rfl
  ·rw[df h,df (λe=>h (List.length_eq_zero_iff.1 e))];rfl⟩
end f8
namespace cZ
def P(a:List Int):Bool:=decide (a.length<1099511627776)
abbrev g(a:List Int):List Int:=a
def Z0{J:Type}(N:Nat)(a:LI)(kr:LI->Option J):Option J :=
 cond (lk N (decide (0<a.length)))
 (
  cond (lk N (Nat.blt (([]:List Int).length+a.length) 1099511627776)) (
   kr (([]:List Int)++a)) none)
 (
  bg (
   kr ([]:List Int))
  (
   cond (lk N (Nat.blt (([]:List Int).length+a.length) 1099511627776)) (
    kr (([]:List Int)++a)) none))
def Spec:Prop:=∀ (v0:LI),Ty.bd (.sl 0 (.int .i64)) v0->P v0=true->∃N0,∀N,N0<=N->Z0 N v0 (λv2=>some ((),(v2,())))=some ((),((g v0),()))
def ok:Spec:=λa hb hp=>⟨0,λN hN=>by
 have hl:a.length<1099511627776:=by simpa[P]using hp
 have hc:Nat.blt (([]:List Int).length+a.length) 1099511627776=true:=by simpa using hl
 simp only[Z0,aC,g,hc,cond_true,List.nil_append];by_cases h:0<a.length;·simp[h]
 ·have:a=[]:=List.eq_nil_of_length_eq_zero (by omega);subst this;simp[fD]⟩
end cZ
end
end Go.Fw
