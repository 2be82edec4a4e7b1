/- The framework: functions of the library that are met by their contracts. Nothing is assumed. -/
import Derived.Test.YtillpdbmnjkjiaaFwc
import Derived.Shelf.SlicesQ.IndexFunc
set_option linter.defProp false
set_option linter.unusedVariables false
set_option linter.unusedSectionVars false
namespace Go.Fw
open Go.Proofs Go.Shelf Go.RowKit Go.Lib
section
variable {P : Program} {J : Ren}
def gC(n i:Nat):Nat:=if i<n then i else 0
def vd{n:Nat}(h:0<n)(i:Nat):gC n i<n:=by unfold gC;split<;>omega
def rn{n i:Nat}(h:i<n):gC n i=i:=if_pos h
def rp{k:Nat}:∀(css:List (List Value)),(∀c∈css,c.length=k)->∀(j i:Nat) (v:Value),(css.getD j [])[i]? = some v->css.flatten[j*k+i]? = some v
 |[],_,j,i,v,h=>by simp at h
 |c::css,hl,0,i,v,h=>by have h:c[i]? = some v:=h;rw[List.flatten_cons,Nat.zero_mul,Nat.zero_add,List.getElem?_append_left (List.getElem?_eq_some_iff.1 h).1];exact h
 |c::css,hl,j+1,i,v,h=>by have e:=hl c List.mem_cons_self;rw[List.flatten_cons,List.getElem?_append_right (by rw[e,Nat.add_mul];omega),e,show(j+1)*k+i-k=j*k+i by rw[Nat.add_mul];omega];exact rp css (λc hc=>hl c (List.mem_cons_of_mem _ hc)) j i v h
def rq{α β:Type}{R:α->β->Prop}(da:α)(db:β):∀{l:List α}{bs:List β},ae R l bs->∀j,j<bs.length->R (l.getD j da) (bs.getD j db)
 |[],[],_,j,h=>by simp at h
 |_::_,_::_,h,0,_=>h.1
 |_::_,_::_,h,j+1,hj=>rq da db h.2 j (by simpa using hj)
def By(L:SlLaysH0.n8 P J){t:Ty}{e:Nat}(aE:∀w,(isAgg (J.t 23)).run P w=.ok true w)(zE:∀w,(Go.sizeOf (J.t 23)).run P w=.ok t.nc w)(g:Nat)(lb:Array Value)(eg:∀args w,(callFunc g args).run P w=.ok (.enter g args) w)
  {w:World}{S:Nat->Prop}{A:Option Addr}{n c:Nat}{xs:List t.den} (d:t.den) (hrd:Rd w S (.sl e t) [.slice A n c] xs) (hpos:0<xs.length) (p:t.den->Bool)
  (hp:∀(W:World) (cs:List Value) (x:t.den),Below w.heap.size w W->Rd W (λk=>S k/\k<w.heap.size) t cs x->Calls P g (#[.agg cs.toArray]++lb) W λe w'=>e=.returned (.bool (p x))/\Below w.heap.size w w') :
  Calls P (J.f 8) #[.slice A n c,.func (.func g) #[] lb] w λe w'=>e=.returned (.bool (xs.any p))/\Below w.heap.size w w':=by
 obtain⟨A',n',c',e1,hlen,hnc,hcm,hor⟩:=hrd;injection e1 with e1 _;injection e1 with e1 e2 e3;subst e1 e2 e3;rcases hor with h0|⟨ad,css,rfl,_,hall,hcell⟩;·omega
 have hcl:css.length=xs.length:=hall.len;have hk:∀c∈css,c.length=t.nc:=by intro cs hcs;obtain⟨j,hj,rfl⟩:=List.getElem_of_mem hcs;have:=rq [] d hall j (by omega);rw[List.getD_eq_getElem?_getD,List.getElem?_eq_getElem hj]at this;exact this.len
 have hlt:∀j,j<xs.length->Rd w (λk=>S k/\k<w.heap.size) t (css.getD j []) (xs.getD j d):=λj hj=>(rq [] d hall j hj).lt;have hlen2:∀j,j<xs.length->(css.getD j []).length=t.nc:=λj hj=>(hlt j hj).len;obtain⟨bk,o,sp⟩:=ad;have hnz:0<t.nc:=t.nc_pos;obtain⟨v0,hv0⟩:∃v,(css.getD 0 [])[0]? = some v:=by have:=hlen2 0 hpos;exact⟨_,List.getElem?_eq_getElem (by omega)⟩
 have h0:=hcell _ _ (rp css hk 0 0 v0 hv0);rw[Nat.zero_mul]at h0;have hsp:sp=none:=by
  have e:(⟨bk,o,sp⟩:Addr).add ((0+0:Nat):Int).toNat=⟨bk,o,sp⟩:=by unfold Addr.add;simp
  have e':(⟨bk,o,sp⟩:Addr).add (0+0)=⟨bk,o,sp⟩:=by unfold Addr.add;simp
  rw[e']at h0;unfold World.cell? at h0;split at h0
  ·cases sp with
   |none=>rfl
   |some _=>simp at h0
  ·cases h0
 subst hsp;have hbk:bk<w.heap.size:=by
  have:=World.block_lt_of_cell? _ _ h0;have e:((⟨bk,o,none⟩:Addr).add (0+0)).block=bk:=by unfold Addr.add;simp
  rwa [e]at this
 have hn:n=xs.length:=hlen.symm;subst hn;let enc:Nat->List Value:=λi=>css.getD (gC xs.length i) [];let q:Nat->Bool:=λi=>p (xs.getD (gC xs.length i) d);have key:=AnyQ.slices_ContainsFunc L t.nc aE zE enc (λi=>hlen2 _ (vd hpos i)) q g lb eg bk o xs.length c (List.range xs.length) w
  (λW i hb=>hp W _ _ hb ((hlt _ (vd hpos i)).frame λk hk _=>hb.block k hk.2)) (by simp) (Nat.le_trans hnc (Nat.le_trans hcm (by unfold maxLen;decide))) hbk
  (λj hj i v hv=>by
   have hj:j<xs.length:=by simpa using hj
   have e1:(List.range xs.length)[j]! = j:=by simp[hj]
   rw[e1]at hv;have hv:(css.getD (gC xs.length j) [])[i]? = some v:=hv;rw[rn hj]at hv;have:=hcell _ _ (rp css hk j i v hv);rwa [Addr.add_lit,<-Nat.add_assoc]at this)
 have hany:((List.range xs.length).take xs.length).any q=xs.any p:=by
  rw[List.take_of_length_le (by simp),Bool.eq_iff_iff,List.any_eq_true,List.any_eq_true];constructor
  ·rintro ⟨i,hi,h⟩
   rw[List.mem_range]at hi;have h:p (xs.getD (gC xs.length i) d)=true:=h;rw[rn hi]at h;refine⟨_, ?_,h⟩;rw[List.getD_eq_getElem?_getD,List.getElem?_eq_getElem hi];exact List.getElem_mem _
  ·rintro ⟨x,hx,h⟩
   obtain⟨i,hi,rfl⟩:=List.getElem_of_mem hx;refine⟨i,List.mem_range.2 hi, ?_⟩;show p (xs.getD (gC xs.length i) d)=true;rw[rn hi,List.getD_eq_getElem?_getD,List.getElem?_eq_getElem hi];exact h
 rw[hany]at key;exact key
end
end Go.Fw
