/- The framework: functions of the library that are met by their contracts. Nothing is assumed. -/
import Derived.Test.YtillpdbmnjkjiaaFwb
import Derived.Test.YtillpdbmnjkjiaaFwc
import Derived.Shelf.Spec.SlicesInsertGrow
set_option linter.unusedVariables false
set_option linter.unusedSimpArgs false
namespace Go.Fw
open Go.RowKit Go.Proofs Go.Shelf
theorem zt3 {w:World} {e:Nat} {k:IntKind} {L:List Nat} {cs:List Value} {xs:List Int} (h:Own w (.sl e (.int k)) L cs xs) :
  ∃ v,cs = [v]∧w.ownsRow 0 e 1 v xs.length (xs.map (Value.int k))∧L = v.ownBlock.toList:=by
 obtain ⟨v,css,Ls,h1,h2,h3,h4⟩:=h
 have key:∀ {Ls:List (List Nat)} {css:List (List Value)} {xs:List Int},z4k (fun l c y=>Own w (.int k) l c y) Ls css xs→css.flatten = xs.map (Value.int k)∧Ls.flatten = []:=by
  intro Ls
  induction Ls with
  | nil =>
   intro css xs h
   cases css <;> cases xs
   ·exact ⟨rfl,rfl⟩
   all_goals exact h.elim
  | cons l Ls ih =>
   intro css xs h
   cases css <;> cases xs
   ·exact h.elim
   ·exact h.elim
   ·exact h.elim
   ·obtain ⟨⟨rfl,rfl⟩,h⟩:=h
    obtain ⟨i1,i2⟩:=ih h
    exact ⟨by simp [i1],by simp [i2]⟩
 obtain ⟨k1,k2⟩:=key h4
 rw [k1] at h2
 rw [k2,List.append_nil] at h3
 exact ⟨v,h1,h2,h3⟩
theorem ints_own {w:World} {e:Nat} {k:IntKind} {v:Value} {xs:List Int} (h:w.ownsRow 0 e 1 v xs.length (xs.map (Value.int k))):Own w (.sl e (.int k)) v.ownBlock.toList [v] xs:=by
 refine ⟨v,xs.map fun x=>[Value.int k x],xs.map fun _=>[],rfl, ?_, ?_, ?_⟩
 ·have:(xs.map fun x=>[Value.int k x]).flatten = xs.map (Value.int k):=by
   clear h
   induction xs with
   | nil=>rfl
   | cons x xs ih=>simp [ih]
  rw [this]
  exact h
 ·have:(xs.map fun _=>([]:List Nat)).flatten = []:=by
   clear h
   induction xs with
   | nil=>rfl
   | cons x xs ih=>simp
  rw [this,List.append_nil]
 ·clear h
  induction xs with
  | nil=>trivial
  | cons x xs ih=>exact ⟨⟨rfl,rfl⟩,ih⟩
def zvb {α:Type} (A:List α) (o:Nat) (V:List α):List α:=A.take o ++ V ++ A.drop (o + V.length)
theorem zg9 {α:Type} {p m t V:List α} {o:Nat} (hp:p.length = o) (hm:m.length = V.length):zvb (p ++ (m ++ t)) o V = p ++ (V ++ t):=by
 unfold zvb
 subst hp
 rw [List.take_left,List.drop_append,List.drop_of_length_le (by omega),List.append_assoc]
 congr 2
 rw [show p.length + V.length - p.length = V.length by omega,← hm,List.drop_left]
 rfl
theorem z5z {g:Nat}:∀ (vs:List Value) (o:Nat) (w:World) (k:Nat),k≠g→(w.setCells g o vs).heap[k]? = w.heap[k]?
 | [],_,_,_,_=>rfl
 | v :: r,o,w,k,hk=>by
  rw [World.setCells,z5z r (o + 1) _ k hk]
  exact heap_setCell_other w ⟨g,o,none⟩ k v hk
theorem z4x (g:Nat):∀ (vs:List Value) (o:Nat) (w:World),(w.setCells g o vs).os = w.os∧(w.setCells g o vs).tape = w.tape∧(w.setCells g o vs).output = w.output∧(w.setCells g o vs).heap.size = w.heap.size
 | [],_,_=>⟨rfl,rfl,rfl,rfl⟩
 | v :: r,o,w=>by
  obtain ⟨h1,h2,h3,h4⟩:=z4x g r (o + 1) (w.setCell ⟨g,o,none⟩ v)
  rw [World.setCells]
  exact ⟨h1,h2,h3,by rw [h4]; simp [World.setCell]⟩
theorem z5y {g:Nat} {e:TypeId}:∀ (vs:List Value) (o:Nat) (w:World) (cur:Array Value),w.heap[g]? = some (.cells cur e (0,0))→o + vs.length≤cur.size →
  ∃ cur':Array Value,(w.setCells g o vs).heap[g]? = some (.cells cur' e (0,0))∧cur'.size = cur.size∧cur'.toList = zvb cur.toList o vs
 | [],o,w,cur,h,_=>⟨cur,h,rfl,by simp [zvb]⟩
 | v :: r,o,w,cur,h,hl=>by
  simp only [List.length_cons] at hl
  obtain ⟨cur',h3,h4,h5⟩:=z5y r (o + 1) (w.setCell ⟨g,o,none⟩ v) (cur.setIfInBounds o v) (heap_setCell_same w g o cur e v h) (by simp; omega)
  refine ⟨cur',h3,by rw [h4]; simp, ?_⟩
  have hlen:o < cur.toList.length:=by rw [Array.length_toList]; omega
  rw [h5,Array.toList_setIfInBounds]
  have e1:cur.toList = cur.toList.take o ++ ([cur.toList[o]] ++ cur.toList.drop (o + 1)):=by
   rw [List.singleton_append,← List.drop_eq_getElem_cons hlen,List.take_append_drop]
  have e2:cur.toList.set o v = cur.toList.take o ++ ([v] ++ cur.toList.drop (o + 1)):=by
   rw [List.set_eq_take_append_cons_drop,if_pos hlen]
   rfl
  rw [e2]
  unfold zvb
  simp only [List.length_cons]
  have hp:(cur.toList.take o ++ [v]).length = o + 1:=by simp; omega
  rw [← List.append_assoc,List.take_left' hp,List.drop_append,List.drop_of_length_le (by omega),hp,show o + 1 + r.length - (o + 1) = r.length by omega,List.drop_drop,
   show o + 1 + r.length = o + (r.length + 1) by omega]
  simp
section
variable {P:Program} {ρ:Ren}
theorem ins_row {w:World} {e g n c:Nat} {cur:Array Value} {cs:List Value} (hb:w.heap[g]? = some (.cells cur e (0,0))) (hc:n≤c) (hcm:c≤maxLen) (hs:cur.size = c) (ht:cur.toList.take n = cs) (hn:cs.length = n):w.ownsRow 0 e 1 (.slice (some ⟨g,0,none⟩) n c) n cs :=
 ⟨by omega,.inr ⟨g,c,cur,rfl,Nat.zero_le _,hb,hc,hcm,by omega,by rw [Nat.mul_one]; exact ht⟩⟩
theorem zsu {α:Type} {A cs V D:List α} {i n m:Nat} (hA:n + m≤A.length) (hi:i≤n) (h1:A.take i = cs.take i) (hcs:cs.length = n) (hV:V.length = m) (hD:D = cs.drop i) :
  (zvb (zvb A (i + m) D) i V).take (n + m) = cs.take i ++ V ++ D∧(zvb (zvb A i V) (i + m) D).take (n + m) = cs.take i ++ V ++ D:=by
 have hDl:D.length = n - i:=by rw [hD,List.length_drop,hcs]
 have hl1:(A.take i).length = i:=by rw [List.length_take]; omega
 have e:A = A.take i ++ ((A.drop i).take m ++ ((A.drop (i + m)).take (n - i) ++ A.drop (n + m))):=by
  have e1:A.drop (n + m) = (A.drop (i + m)).drop (n - i):=by rw [List.drop_drop]; congr 1; omega
  rw [e1,List.take_append_drop]
  have e2:A.drop (i + m) = (A.drop i).drop m:=by rw [List.drop_drop]
  rw [e2,List.take_append_drop,List.take_append_drop]
 have hl2:((A.drop i).take m).length = m:=by rw [List.length_take,List.length_drop]; omega
 have hl3:((A.drop (i + m)).take (n - i)).length = n - i:=by rw [List.length_take,List.length_drop]; omega
 have fin:∀ X:List α,X = A.take i ++ (V ++ (D ++ A.drop (n + m)))→X.take (n + m) = cs.take i ++ V ++ D:=by
  intro X hX
  rw [hX,← List.append_assoc,← List.append_assoc,List.take_left' (by simp only [List.length_append,hl1,hV,hDl]; omega),h1]
 generalize A.drop (n + m) = T at e fin
 generalize (A.drop i).take m = M at e hl2
 generalize (A.drop (i + m)).take (n - i) = N at e hl3
 generalize A.take i = Q at e fin hl1
 subst e
 constructor
 ·refine fin _ ?_
  have h:zvb (Q ++ (M ++ (N ++ T))) (i + m) D = Q ++ (M ++ (D ++ T)):=by
   have:=zg9 (p:=Q ++ M) (m:=N) (t:=T) (V:=D) (o:=i + m) (by simp only [List.length_append,hl1,hl2]) (by omega)
   rw [← List.append_assoc,this,List.append_assoc]
  rw [h,zg9 hl1 (by omega)]
 ·refine fin _ ?_
  rw [zg9 hl1 (by omega)]
  have:=zg9 (p:=Q ++ V) (m:=N) (t:=T) (V:=D) (o:=i + m) (by simp only [List.length_append,hl1,hV]) (by omega)
  rw [← List.append_assoc,this,List.append_assoc]
theorem zyg [Inv P] (L:Lays2.n21 P ρ):z56 P (ρ.f 21) ⟨none,[⟨.sl (ρ.t 3) (.int .i64),false,true⟩,⟨.int .i64,false,false⟩,⟨.sl (ρ.t 3) (.int .i64),false,true⟩],[⟨.sl (ρ.t 3) (.int .i64),false,false⟩],
  some fun X=>insP X.2.1 X.2.2.1 X.2.2.2.1,fun X=>((),(ztc X.2.1 X.2.2.1 X.2.2.2.1,()))⟩:=by
 intro w args LL X ha hnd hlt hpre hI hBL
 obtain ⟨args⟩:=args
 obtain ⟨u,xs,i,ys,u'⟩:=X
 have hp:insP xs i ys = true:=hpre
 simp only [insP,Bool.and_eq_true,decide_eq_true_eq] at hp
 obtain ⟨p1,p2,p3,p4⟩:=hp
 have p1:=Nat.le_of_ble_eq_true p1
 have p3:0 < ys.length:=Nat.le_of_ble_eq_true p3
 have p4:xs.length + ys.length < 1099511627776:=Nat.le_of_ble_eq_true p4
 match args,ha with
 | [],ha=>exact ha.elim
 | [_],ha =>
  obtain ⟨_,_,_,_,_,_,ha⟩:=ha
  exact ha.elim
 | [_,_],ha =>
  obtain ⟨_,_,_,_,_,_,_,_,_,_,_,_,ha⟩:=ha
  exact ha.elim
 | _ :: _ :: _ :: _ :: _,ha =>
  obtain ⟨_,_,_,_,_,_,_,_,_,_,_,_,_,_,_,_,_,_,ha⟩:=ha
  exact ha.elim
 | [v1,v2,v3],ha =>
  obtain ⟨c1,L1,L1',rfl,a1,a2,c2,L2,L2',rfl,b1,b2,c3,L3,L3',rfl,d1,d2,d3⟩:=ha
  have a1:c1 = [v1]:=a1
  have b1:c2 = [v2]:=b1
  have d1:c3 = [v3]:=d1
  have d3:L3' = []:=d3
  subst a1 b1 d1 d3
  obtain ⟨v,e1,o1,l1⟩:=zt3 (show Own w (.sl (ρ.t 3) (.int .i64)) L1 [v1] xs from a2)
  obtain ⟨v',e3,o3,l3⟩:=zt3 (show Own w (.sl (ρ.t 3) (.int .i64)) L3 [v3] ys from d2)
  simp only [List.cons.injEq,and_true] at e1 e3
  subst e1 e3
  obtain ⟨rfl,hv2⟩:=(show L2 = []∧Rd w _ (.int .i64) [v2] i from b2)
  have hv2:v2 = .int .i64 i:=by
   have:[v2] = [Value.int .i64 i]:=hv2
   simpa using this
  obtain ⟨i,rfl⟩:=Int.eq_ofNat_of_zero_le p2
  simp only [Int.ofNat_eq_natCast,Int.toNat_natCast] at p1
  subst hv2
  obtain ⟨_,⟨_,h0⟩ | ⟨g2,k2,cur2,rfl,_,hb2,hk2,hm2,hs2,ht2⟩⟩:=o3
  ·omega
  have q1:∀ u ∈ xs.map (Value.int IntKind.i64),u.oneCell' = true:=fun u hu=>by
   obtain ⟨x,_,rfl⟩:=List.mem_map.1 hu
   rfl
  have q2:∀ u ∈ ys.map (Value.int IntKind.i64),u.oneCell' = true:=fun u hu=>by
   obtain ⟨x,_,rfl⟩:=List.mem_map.1 hu
   rfl
  have hys:∀ (j:Nat) (u:Value),(ys.map (Value.int IntKind.i64))[j]? = some u→w.cell? ⟨g2,0 + j,none⟩ = some u:=fun j u hu=>by
   rw [Nat.zero_add,cell_of_row w g2 j cur2 _ (0,0) hb2]
   rw [← ht2,List.getElem?_take] at hu
   split at hu
   ·simpa using hu
   ·cases hu
  have hmx:maxLen = 9223372036854775807:=rfl
  have hwant:(ztc xs (i:Nat) ys).length = xs.length + ys.length:=by
   simp only [ztc,List.length_append,List.length_take,List.length_drop,Int.toNat_natCast]
   omega
  have hmap:(ztc xs (i:Nat) ys).map (Value.int IntKind.i64) = (xs.map (Value.int IntKind.i64)).take i ++ ys.map (Value.int IntKind.i64) ++ (xs.map (Value.int IntKind.i64)).drop i:=by
   simp only [ztc,Int.toNat_natCast,List.map_append,List.map_take,List.map_drop]
  refine .inl ⟨by simp [callFunc,L.f21,Body2.n21], ?_⟩
  have fin:∀ (aa:List Value) (w':World) (g c:Nat) (cur:Array Value),w'.heap[g]? = some (.cells cur (ρ.t 3) (0,0))→xs.length + ys.length≤c→c≤maxLen→cur.size = c →
    cur.toList.take (xs.length + ys.length) = (xs.map (Value.int IntKind.i64)).take i ++ ys.map (Value.int IntKind.i64) ++ (xs.map (Value.int IntKind.i64)).drop i→(g ∈ L1∨w.heap.size≤g)→w'.os = w.os∧w'.tape = w.tape∧w'.output = w.output →
    w.heap.size≤w'.heap.size→(∀ k,k < w.heap.size→k≠g→w'.heap[k]? = w.heap[k]?)→∃ v vs Lf Lr,Ending.returned (.slice (some ⟨g,0,none⟩) (xs.length + ys.length) c) = .returned v ∧
     zv3 w ⟨none,[⟨.sl (ρ.t 3) (.int .i64),false,true⟩,⟨.int .i64,false,false⟩,⟨.sl (ρ.t 3) (.int .i64),false,true⟩],[⟨.sl (ρ.t 3) (.int .i64),false,false⟩],some fun X=>insP X.2.1 X.2.2.1 X.2.2.2.1,fun X=>((),(ztc X.2.1 X.2.2.1 X.2.2.2.1,()))⟩
      aa (L1 ++ ([] ++ (L3 ++ []))) ((),(ztc xs (i:Nat) ys,())) v w' vs Lf Lr:=by
   intro aa w' g c cur hb hc hcm hs ht hg ho hsz hold
   have hown:w'.ownsRow 0 (ρ.t 3) 1 (.slice (some ⟨g,0,none⟩) (xs.length + ys.length) c) (ztc xs (i:Nat) ys).length ((ztc xs (i:Nat) ys).map (Value.int .i64)):=by
    rw [hwant,hmap]
    refine ins_row hb hc hcm hs ht ?_
    rw [← hmap,List.length_map,hwant]
   refine ⟨_,[.slice (some ⟨g,0,none⟩) (xs.length + ys.length) c],[],[g],rfl,⟨rfl,⟨_,[g],[],rfl,rfl,ints_own hown,(fun h=>by cases h),rfl⟩,rfl,by simp, ?_, ?_,ho.1,ho.2.1,ho.2.2,hsz, ?_⟩⟩
   ·intro k hk
    simp only [List.append_nil,List.mem_singleton] at hk
    subst hk
    exact hg.imp (fun h=>List.mem_append_left _ h) id
   ·intro g p hp
    cases hp
   ·intro k hk hkL
    refine hold k hk fun e=>?_
    subst e
    rcases hg with h | h
    ·exact hkL (List.mem_append_left _ h)
    ·omega
  have hcsl:(xs.map (Value.int IntKind.i64)).length = xs.length:=List.length_map _
  have hvsl:(ys.map (Value.int IntKind.i64)).length = ys.length:=List.length_map _
  have hg2:g2 < w.heap.size:=(Array.getElem?_eq_some_iff.1 hb2).1
  have z1:(Value.int IntKind.i64 0).cells.size = 1:=rfl
  have zc:∀ n,(Builtin.zeroCells (Value.int IntKind.i64 0).cells n).size = n:=fun n=>by simp [Builtin.zeroCells,Value.cells]
  have grown:∀ c,xs.length + ys.length≤grownCap w (xs.length + ys.length) c (ρ.t 3)∧grownCap w (xs.length + ys.length) c (ρ.t 3)≤maxLen:=fun c=>⟨grownCap_ge w _ _ _,grownCap_le_maxLen w _ c (ρ.t 3) (by rw [hmx]; omega)⟩
  obtain ⟨_,⟨rfl,hx0⟩ | ⟨g,c,cur,rfl,_,hb,hc,hcm,hs,ht⟩⟩:=o1
  · -- nil
   have hxs:xs = []:=List.length_eq_zero_iff.1 hx0
   subst hxs
   have hi0:i = 0:=Nat.le_zero.1 p1
   subst hi0
   refine (Any2.slices_Insert_int_end_grow L none 0 0 g2 0 ys.length k2 [] (ys.map (Value.int .i64)) w p3 (Nat.le_refl _) (by omega) (by simp at p4; omega) rfl hvsl (fun _=>rfl) (fun a ha=>by cases ha) hys q2).mono ?_
   rintro e w' ⟨rfl,rfl⟩
   obtain ⟨h1,h2⟩:=grown 0
   refine fin _ _ _ _ _ (heap_alloc_new _ _) h1 h2 ?_ ?_ (.inr (Nat.le_refl _)) ⟨rfl,rfl,rfl⟩ (by show w.heap.size≤(w.heap.push _).size; simp) fun k hk hne=>heap_alloc_old _ _ hk
   ·simp only [List.length_nil] at h1 ⊢
    simp only [Array.size_append,zc,List.nil_append,List.size_toArray,hvsl]
    omega
   ·simp only [List.length_nil,List.map_nil,List.take_nil,List.drop_nil,List.nil_append,List.append_nil,Array.toList_append]
    rw [List.take_left' (by rw [hvsl]; omega)]
  ·rw [Nat.mul_one] at ht hs
   have hcur:∀ (j:Nat),j < c→(w.cell? ⟨g,0 + j,none⟩).isSome = true:=fun j hj=>by
    rw [Nat.zero_add,cell_of_row w g j cur _ (0,0) hb,Array.getElem?_eq_getElem (by omega)]
    rfl
   have hfz:∀ (j:Nat),w.frozen? ⟨g,0 + j,none⟩ = false:=fun j=>frozen_of_row w g (0 + j) cur _ hb
   have hxs:∀ (j:Nat) (u:Value),(xs.map (Value.int IntKind.i64))[j]? = some u→w.cell? ⟨g,0 + j,none⟩ = some u:=fun j u hu=>by
    rw [Nat.zero_add,cell_of_row w g j cur _ (0,0) hb]
    rw [← ht,List.getElem?_take] at hu
    split at hu
    ·simpa using hu
    ·cases hu
   have hgL:g ∈ L1:=by rw [l1]; simp [Value.ownBlock]
   have hne:g2≠g:=fun e=>by
    subst e
    have h3:g2 ∈ L3:=by rw [l3]; simp [Value.ownBlock]
    exact (List.nodup_append.1 hnd).2.2 g2 hgL g2 (List.mem_append_right _ (List.mem_append_left _ h3)) rfl
   have hgs:g < w.heap.size:=(Array.getElem?_eq_some_iff.1 hb).1
   have hi':i≤xs.length:=p1
   have htk:cur.toList.take i = (xs.map (Value.int IntKind.i64)).take i:=by rw [← ht,List.take_take,Nat.min_eq_left hi']
   have hcl:cur.toList.length = c:=by rw [Array.length_toList,hs]
   have hd:(xs.map (Value.int IntKind.i64)).drop i = (xs.map (Value.int IntKind.i64)).drop i:=rfl
   have hdl:((xs.map (Value.int IntKind.i64)).drop i).length = xs.length - i:=by rw [List.length_drop,hcsl]
   by_cases hin:i = xs.length
   ·subst hin
    by_cases hroom:xs.length + ys.length≤c
    ·refine (Any2.slices_Insert_int_end_room L g 0 xs.length c g2 0 ys.length k2 (ys.map (Value.int .i64)) w p3 hroom (by rw [hmx] at hcm; omega) hvsl (fun j hj=>by rw [Nat.zero_add,← Nat.zero_add (xs.length + j)]; exact hcur _ (by omega))
      (fun j hj=>by rw [Nat.zero_add,← Nat.zero_add (xs.length + j)]; exact hfz _) hys q2).mono ?_
     rintro e w' ⟨rfl,rfl⟩
     rw [Nat.zero_add]
     obtain ⟨cur',k1,k2,k3⟩:=z5y (ys.map (Value.int .i64)) xs.length w cur hb (by omega)
     obtain ⟨m1,m2,m3,m4⟩:=z4x g (ys.map (Value.int .i64)) xs.length w
     refine fin _ _ _ _ _ k1 hroom hcm (k2.trans hs) ?_ (.inl hgL) ⟨m1,m2,m3⟩ (by omega) fun k hk hne'=>z5z _ _ _ _ hne'
     rw [k3]
     unfold zvb
     rw [List.take_left' (by simp only [List.length_append,List.length_take,hcl,hvsl]; omega),ht,List.drop_of_length_le (by omega),List.append_nil,List.take_of_length_le (by omega)]
    ·refine (Any2.slices_Insert_int_end_grow L (some ⟨g,0,none⟩) xs.length c g2 0 ys.length k2 (xs.map (Value.int .i64)) (ys.map (Value.int .i64)) w p3 hc (by omega) (by omega) hcsl hvsl (fun h=>by cases h)
      (fun a ha j u hu=>by
       injection ha with ha
       subst ha
       have:=hxs j u hu
       rw [Nat.zero_add] at this
       rw [Addr.add_lit,Nat.zero_add]
       exact this) hys q2).mono ?_
     rintro e w' ⟨rfl,rfl⟩
     obtain ⟨h1,h2⟩:=grown c
     refine fin _ _ _ _ _ (heap_alloc_new _ _) h1 h2 ?_ ?_ (.inr (Nat.le_refl _)) ⟨rfl,rfl,rfl⟩ (by show w.heap.size≤(w.heap.push _).size; simp) fun k hk hne=>heap_alloc_old _ _ hk
     ·simp only [Array.size_append,zc,List.size_toArray,List.length_append,hvsl,hcsl]
      omega
     ·rw [Array.toList_append,List.take_left' (by simp only [List.length_append,hvsl,hcsl]),List.drop_of_length_le (by omega),List.append_nil,List.take_of_length_le (by omega)]
   ·have hlt':i < xs.length:=by omega
    by_cases hroom:xs.length + ys.length≤c
    ·refine (Any2.slices_Insert_int_shift L g 0 xs.length c i g2 0 ys.length k2 (xs.map (Value.int .i64)) (ys.map (Value.int .i64)) w hlt' p3 hroom (by rw [hmx] at hcm; omega) hne hcsl hvsl hxs (fun j hj=>hcur j (by omega)) (fun j hj=>hfz j) hys q1 q2
      (ρ.t 3) (ρ.t 3) cur2.size cur.size (by unfold World.shape?; rw [hb2]) (by unfold World.shape?; rw [hb]) (by omega) (frozen_of_row w g2 0 cur2 _ hb2) (frozen_of_row w g2 cur2.size cur2 _ hb2)).mono ?_
     rintro e w' ⟨rfl,rfl⟩
     rw [Nat.zero_add,Nat.zero_add]
     obtain ⟨cur1,k1,k2,k3⟩:=z5y ((xs.map (Value.int .i64)).drop i) (i + ys.length) w.drew cur hb (by omega)
     obtain ⟨m1,m2,m3,m4⟩:=z4x g ((xs.map (Value.int .i64)).drop i) (i + ys.length) w.drew
     obtain ⟨cur',j1,j2,j3⟩:=z5y (ys.map (Value.int .i64)) i _ cur1 k1 (by omega)
     obtain ⟨r1,r2,r3,r4⟩:=z4x g (ys.map (Value.int .i64)) i (w.drew.setCells g (i + ys.length) ((xs.map (Value.int .i64)).drop i))
     refine fin _ _ _ _ _ j1 hroom hcm (by omega) ?_ (.inl hgL) ⟨r1.trans m1,r2.trans m2,r3.trans m3⟩ (by rw [r4,m4]; exact Nat.le_refl _) fun k hk hne'=>(z5z _ _ _ _ hne').trans (z5z _ _ _ _ hne')
     rw [j3,k3]
     exact (zsu (n:=xs.length) (m:=ys.length) (by omega) hi' htk hcsl hvsl hd).1
    ·refine (Any2.slices_Insert_int_grow L g 0 xs.length c i g2 0 ys.length k2 (xs.map (Value.int .i64)) (ys.map (Value.int .i64)) w hlt' p3 hc (by omega) (by omega) hcsl hvsl hxs hys q1 q2).mono ?_
     rintro e w' ⟨rfl,rfl⟩
     obtain ⟨h1,h2⟩:=grown c
     generalize hG:grownCap w (xs.length + ys.length) c (ρ.t 3) = G at h1 h2
     generalize hR:((xs.map (Value.int IntKind.i64)).take i).toArray ++ Builtin.zeroCells (Value.int .i64 0).cells (xs.length + ys.length - i) ++ Builtin.zeroCells (Value.int .i64 0).cells (G - (xs.length + ys.length)) = ROW
     have hRs:ROW.size = G:=by
      rw [← hR]
      simp only [Array.size_append,zc,List.size_toArray,List.length_take,hcsl]
      omega
     have hRt:ROW.toList.take i = (xs.map (Value.int IntKind.i64)).take i:=by
      rw [← hR]
      simp only [Array.toList_append,List.append_assoc]
      rw [List.take_left' (by rw [List.length_take,hcsl]; omega)]
     have hR0:(w.alloc (.cells ROW (ρ.t 3))).drew.heap[w.heap.size]? = some (.cells ROW (ρ.t 3) (0,0)):=heap_alloc_new w _
     obtain ⟨cur1,k1,k2,k3⟩:=z5y (ys.map (Value.int .i64)) i (w.alloc (.cells ROW (ρ.t 3))).drew ROW hR0 (by omega)
     obtain ⟨m1,m2,m3,m4⟩:=z4x w.heap.size (ys.map (Value.int .i64)) i (w.alloc (.cells ROW (ρ.t 3))).drew
     obtain ⟨cur',j1,j2,j3⟩:=z5y ((xs.map (Value.int .i64)).drop i) (i + ys.length) ((w.alloc (.cells ROW (ρ.t 3))).drew.setCells w.heap.size i (ys.map (Value.int .i64))).drew cur1 k1 (by omega)
     obtain ⟨r1,r2,r3,r4⟩:=z4x w.heap.size ((xs.map (Value.int .i64)).drop i) (i + ys.length) ((w.alloc (.cells ROW (ρ.t 3))).drew.setCells w.heap.size i (ys.map (Value.int .i64))).drew
     refine fin _ _ _ _ _ j1 h1 h2 (by omega) ?_ (.inr (Nat.le_refl _)) ⟨r1.trans m1,r2.trans m2,r3.trans m3⟩ (by rw [r4]; show _≤(World.setCells _ _ _ _).heap.size; rw [m4]; show w.heap.size≤(w.heap.push _).size; simp) fun k hk hne'=>(z5z _ _ _ _ hne').trans ((z5z _ _ _ _ hne').trans (heap_alloc_old w _ hk))
     rw [j3,k3]
     exact (zsu (A:=ROW.toList) (n:=xs.length) (m:=ys.length) (by rw [Array.length_toList (xs:=ROW),hRs]; exact h1) hi' hRt hcsl hvsl hd).2
end
end Go.Fw
