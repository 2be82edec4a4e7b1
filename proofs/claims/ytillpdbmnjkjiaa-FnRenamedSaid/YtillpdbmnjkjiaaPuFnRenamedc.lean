/- The plain part: what the functions compute, in lists and numbers. Nothing is assumed. -/
import Derived.Test.YtillpdbmnjkjiaaFwc
import Derived.Test.YtillpdbmnjkjiaaPuFnRenamedb
import Derived.Test.YtillpdbmnjkjiaaPuFnRenameda
noncomputable section
set_option linter.unusedVariables false
set_option linter.unusedSimpArgs false
set_option maxRecDepth 100000
namespace Go.Fw
section
variable {ρ:Type}
namespace z0o
def g (a b:List Int):Bool:=decide (a = b)
end z0o
namespace z0o
def Z1 {ρ:Type} (N:Nat) (a b:LI) (kn:LI→LI→Option ρ):Option ρ :=
 kn a b
def Z3 {ρ:Type} (N:Nat) (a b:LI) (kn:LI→LI→Option ρ) (kr:Bool→Option ρ):Option ρ :=
 cond (lk N (!(decide ((a.length:Int) = (b.length:Int)))))
 (
  kr false)
 (
  kn a b)
def Z6 {ρ:Type} (N:Nat) (a b:LI) (kn:LI→LI→I2 (Option ρ)):Option ρ :=
 kn a b (a.length:Int) 0
def Z9 {ρ:Type} (N:Nat) (b c:LI) (d a:Int) (kn:LI→LI→I2 (Option ρ)) (k0:Option ρ) (kr:Bool→Option ρ):Option ρ :=
 cond (lk N (decide (a < d)))
 (
  cond (lk N (inB a b.length)) (
   cond (lk N (inB a c.length)) (
    cond (lk N (!(decide ((b.getD a.toNat 0) = (c.getD a.toNat 0)))))
    (
     kr false)
    (
     kn b c d (w64 (a + 1)))) none) none)
 (
  k0)
def Z8L {ρ:Type} (N:Nat) (k0:Option ρ) (kr:Bool→Option ρ):Nat→LI→LI→Int→Int→Option ρ
 | 0,_,_,_,_=>none
 | M + 1,a,b,c,d=>Z9 N a b c d (fun a b c d=>Z8L N k0 kr M a b c d) k0 kr
def Z8 N a b c d k0 kr:=(Z8L N k0 kr N a b c d:Option ρ)
def Z7 N a b c d kn kr:=(Z8 N a b c d kn kr:Option ρ)
def Z5 N a b kn kr:=(Z6 N a b (fun a b c d=>Z7 N a b c d kn kr):Option ρ)
def Z10 {ρ:Type} (N:Nat)  (kr:Bool→Option ρ):Option ρ :=
 kr true
def Z4 N a b kr:=(Z5 N a b (Z10 N kr) kr:Option ρ)
def Z2 N a b kr:=(Z3 N a b (fun a b=>Z4 N a b kr) kr:Option ρ)
def Z0 N a b kr:=(Z1 N a b (fun a b=>Z2 N a b kr):Option ρ)
def Spec:Prop:=∀  (v0 v1:LI),Ty.bd (.sl 0 (.int .i64)) v0→Ty.bd (.sl 0 (.int .i64)) v1→∃ N0,∀ N,N0≤N→Z0 N v0 v1 (fun v4=>some ((),(v4,()))) = some ((),((g v0 v1),()))
theorem loop {ρ:Type} (N:Nat) (k0:Option ρ) (kr:Bool→Option ρ) (a b:List Int) (hl:a.length = b.length) (ha:a.length≤maxLen):∀ (M j:Nat),j≤a.length→a.length - j < M →
  Z8L N k0 kr M a b (a.length:Int) (j:Int) = if a.drop j = b.drop j then k0 else kr false:=by
 intro M
 induction M with
 | zero=>intro j _ h; omega
 | succ M ih =>
  intro j hj hM
  simp only [Z8L,Z9]
  by_cases h:j < a.length
  ·rw [ct (dt (by omega)),ct (z1b h),ct (z1b (by omega)),Int.toNat_natCast,z1c (by omega),ih (j + 1) h (by omega),z3z 0 h,z3z (l:=b) (j:=j) 0 (by omega)]
   by_cases e:a.getD j 0 = b.getD j 0
   ·rw [cf (nf e),e]
    simp only [List.cons.injEq,true_and]
   ·rw [ct (nt e),if_neg (by simp only [List.cons.injEq]; exact fun h=>e h.1)]
  ·rw [cf (df (by omega)),if_pos (by rw [List.drop_of_length_le (by omega),List.drop_of_length_le (by omega)])]
theorem ok:Spec:=fun a b ha hb=>⟨a.length + 1,fun N hN=>by
 simp only [Z1,Z3,Z6,Z9,Z8,Z7,Z5,Z10,Z4,Z2,Z0]
 by_cases hl:a.length = b.length
 ·rw [cf (nf (by omega))]
  rw [show (0:Int) = ((0:Nat):Int) from rfl,loop _ _ _ a b hl ha.1 N 0 (by omega) (by omega)]
  by_cases e:a = b <;> simp [e,g]
 ·rw [ct (nt (by omega))]
  have:a≠b:=fun e=>hl (by rw [e])
  simp [g,this]⟩
end z0o
end
end Go.Fw
namespace Go.Fw
section
variable {ρ:Type}
namespace z2p
def g (a b:Int × Int × List Int):Bool:=decide (a.1 = b.1) && (decide (a.2.1 = b.2.1) && decide (a.2.2 = b.2.2))
end z2p
namespace z2p
def Z0 {ρ:Type} (N:Nat) (a b:MT) (kr:Bool→Option ρ):Option ρ :=
 cond (lk N (decide (a.1 = b.1)))
 (
  cond (lk N (decide (a.2.1 = b.2.1)))
  (
   kr (lk N ((z0o.g a.2.2 b.2.2))))
  (
   kr false))
 (
  kr false)
def Spec:Prop:=∀  (v0 v1:MT),Ty.bd (.pair (.int .i64) (.pair (.int .i64) (.sl 0 (.int .i64)))) v0→Ty.bd (.pair (.int .i64) (.pair (.int .i64) (.sl 0 (.int .i64)))) v1→∃ N0,∀ N,N0≤N→Z0 N v0 v1 (fun v4=>some ((),(v4,()))) = some ((),((g v0 v1),()))
theorem ok:Spec:=fun a b ha hb=>⟨0,fun N hN=>by
 simp only [Z0,z1x,g,z0o.g]
 cases decide (a.1 = b.1)
 ·rfl
 ·cases decide (a.2.1 = b.2.1) <;> rfl⟩
end z2p
end
end Go.Fw
namespace Go.Fw
section
variable {ρ:Type}
namespace z38
def g (a b:Int × Int × List Int):Bool:=(z08.g a).2 && ((z08.g b).2 && z2p.g (z08.g a).1 (z08.g b).1)
end z38
namespace z38
def Z0 {ρ:Type} (N:Nat) (a b:MT) (kr:Bool→Option ρ):Option ρ :=
 cond (lk N ((z08.g a).2))
 (
  cond (lk N ((z08.g b).2))
  (
   kr (lk N ((z2p.g (z08.g a).1 (z08.g b).1))))
  (
   kr false))
 (
  kr false)
def Spec:Prop:=∀  (v0 v1:MT),Ty.bd (.pair (.int .i64) (.pair (.int .i64) (.sl 0 (.int .i64)))) v0→Ty.bd (.pair (.int .i64) (.pair (.int .i64) (.sl 0 (.int .i64)))) v1→∃ N0,∀ N,N0≤N→Z0 N v0 v1 (fun v4=>some ((),(v4,()))) = some ((),((g v0 v1),()))
theorem ok:Spec:=fun a b ha hb=>⟨0,fun N hN=>by
 simp only [Z0,z1x,g]
 cases (z08.g a).2
 ·rfl
 ·cases (z08.g b).2 <;> rfl⟩
end z38
end
end Go.Fw
namespace Go.Fw
section
variable {ρ:Type}
namespace z2t
def g (m:Int × Int × List Int):Int × Int × List Int:=if (z1l m && !decide (z6h m = [])) = true then z3l m else (0,0,[])
end z2t
namespace z2t
def Z0 {ρ:Type} (N:Nat) (a:MT) (kr:LI→I2 (Option ρ)):Option ρ :=
 cond (!(lk N ((z1o.g a))))
 (
  kr ([]:List Int) 0 0)
 (
  cond (lk N (leB 0 (w64 (a.1 * a.1)) && leB (w64 (a.1 * a.1)) a.2.2.length)) (
   cond (lk N (z0t.P (a.2.2.take (w64 (a.1 * a.1)).toNat))) (
    kr (z0t.g (a.2.2.take (w64 (a.1 * a.1)).toNat)) a.1 a.1) none) none)
def Spec:Prop:=∀  (v0:MT),Ty.bd (.pair (.int .i64) (.pair (.int .i64) (.sl 0 (.int .i64)))) v0→∃ N0,∀ N,N0≤N→Z0 N v0 (fun v2_2 v2_0 v2_1=>some ((),((v2_0,(v2_1,v2_2)),()))) = some ((),((g v0),()))
theorem ok:Spec:=fun m hb=>⟨0,fun N hN=>by
 simp only [Z0,z1x,g,z1o.g]
 cases h:(z1l m && !decide (z6h m = []))
 ·rfl
 ·have hd:z40 m = true:=by
   simp only [Bool.and_eq_true] at h
   have hs:=h.1
   simp only [z2c,z1l,Bool.and_eq_true] at hs
   first | exact hs.1.1 | exact hs.1
  obtain ⟨h1,h2,h3,h4⟩:=zn7 hd
  have hP:z0t.P (m.2.2.take (m.1 * m.1).toNat) = true:=dt (by rw [List.length_take]; omega)
  rw [h1,zfo h2,zfo h4,hP]
  rfl⟩
end z2t
end
end Go.Fw
namespace Go.Fw
section
variable {ρ:Type}
namespace z35
def g (m:Int × Int × List Int):Int × Int × List Int:=if (z2c m && !decide (z6h m = [])) = true then z3l m else (0,0,[])
end z35
namespace z35
def Z0 {ρ:Type} (N:Nat) (a:MT) (kr:LI→I2 (Option ρ)):Option ρ :=
 cond (!(lk N ((z31.g a))))
 (
  kr ([]:List Int) 0 0)
 (
  cond (lk N (leB 0 (w64 (a.1 * a.1)) && leB (w64 (a.1 * a.1)) a.2.2.length)) (
   cond (lk N (z2n.P (a.2.2.take (w64 (a.1 * a.1)).toNat))) (
    kr (z2n.g (a.2.2.take (w64 (a.1 * a.1)).toNat)) a.1 a.1) none) none)
def Spec:Prop:=∀  (v0:MT),Ty.bd (.pair (.int .i64) (.pair (.int .i64) (.sl 0 (.int .i64)))) v0→∃ N0,∀ N,N0≤N→Z0 N v0 (fun v2_2 v2_0 v2_1=>some ((),((v2_0,(v2_1,v2_2)),()))) = some ((),((g v0),()))
theorem ok:Spec:=fun m hb=>⟨0,fun N hN=>by
 simp only [Z0,z1x,g,z31.g]
 cases h:(z2c m && !decide (z6h m = []))
 ·rfl
 ·have hd:z40 m = true:=by
   simp only [Bool.and_eq_true] at h
   have hs:=h.1
   simp only [z2c,z1l,Bool.and_eq_true] at hs
   first | exact hs.1.1 | exact hs.1
  obtain ⟨h1,h2,h3,h4⟩:=zn7 hd
  have hP:z2n.P (m.2.2.take (m.1 * m.1).toNat) = true:=dt (by rw [List.length_take]; omega)
  rw [h1,zfo h2,zfo h4,hP]
  rfl⟩
end z35
end
end Go.Fw
namespace Go.Fw
theorem z2k.iok {m:Int × Int × List Int} {d:Nat→Int} (h:z2k m d):(z1l m && !decide (z6h m = [])) = true:=by rw [zdb]; exact h.ok
theorem zte {m:Int × Int × List Int} {d:Nat→Int} (h:z2k m d) {names:List Int} (hn:z49 names m.1 = true):z04.g m names = (z6j m names,true):=by
 unfold z04.g
 rw [h.iok,hn]
 rfl
theorem ztf {m:Int × Int × List Int} {d:Nat→Int} (h:z2k m d) {k:Nat} (hk:k < m.1.toNat):z1f.g m (k:Int) = if z2c (z6q m k) = true then (z6q m k,true) else ((0,0,[]),false):=by
 by_cases hs:z2c (z6q m k) = true
 ·rw [if_pos hs]
  exact zqw h hk hs
 ·rw [if_neg hs]
  unfold z1f.g
  rw [zdj,Int.toNat_natCast,if_neg]
  simp only [Bool.and_eq_true]
  exact fun e=>hs e.2.2
theorem zh8 {m:Int × Int × List Int} {d:Nat→Int} (h:z2k m d):z2t.g m = z3l m∧z35.g m = z3l m:=by
 unfold z2t.g z35.g
 rw [if_pos h.iok,if_pos h.ok]
 exact ⟨rfl,rfl⟩
theorem ztg {m:Int × Int × List Int} {d:Nat→Int} (h:z2k m d) (hsq:m.2.1 = m.1):z08.g m = (zwi m,true):=by
 unfold z08.g
 rw [h.iok,dt hsq,can_same h.dim hsq]
 rfl
theorem y6q {m:Int × Int × List Int} {d:Nat→Int} (h:z2k m d) {names:List Int} (hn:z49 names m.1 = true) :
  z08.g (z3l m) = (zwi (z3l m),true)∧z08.g (z3l (z6j m names)) = (zwi (z3l m),true)∧z38.g (z3l m) (z3l (z6j m names)) = true∧z06.g m = z06.g (z6j m names):=by
 have e1:=ztg h.square rfl
 have e2:=ztg (h.ren hn).square rfl
 have e3:zwi (z3l (z6j m names)) = zwi (z3l m):=by
  rw [zv8 h.dim hn]
  exact can_ren h.square.dim rfl hn
 rw [e3] at e2
 refine ⟨e1,e2, ?_, ?_⟩
 ·unfold z38.g
  rw [e1,e2]
  simp [z2p.g]
 ·rw [Bool.eq_iff_iff,zth h,zth (h.ren hn)]
  exact (acy_ren h hn).symm
theorem zx5 {m:Int × Int × List Int} {d:Nat→Int} (h:z2k m d) {L:List Nat} (h1:L.Nodup) (h2:∀ x ∈ L,x < m.1.toNat) (h3:L.length = m.1.toNat) (hn:z49 (z33 L) m.1 = true) {k:Nat} (hk:k < m.1.toNat) :
  z2c (z6j (z6q m k) (z33 L)) = z2c (z6q m k):=by
 have hd:=zaj h.dim k
 have hg:=zaz h.dim hk h.good
 have es:=zva hd h1 h2 h3
 rw [Bool.eq_iff_iff]
 constructor
 ·intro e
  have:=z1w e
  rw [es] at this
  exact z2k.sizes (d:=d) ⟨this,hg⟩
 ·intro e
  exact (z2k.ren (d:=d) ⟨z1w e,hg⟩ hn).sizes
end Go.Fw
namespace Go.Fw
section
variable {ρ:Type}
namespace z6y
def g (b:List Int):Bool:=decide (1048576 < (b.length:Int))
end z6y
namespace z6y
def Z0 {ρ:Type} (N:Nat) (a:List Int) (kr:Bool→Option ρ):Option ρ :=
 kr (lk N (decide (1048576 < (a.length:Int))))
def Spec:Prop:=∀  (v0:List Int),Ty.bd (.sl 0 (.int .u8)) v0→∃ N0,∀ N,N0≤N→Z0 N v0 (fun v2=>some ((),(v2,()))) = some ((),((g v0),()))
theorem ok:Spec:=fun b hb=>⟨0,fun N hN=>by
 simp only [Z0,z1x,g]⟩
end z6y
end
end Go.Fw
namespace Go.Fw
section
variable {ρ:Type}
namespace z1h
def hstep (h x:Int):Int:=za3 .and .i64 (w64 (w64 (w64 (h * 131) + w64 x) + 7)) 1073741823
def g (b:List Int):Int × Int:=(0,(b.take 4000).foldl hstep (w64 (124929 + (b.length:Int))))
end z1h
namespace z1h
def Z1 {ρ:Type} (N:Nat) (a:List Int) (kn:List Int→Option ρ):Option ρ :=
 kn a
def Z3 {ρ:Type} (N:Nat) (a:List Int) (kn:List Int→Int→Option ρ):Option ρ :=
 kn a (w64 (124929 + (a.length:Int)))
def Z6 {ρ:Type} (N:Nat) (a:List Int) (b:Int) (kn:List Int→I2 (Option ρ)):Option ρ :=
 kn a b 0
def Z9 {ρ:Type} (N:Nat) (a:List Int) (c b:Int) (kn:List Int→I2 (Option ρ)) (k0:List Int→Int→Option ρ):Option ρ :=
 cond (lk N (decide (b < (a.length:Int))))
 (
  cond (lk N (decide (b < 4000)))
  (
   cond (lk N (inB b a.length)) (
    kn a (za3 .and .i64 (w64 ((w64 ((w64 (c * 131)) + (w64 ((a.getD b.toNat 0))))) + 7)) 1073741823) (w64 (b + 1))) none)
  (
   k0 a c))
 (
  k0 a c)
def Z8L {ρ:Type} (N:Nat) (k0:List Int→Int→Option ρ):Nat→List Int→Int→Int→Option ρ
 | 0,_,_,_=>none
 | M + 1,a,b,c=>Z9 N a b c (fun a b c=>Z8L N k0 M a b c) k0
def Z8 N a b c k0:=(Z8L N k0 N a b c:Option ρ)
def Z7 N a b c kn:=(Z8 N a b c kn:Option ρ)
def Z5 N a b kn:=(Z6 N a b (fun a b c=>Z7 N a b c kn):Option ρ)
def Z10 {ρ:Type} (N:Nat) (a:List Int) (b:Int) (kr:List Int→I2 (Option ρ)):Option ρ :=
 kr a 0 b
def Z4 N a b kr:=(Z5 N a b (fun a b=>Z10 N a b kr):Option ρ)
def Z2 N a kr:=(Z3 N a (fun a b=>Z4 N a b kr):Option ρ)
def Z0 N a kr:=(Z1 N a (fun a=>Z2 N a kr):Option ρ)
def Spec:Prop:=∀ {U:Type} (u:U) (v0:List Int),Ty.bd (.sl 0 (.int .u8)) v0→∃ N0,∀ N,N0≤N→Z0 N v0 (fun v31_0 v31_1 v31_2=>some (u,(v31_1,v31_2))) = some (u,(g v0))
theorem loop {ρ:Type} {N:Nat} (b:List Int) (k0:List Int→Int→Option ρ):∀ (M i:Nat) (h:Int),i≤(b.take 4000).length→(b.take 4000).length - i < M →
  Z8L N k0 M b h (i:Int) = k0 b (((b.take 4000).drop i).foldl hstep h):=by
 intro M
 induction M with
 | zero=>intro i h _ hM; omega
 | succ M ih =>
  intro i h hi hM
  have hL:(b.take 4000).length = min 4000 b.length:=List.length_take
  simp only [Z8L,Z9]
  by_cases hl:i < (b.take 4000).length
  ·have hlt:i < b.length:=by omega
   have hge:(b.take 4000).getD i 0 = b.getD i 0:=by
    rw [List.getD_eq_getElem?_getD,List.getD_eq_getElem?_getD,List.getElem?_take,if_pos (by omega)]
   rw [ct (dt (by omega)),ct (dt (by omega)),ct (z1b hlt),Int.toNat_natCast,z3z (l:=b.take 4000) 0 hl,hge,z1c (by rw [z0z]; omega)]
   exact ih (i + 1) _ hl (by omega)
  ·rw [List.drop_of_length_le (by omega)]
   by_cases hlt:i < b.length
   ·rw [ct (dt (by omega)),cf (df (by omega))]
    rfl
   ·rw [cf (df (by omega))]
    rfl
theorem ok:Spec:=fun u b hb=>⟨5000,fun N hN=>by
 simp only [Z0,Z1,Z2,Z3,Z4,Z5,Z6,Z7,Z8]
 refine (loop b _ N 0 _ (Nat.zero_le _) (by rw [List.length_take]; omega)).trans ?_
 rw [List.drop_zero]
 rfl⟩
end z1h
end
end Go.Fw
namespace Go.Fw
section
variable {ρ:Type}
namespace z0x
def mat (b:List Int):(Int × Int) × (Int × Int × List Int):=z0e.g b (z1p.g b (z1h.g b)).1 (z1p.g b (z1h.g b)).2
def nam (b:List Int):(Int × Int) × List Int:=z0v.g b (mat b).1 (mat b).2.1
def g (b:List Int):(Int × Int × List Int) × List Int × Int:=((mat b).2,(nam b).2,(z01.g b (nam b).1 (mat b).2.1).2)
end z0x
namespace z0x
def Z0 {ρ:Type} (N:Nat) (a:List Int) (kr:LI→LI→I3 (Option ρ)):Option ρ :=
 let x3_:=(z1p.g a (z1h.g a))
 let x0_:=(z0e.g a x3_.1 x3_.2)
 let x2_:=(lk N (z0v.P a x0_.1 x0_.2.1))
 let x4_:=(z0v.g a x0_.1 x0_.2.1)
 let x1_:=(
   cond (lk N (z01.P a x4_.1 x0_.2.1)) (
   kr x4_.2 x0_.2.2.2 (z01.g a x4_.1 x0_.2.1).2 x0_.2.1 x0_.2.2.1) none)
 cond (lk N (z1p.P a (z1h.g a))) (
 cond (lk N (z0e.P a x3_.1 x3_.2)) (
 z7e (
 bo (
 cond x2_ x1_ none))
 (
 z7e (
 cond x2_ (
 z7e x1_
 (
 bo x1_)) none)
 (
 z7e (
 cond x2_ x1_ none)
 (
 cond x2_ (
 bo x1_) none)))) none) none
def Spec:Prop:=∀  (v0:List Int),Ty.bd (.sl 0 (.int .u8)) v0→∃ N0,∀ N,N0≤N→Z0 N v0 (fun v3 v2_2 v4 v2_0 v2_1=>some ((),((v2_0,(v2_1,v2_2)),(v3,(v4,()))))) = some ((),((g v0).1,((g v0).2.1,((g v0).2.2,()))))
theorem cur0 {b:List Int} (h:b.length≤maxLen):z2l b (z1h.g b) = true:=by
 rw [zii]
 exact ⟨Int.le_refl 0,by show (0:Int)≤_; omega,h⟩
theorem ok:Spec:=fun b hb=>⟨0,fun N hN=>by
 have h0:=cur0 hb.1
 obtain ⟨h1,d1,n4,hsq⟩:=z1p.facts h0
 have p1:z1p.P b (z1h.g b) = true:=h0
 have h6:(z1p.g b (z1h.g b)).2.2.1≤6:=by omega
 have p2:z0e.P b (z1p.g b (z1h.g b)).1 (z1p.g b (z1h.g b)).2 = true:=by
  simp only [z0e.P,Bool.and_eq_true,decide_eq_true_eq]
  exact ⟨h1,d1,h6⟩
 have h2:z2l b (mat b).1 = true:=z0e.keep h1
 have d2:z40 (mat b).2 = true:=z0e.dim h1 d1 h6
 obtain ⟨n,q,hn,_,hn1,hn5,_⟩:=z17 d2
 have h3:z2l b (nam b).1 = true:=z0v.keep h2
 have p3:z0v.P b (mat b).1 (mat b).2.1 = true:=by
  simp only [z0v.P,Bool.and_eq_true,z3d]
  exact ⟨h2,by omega,by omega⟩
 have p4:z01.P b (nam b).1 (mat b).2.1 = true:=h3
 have e1:z0e.g b (z1p.g b (z1h.g b)).1 (z1p.g b (z1h.g b)).2 = mat b:=rfl
 have e2:z0v.g b (mat b).1 (mat b).2.1 = nam b:=rfl
 simp only [Z0,z1x,p1,p2,e1,p3,e2,p4,cond_true,z3h]
 rfl⟩
end z0x
end
end Go.Fw
namespace Go.Fw
section
variable {ρ:Type}
namespace z2h
def g (a b:List Int):Bool:=decide (a = b)
end z2h
namespace z2h
def Z1 {ρ:Type} (N:Nat) (a b:LI) (kn:LI→LI→Option ρ):Option ρ :=
 kn a b
def Z3 {ρ:Type} (N:Nat) (a b:LI) (kn:LI→LI→Option ρ) (kr:Bool→Option ρ):Option ρ :=
 cond (lk N (!(decide ((a.length:Int) = (b.length:Int)))))
 (
  kr false)
 (
  kn a b)
def Z6 {ρ:Type} (N:Nat) (a b:LI) (kn:LI→LI→Int→Option ρ):Option ρ :=
 kn a b 0
def Z9 {ρ:Type} (N:Nat) (b c:LI) (a:Int) (kn:LI→LI→Int→Option ρ) (k0:Option ρ) (kr:Bool→Option ρ):Option ρ :=
 cond (lk N (decide (a < (b.length:Int))))
 (
  cond (lk N (inB a b.length)) (
   cond (lk N (inB a c.length)) (
    cond (lk N (!(decide ((b.getD a.toNat 0) = (c.getD a.toNat 0)))))
    (
     kr false)
    (
     kn b c (w64 (a + 1)))) none) none)
 (
  k0)
def Z8L {ρ:Type} (N:Nat) (k0:Option ρ) (kr:Bool→Option ρ):Nat→LI→LI→Int→Option ρ
 | 0,_,_,_=>none
 | M + 1,a,b,c=>Z9 N a b c (fun a b c=>Z8L N k0 kr M a b c) k0 kr
def Z8 N a b c k0 kr:=(Z8L N k0 kr N a b c:Option ρ)
def Z7 N a b c kn kr:=(Z8 N a b c kn kr:Option ρ)
def Z5 N a b kn kr:=(Z6 N a b (fun a b c=>Z7 N a b c kn kr):Option ρ)
def Z10 {ρ:Type} (N:Nat)  (kr:Bool→Option ρ):Option ρ :=
 kr true
def Z4 N a b kr:=(Z5 N a b (Z10 N kr) kr:Option ρ)
def Z2 N a b kr:=(Z3 N a b (fun a b=>Z4 N a b kr) kr:Option ρ)
def Z0 N a b kr:=(Z1 N a b (fun a b=>Z2 N a b kr):Option ρ)
def Spec:Prop:=∀  (v0 v1:LI),Ty.bd (.sl 0 (.int .i64)) v0→Ty.bd (.sl 0 (.int .i64)) v1→∃ N0,∀ N,N0≤N→Z0 N v0 v1 (fun v4=>some ((),(v4,()))) = some ((),((g v0 v1),()))
theorem loop {ρ:Type} (N:Nat) (k0:Option ρ) (kr:Bool→Option ρ) (a b:List Int) (hl:a.length = b.length) (ha:a.length≤maxLen):∀ (M j:Nat),j≤a.length→a.length - j < M →
  Z8L N k0 kr M a b (j:Int) = if a.drop j = b.drop j then k0 else kr false:=by
 intro M
 induction M with
 | zero=>intro j _ h; omega
 | succ M ih =>
  intro j hj hM
  simp only [Z8L,Z9]
  by_cases h:j < a.length
  ·rw [ct (dt (by omega)),ct (z1b h),ct (z1b (by omega)),Int.toNat_natCast,z1c (by omega),ih (j + 1) h (by omega),z3z 0 h,z3z (l:=b) (j:=j) 0 (by omega)]
   by_cases e:a.getD j 0 = b.getD j 0
   ·rw [cf (nf e),e]
    simp only [List.cons.injEq,true_and]
   ·rw [ct (nt e),if_neg (by simp only [List.cons.injEq]; exact fun h=>e h.1)]
  ·rw [cf (df (by omega)),if_pos (by rw [List.drop_of_length_le (by omega),List.drop_of_length_le (by omega)])]
theorem ok:Spec:=fun a b ha hb=>⟨a.length + 1,fun N hN=>by
 simp only [Z1,Z3,Z6,Z9,Z8,Z7,Z5,Z10,Z4,Z2,Z0]
 by_cases hl:a.length = b.length
 ·rw [cf (nf (by omega))]
  rw [show (0:Int) = ((0:Nat):Int) from rfl,loop _ _ _ a b hl ha.1 N 0 (by omega) (by omega)]
  by_cases e:a = b <;> simp [e,g]
 ·rw [ct (nt (by omega))]
  have:a≠b:=fun e=>hl (by rw [e])
  simp [g,this]⟩
end z2h
end
end Go.Fw
namespace Go.Fw
section
variable {ρ:Type}
namespace z2m
def g (a b:Int × Int × List Int):Bool:=decide (a = b)
end z2m
namespace z2m
def Z0 {ρ:Type} (N:Nat) (a b:MT) (kr:Bool→Option ρ):Option ρ :=
 cond (lk N (decide (a.1 = b.1)))
 (
  cond (lk N (decide (a.2.1 = b.2.1)))
  (
   kr (lk N ((z2h.g a.2.2 b.2.2))))
  (
   kr false))
 (
  kr false)
def Spec:Prop:=∀  (v0 v1:MT),Ty.bd (.pair (.int .i64) (.pair (.int .i64) (.sl 0 (.int .i64)))) v0→Ty.bd (.pair (.int .i64) (.pair (.int .i64) (.sl 0 (.int .i64)))) v1→∃ N0,∀ N,N0≤N→Z0 N v0 v1 (fun v4=>some ((),(v4,()))) = some ((),((g v0 v1),()))
theorem ok:Spec:=fun a b ha hb=>⟨0,fun N hN=>by
 obtain ⟨a1,a2,a3⟩:=a
 obtain ⟨b1,b2,b3⟩:=b
 simp only [Z0,z1x,g,z2h.g]
 by_cases h1:a1 = b1
 ·by_cases h2:a2 = b2
  ·by_cases h3:a3 = b3 <;> simp [h1,h2,h3]
  ·simp [h1,h2]
 ·simp [h1]⟩
end z2m
end
end Go.Fw
namespace Go.Fw
section
variable {ρ:Type}
namespace z18
def g (_:List Int):Bool:=true
end z18
namespace z18
def Z1 {ρ:Type} (N:Nat) (a:List Int) (kn:List Int→Option ρ):Option ρ :=
 kn a
def Z3 {ρ:Type} (N:Nat) (a:List Int) (kn:List Int→Option ρ) (kr:Bool→Option ρ):Option ρ :=
 cond (lk N ((z6y.g a)))
 (
  kr true)
 (
  kn a)
def Z5 {ρ:Type} (N:Nat) (a:List Int) (kn:LI→LI→I3 (Option ρ)):Option ρ :=
 kn (z0x.g a).2.1 (z0x.g a).1.2.2 (z0x.g a).2.2 (z0x.g a).1.1 (z0x.g a).1.2.1
def Z7 {ρ:Type} (N:Nat) (a b:LI) (e c d:Int) (kn:LI→LI→LI→Int→Bool→I4 (Option ρ)):Option ρ :=
 kn a b (z04.g (c,(d,b)) a).1.2.2 e (lk N ((z04.g (c,(d,b)) a).2)) c d (z04.g (c,(d,b)) a).1.1 (z04.g (c,(d,b)) a).1.2.1
def Z9 {ρ:Type} (N:Nat) (e a f:LI) (b:Int) (h:Bool) (c d i j:Int) (kn:LI→LI→LI→LI→Int→Bool→Bool→I6 (Option ρ)):Option ρ :=
 kn e a f (z1f.g (c,(d,a)) b).1.2.2 b h (lk N ((z1f.g (c,(d,a)) b).2)) c d i j (z1f.g (c,(d,a)) b).1.1 (z1f.g (c,(d,a)) b).1.2.1
def Z11 {ρ:Type} (N:Nat) (d e a f:LI) (h:Int) (i j:Bool) (l m b c o p:Int) (kn:LI→LI→LI→LI→Int→Bool→I6 (Option ρ)) (kr:Bool→Option ρ):Option ρ :=
 cond (!(i))
 (
  kr false)
 (
  cond (!(lk N ((z2m.g (z2t.g (b,(c,a))) (z35.g (b,(c,a)))))))
  (
   kr false)
  (
   kn d e a f h j l m b c o p))
def Z12 {ρ:Type} (N:Nat) (a e b f:LI) (h:Int) (i:Bool) (j l c d m o:Int) (kr:Bool→Option ρ):Option ρ :=
 let x2_:=(z2t.g (j,(l,e)))
 let x3_:=(z2t.g (c,(d,b)))
 let x4_:=(z1f.g (c,(d,b)) (a.getD h.toNat 0))
 let x0_:=(
   cond (lk N ((z08.g x2_).2))
   (
   cond (lk N ((z08.g x3_).2))
   (
   cond (lk N ((z2m.g (z08.g x2_).1 (z08.g x3_).1)))
   (
   cond (lk N ((z38.g x2_ x3_)))
   (
   kr (lk N (((lk N ((z06.g (j,(l,e))))) == (lk N ((z06.g (c,(d,b)))))))))
   (
   kr false))
   (
   kr false))
   (
   kr false))
   (
   kr false))
 let x1_:=(
   z7e (
   z7e (
   bo x0_)
   (
   bo (
   bo x0_)))
   (
   bo (
   z7e (
   bo x0_)
   x0_)))
 cond (lk N (inB h a.length)) (
 bo (
 cond (lk N (!((i == (lk N (x4_.2))))))
 (
 kr false)
 (
 cond (i)
 (
 cond (!(lk N ((z04.g (m,(o,f)) a).2)))
 (
 kr false)
 (
 cond (!(lk N ((z2m.g x4_.1 (z04.g (m,(o,f)) a).1))))
 (
 kr false)
 x1_))
 x1_))) none
def Z10 N a b c d e o f g h i j l m kr:=(Z11 N a b c d e o f g h i j l m (fun a b c d e f g h i j l m=>Z12 N a b c d e f g h i j l m kr) kr:Option ρ)
def Z8 N a b c d e f g h i kr:=(Z9 N a b c d e f g h i (fun a b c j d e l f g h i m o=>Z10 N a b c j d e l f g h i m o kr):Option ρ)
def Z6 N a b c d e kr:=(Z7 N a b c d e (fun a b f c g d e h i=>Z8 N a b f c g d e h i kr):Option ρ)
def Z4 N a kr:=(Z5 N a (fun b c d e f=>Z6 N b c d e f kr):Option ρ)
def Z2 N a kr:=(Z3 N a (fun a=>Z4 N a kr) kr:Option ρ)
def Z0 N a kr:=(Z1 N a (fun a=>Z2 N a kr):Option ρ)
def Spec:Prop:=∀  (v0:List Int),Ty.bd (.sl 0 (.int .u8)) v0→∃ N0,∀ N,N0≤N→Z0 N v0 (fun v2=>some ((),(v2,()))) = some ((),((g v0),()))
theorem ok:Spec:=fun b hb=>⟨0,fun N hN=>by
 simp only [Z1,Z3,Z5,Z7,Z9,Z11,Z12,Z10,Z8,Z6,Z4,Z2,Z0]
 cases hbig:z6y.g b
 ·rw [cf rfl]
  have h0:=z0x.cur0 hb.1
  obtain ⟨c1,d1,n4,hsq⟩:=z1p.facts h0
  obtain ⟨d,hR0⟩:=matrixD h0
  have hR:z2k (z0x.mat b).2 d:=frozenD hR0 c1 (by omega)
  have enm:(z0x.g b).2.1 = (z0x.nam b).2:=rfl
  have em:(z0x.g b).1 = (z0x.mat b).2:=rfl
  have ek:(z0x.g b).2.2 = (z01.g b (z0x.nam b).1 (z0x.mat b).2.1).2:=rfl
  obtain ⟨n,r,hn,hr,hn1,hn5,hnr,hr8,hl⟩:=z17 hR.dim
  have hnam:z49 (z0x.nam b).2 (z0x.mat b).2.1 = true:=by
   rw [hn]
   unfold z0x.nam
   rw [hn]
   exact z0v.names n
  have hk:=z01.range (b:=b) (r:=(z0x.nam b).1) (n:=(z0x.mat b).2.1) (by omega) (by omega)
  rw [enm,em,ek]
  generalize (z01.g b (z0x.nam b).1 (z0x.mat b).2.1).2 = kk at hk
  generalize (z0x.nam b).2 = names at hnam
  generalize (z0x.mat b).2 = m at hR hn hr hl hnam hk
  obtain ⟨k,rfl⟩:=Int.eq_ofNat_of_zero_le hk.1
  have hk:k < m.1.toNat:=by omega
  obtain ⟨L,rfl,h1,h2,h3⟩:=z6d hnam
  have hRa:=hR.ren hnam
  have hx:=h2 _ (z1m (l:=L) (j:=k) 0 (by omega))
  have e0:((m.1,(m.2.1,m.2.2)):Int × Int × List Int) = m:=rfl
  have ea:(((z6j m (z33 L)).1,((z6j m (z33 L)).2.1,(z6j m (z33 L)).2.2)):Int × Int × List Int) = z6j m (z33 L):=rfl
  have eb:(((z6q m k).1,((z6q m k).2.1,(z6q m k).2.2)):Int × Int × List Int) = z6q m k:=rfl
  have E1:=zte hR hnam
  have E2:=ztf hR hk
  have E3:=ztf hRa (k:=L.getD k 0) hx
  rw [mut_ren hR.dim h1 h2 h3 hk,zx5 hR h1 h2 h3 hnam hk] at E3
  obtain ⟨A1,A2,A3,A4⟩:=y6q hR hnam
  have S1:=(zh8 hR).1
  obtain ⟨S2,S3⟩:=zh8 hRa
  have I1:inB (k:Int) (z33 L).length = true:=z1b (by rw [z20]; omega)
  have R1:z2m.g (z3l (z6j m (z33 L))) (z3l (z6j m (z33 L))) = true:=dt rfl
  have R2:z2m.g (zwi (z3l m)) (zwi (z3l m)) = true:=dt rfl
  have R3:z2m.g (z6j (z6q m k) (z33 L)) (z6j (z6q m k) (z33 L)) = true:=dt rfl
  cases hz:z2c (z6q m k)
  ·rw [hz] at E2 E3
   simp only [Bool.false_eq_true,if_false] at E2 E3
   simp only [z1x,e0,E1,ea,E2,S2,S3,R1,I1,Int.toNat_natCast,z3m,E3,beq_self_eq_true,Bool.not_true,Bool.not_false,cond_true,cond_false,S1,A1,A2,R2,A3,A4,bo,z3h]
   rfl
  ·rw [hz] at E2 E3
   simp only [if_true] at E2 E3
   have E4:=zte (hR.mut hk hz) (names:=z33 L) hnam
   simp only [z1x,e0,E1,ea,E2,eb,S2,S3,R1,I1,Int.toNat_natCast,z3m,E3,E4,R3,beq_self_eq_true,Bool.not_true,Bool.not_false,cond_true,cond_false,S1,A1,A2,R2,A3,A4,bo,z3h]
   rfl
 ·rw [ct rfl]; rfl⟩
end z18
end
end Go.Fw
