/- The plain part: what the functions compute, in lists and numbers. Nothing is assumed. -/
import Derived.Test.YtillpdbmnjkjiaaFwc
import Derived.Lib.ItoaLen
import Derived.Lib.Join
noncomputable section
set_option linter.unusedVariables false
namespace Go.Fw
def z51:List Int→List Int→Bool
 | [],[]=>false
 | [],_ :: _=>true
 | _ :: _,[]=>false
 | x :: xs,y :: ys=>if x = y then z51 xs ys else decide (x < y)
def zf8:List Int→List Int→Int
 | [],[]=>0
 | [],_ :: _=>-1
 | _ :: _,[]=>1
 | x :: xs,y :: ys=>if x = y then zf8 xs ys else if x < y then -1 else 1
theorem znu:∀ a b:List Int,decide (zf8 a b < 0) = z51 a b
 | [],[]=>rfl
 | [],_ :: _=>rfl
 | _ :: _,[]=>rfl
 | x :: xs,y :: ys=>by
  rw [zf8,z51]
  by_cases h:x = y
  ·rw [if_pos h,if_pos h,znu xs ys]
  ·rw [if_neg h,if_neg h]
   by_cases h2:x < y
   ·rw [if_pos h2,dt h2]; rfl
   ·rw [if_neg h2,df h2]; rfl
def inK (n lo hi:Int):Bool:=decide (lo≤n) && decide (n≤hi)
def prevE (l:List (List Int × Int)):Nat→Option (List Int)
 | 0=>none
 | j + 1=>some (l.getD j ([],0)).1
end Go.Fw
namespace Go.Fw
def zq9 {α:Type} (n j:Nat) (F G:Nat→α):List α:=(List.range n).map fun i=>if i < j then F i else G i
section
variable {α:Type} {n j:Nat} {F G:Nat→α}
theorem zd0:(zq9 n j F G).length = n:=by simp [zq9]
theorem zt7 {i:Nat} (h:i < n) (d:α):((List.range n).map F).getD i d = F i:=by
 rw [List.getD_eq_getElem?_getD,List.getElem?_map,List.getElem?_range h]
 rfl
theorem upto_get {i:Nat} (h:i < n) (d:α):(zq9 n j F G).getD i d = if i < j then F i else G i:=zt7 h d
theorem zss (h:j < n):(zq9 n j F G).set j (F j) = zq9 n (j + 1) F G:=by
 apply List.ext_getElem?
 intro i
 by_cases hi:i < n
 ·by_cases e:j = i
  ·subst e
   rw [List.getElem?_set_self (by rw [zd0]; exact h)]
   simp [zq9,List.getElem?_map,List.getElem?_range h]
  ·rw [List.getElem?_set_ne e]
   simp only [zq9,List.getElem?_map,List.getElem?_range hi,Option.map_some]
   by_cases h1:i < j
   ·rw [if_pos h1,if_pos (by omega)]
   ·rw [if_neg h1,if_neg (by omega)]
 ·rw [List.getElem?_eq_none (by rw [List.length_set,zd0]; omega),List.getElem?_eq_none (by rw [zd0]; omega)]
theorem zmx:zq9 n 0 F G = (List.range n).map G:=by simp [zq9]
theorem zmz:zq9 n n F G = (List.range n).map F:=by
 unfold zq9
 apply List.map_congr_left
 intro i hi
 rw [if_pos (List.mem_range.1 hi)]
theorem zdh {l:List α} (d:α) (h:l.length = n):(List.range n).map (fun i=>l.getD i d) = l:=by
 apply List.ext_getElem?
 intro i
 by_cases hi:i < n
 ·rw [List.getElem?_map,List.getElem?_range hi,Option.map_some,List.getD_eq_getElem?_getD,List.getElem?_eq_getElem (by omega),Option.getD_some]
 ·rw [List.getElem?_eq_none (by simp; omega),List.getElem?_eq_none (by omega)]
end
end Go.Fw
namespace Go.Fw
theorem zq2 (x y:Int) (n:Nat) (hy:y = (n:Int)) (hn:n < 2147483648):0≤za3 .and .i64 x y∧za3 .and .i64 x y≤n:=by
 subst hy
 have e:za3 .and .i64 x (n:Int) = IntKind.i64.wrap ((BitVec.ofInt 64 x &&& BitVec.ofInt 64 (n:Int)).toNat:Int):=rfl
 have h1:(BitVec.ofInt 64 x &&& BitVec.ofInt 64 (n:Int)).toNat≤n:=by
  rw [BitVec.toNat_and]
  refine Nat.le_trans Nat.and_le_right ?_
  rw [BitVec.toNat_ofInt]
  omega
 rw [e]
 generalize (BitVec.ofInt 64 x &&& BitVec.ofInt 64 (n:Int)).toNat = k at h1
 have:IntKind.i64.wrap (k:Int) = (k:Int):=by
  simp [IntKind.wrap,IntKind.bits,IntKind.signed]
  omega
 rw [this]
 omega
def z2l (b:List Int) (r:Int × Int):Bool:=decide (0≤r.1) && (decide (r.1≤(b.length:Int)) && decide (b.length≤maxLen))
theorem zii {b:List Int} {r:Int × Int}:z2l b r = true↔0≤r.1∧r.1≤(b.length:Int)∧b.length≤maxLen:=by simp [z2l]
end Go.Fw
namespace Go.Fw
def atP (m:Int × Int × List Int) (i j:Int):Bool:=decide (0≤i) && (decide (0≤j) && (decide (0≤m.1) && decide (i * m.1 + j < (m.2.2.length:Int))))
def atK (m:Int × Int × List Int) (i j:Int):Int:=m.2.2.getD (i * m.1 + j).toNat 0
theorem zut {m:Int × Int × List Int} {i j:Int} (hl:m.2.2.length≤maxLen) (h:atP m i j = true):w64 (w64 (i * m.1) + j) = i * m.1 + j∧0≤i * m.1 + j∧i * m.1 + j < (m.2.2.length:Int):=by
 simp only [atP,Bool.and_eq_true,decide_eq_true_eq] at h
 obtain ⟨h1,h2,h3,h4⟩:=h
 have h5:0≤i * m.1:=Int.mul_nonneg h1 h3
 rw [z0z] at hl
 have e:w64 (i * m.1) = i * m.1:=z1g (by omega) (by omega)
 rw [e,z1g (by omega) (by omega)]
 exact ⟨rfl,by omega,h4⟩
def ent (m:Int × Int × List Int) (i j:Nat):Int:=m.2.2.getD (i * m.1.toNat + j) 0
theorem z9i {m:Int × Int × List Int} (h:0≤m.1) (i j:Nat):atK m (i:Int) (j:Int) = ent m i j:=by
 unfold atK ent
 congr 1
 obtain ⟨n,hn⟩:=Int.eq_ofNat_of_zero_le h
 rw [hn]
 norm_cast
def z40 (m:Int × Int × List Int):Bool:=inK m.1 1 5 && (inK m.2.1 m.1 8 && decide ((m.2.2.length:Int) = m.1 * m.2.1))
def entK (l:List Int):Bool:=l.all fun x=>inK x (-99) 99
def z1l (m:Int × Int × List Int):Bool:=z40 m && entK m.2.2
def zfn (a b:Int):Bool:=(decide (0 < a) == decide (b < 0)) && (decide (a = 0) == decide (b = 0))
def z2c (m:Int × Int × List Int):Bool:=z1l m && (List.range m.1.toNat).all fun i=>(List.range m.1.toNat).all fun j=>zfn (ent m i j) (ent m j i)
theorem z3d {n lo hi:Int}:inK n lo hi = true↔lo≤n∧n≤hi:=by simp [inK]
theorem z17 {m:Int × Int × List Int} (h:z40 m = true):∃ n r:Nat,m.1 = (n:Int)∧m.2.1 = (r:Int)∧1≤n∧n≤5∧n≤r∧r≤8∧m.2.2.length = r * n:=by
 simp only [z40,Bool.and_eq_true,z3d,decide_eq_true_eq] at h
 obtain ⟨⟨h1,h2⟩,⟨h3,h4⟩,h5⟩:=h
 obtain ⟨n,hn⟩:=Int.eq_ofNat_of_zero_le (show 0≤m.1 by omega)
 obtain ⟨r,hr⟩:=Int.eq_ofNat_of_zero_le (show 0≤m.2.1 by omega)
 refine ⟨n,r,hn,hr,by omega,by omega,by omega,by omega, ?_⟩
 rw [hn,hr,Int.mul_comm] at h5
 exact_mod_cast h5
theorem z87 {n r i j:Nat} (hi:i < r) (hj:j < n):i * n + j < r * n:=by
 have:=Nat.mul_le_mul_right n (show i + 1≤r from hi)
 rw [Nat.add_mul] at this
 omega
theorem zmg {m:Int × Int × List Int} (h:z40 m = true) {i j:Nat} (hi:i < m.2.1.toNat) (hj:j < m.1.toNat):atP m (i:Int) (j:Int) = true:=by
 obtain ⟨n,r,hn,hr,_,_,_,_,hl⟩:=z17 h
 have:=z87 (n:=n) (r:=r) (i:=i) (j:=j) (by omega) (by omega)
 simp only [atP,Bool.and_eq_true,decide_eq_true_eq,hn,hl]
 refine ⟨by omega,by omega,by omega, ?_⟩
 exact_mod_cast this
theorem y6o {l:List Int} (h:entK l = true) (i:Nat):-99≤l.getD i 0∧l.getD i 0≤99:=by
 by_cases hi:i < l.length
 ·have:=(List.all_eq_true.1 h) _ (z1m 0 hi)
  exact z3d.1 this
 ·rw [List.getD_eq_getElem?_getD,List.getElem?_eq_none (by omega),Option.getD_none]; omega
theorem z3q {j n:Nat} (h:j < n):(List.range n).drop j = j :: (List.range n).drop (j + 1):=by
 rw [z3z 0 (by simpa using h),List.getD_eq_getElem?_getD,List.getElem?_range h,Option.getD_some]
end Go.Fw
namespace Go.Fw
def zb4 (n:Int):ByteArray:=⟨(Lib.itoa n).toArray⟩
def lsd (u:Nat):List Int:=(Lib.decDigits u).reverse.map fun b=>(b.toNat:Int)
theorem u8_dig {t:Nat} (h:t < 10):((UInt8.ofNat (48 + t)).toNat:Int) = 48 + (t:Int):=by
 rw [UInt8.toNat_ofNat']
 omega
theorem znr {u:Nat} (h:u < 10):lsd u = [48 + (u:Int)]:=by
 rw [lsd,Lib.decDigits,dif_pos h]
 simp only [List.reverse_cons,List.reverse_nil,List.nil_append,List.map_cons,List.map_nil]
 rw [u8_dig h]
theorem zy0 {u:Nat} (h:¬ u < 10):lsd u = (48 + ((u % 10:Nat):Int)) :: lsd (u / 10):=by
 rw [lsd,Lib.decDigits,dif_neg h,List.reverse_append]
 simp only [List.reverse_cons,List.reverse_nil,List.nil_append,List.singleton_append,List.map_cons]
 rw [u8_dig (Nat.mod_lt _ (by omega))]
 rfl
theorem zdc (l:List UInt8):strOfNums (l.map fun b=>(b.toNat:Int)) = ⟨l.toArray⟩:=by
 unfold strOfNums
 rw [List.map_map]
 congr 2
 conv=>rhs; rw [← List.map_id l]
 apply List.map_congr_left
 intro b _
 simp
theorem nums_lsd (u:Nat):strOfNums (lsd u).reverse = ⟨(Lib.decDigits u).toArray⟩:=by
 rw [lsd,← List.map_reverse,List.reverse_reverse,zdc]
theorem nums_neg (u:Nat):strOfNums (45 :: (lsd u).reverse) = ⟨(45 :: Lib.decDigits u).toArray⟩:=by
 rw [lsd,← List.map_reverse,List.reverse_reverse]
 exact zdc (45 :: Lib.decDigits u)
theorem zst (k:Int):Int.tmod k 10 = if k < 0 then -((k.natAbs % 10:Nat):Int) else ((k.natAbs % 10:Nat):Int):=by
 split
 ·rename_i h
  obtain ⟨u,rfl⟩:∃ u:Nat,k = -(u:Int):=⟨k.natAbs,by omega⟩
  rw [Int.neg_tmod,Int.natAbs_neg,Int.natAbs_natCast]
  rfl
 ·rename_i h
  obtain ⟨u,rfl⟩:∃ u:Nat,k = (u:Int):=⟨k.toNat,by omega⟩
  rw [Int.natAbs_natCast]
  rfl
theorem tdiv_nat (k:Int):Int.tdiv k 10 = if k < 0 then -((k.natAbs / 10:Nat):Int) else ((k.natAbs / 10:Nat):Int):=by
 split
 ·rename_i h
  obtain ⟨u,rfl⟩:∃ u:Nat,k = -(u:Int):=⟨k.natAbs,by omega⟩
  rw [Int.neg_tdiv,Int.natAbs_neg,Int.natAbs_natCast]
  rfl
 ·rename_i h
  obtain ⟨u,rfl⟩:∃ u:Nat,k = (u:Int):=⟨k.toNat,by omega⟩
  rw [Int.natAbs_natCast]
  rfl
theorem w8_id {n:Int} (h0:0≤n) (h1:n < 256):w8 n = n:=by
 unfold w8
 rw [IntKind.wrap_u8]
 omega
theorem dig_pos {k:Int} (h:¬ Int.tmod k 10 < 0):w8 (w64 (48 + Int.tmod k 10)) = 48 + ((k.natAbs % 10:Nat):Int):=by
 have hm:k.natAbs % 10 < 10:=Nat.mod_lt _ (by omega)
 have e:Int.tmod k 10 = ((k.natAbs % 10:Nat):Int):=by
  rw [zst] at h ⊢
  split
  ·rename_i hk
   rw [if_pos hk] at h
   omega
  ·rfl
 rw [e,z1g (by omega) (by omega),w8_id (by omega) (by omega)]
theorem dig_neg {k:Int} (h:Int.tmod k 10 < 0):w8 (w64 (48 + w64 (0 - Int.tmod k 10))) = 48 + ((k.natAbs % 10:Nat):Int):=by
 have hm:k.natAbs % 10 < 10:=Nat.mod_lt _ (by omega)
 have e:Int.tmod k 10 = -((k.natAbs % 10:Nat):Int):=by
  rw [zst] at h ⊢
  split
  ·rfl
  ·rename_i hk
   rw [if_neg hk] at h
   omega
 have e1:w64 (0 - -((k.natAbs % 10:Nat):Int)) = ((k.natAbs % 10:Nat):Int):=by rw [z1g (by omega) (by omega)]; omega
 rw [e,e1,z1g (by omega) (by omega),w8_id (by omega) (by omega)]
theorem zc6 (k:Int):(Int.tdiv k 10).natAbs = k.natAbs / 10:=by
 rw [tdiv_nat]
 split <;> omega
end Go.Fw
namespace Go.Fw
end Go.Fw
namespace Go.Fw
def txt (l:List UInt8):ByteArray:=⟨l.toArray⟩
theorem txt_size (l:List UInt8):(txt l).size = l.length:=by simp [txt,ByteArray.size]
end Go.Fw
namespace Go.Fw
def z9l:List Int→Nat
 | []=>0
 | x :: xs=>Nat.gcd x.natAbs (z9l xs)
theorem zqz (l m:List Int):z9l (l ++ m) = Nat.gcd (z9l l) (z9l m):=by
 induction l with
 | nil=>simp [z9l]
 | cons x xs ih=>rw [List.cons_append,z9l,ih,z9l,Nat.gcd_assoc]
theorem zge (c:Int) (l:List Int):z9l (l.map fun x=>c * x) = c.natAbs * z9l l:=by
 induction l with
 | nil=>simp [z9l]
 | cons x xs ih=>rw [List.map_cons,z9l,ih,z9l,Int.natAbs_mul,Nat.gcd_mul_left]
theorem zgf {l:List Int} {x:Int} (h:x ∈ l):((z9l l:Nat):Int) ∣ x:=by
 induction l with
 | nil=>cases h
 | cons y ys ih =>
  rw [z9l]
  rcases List.mem_cons.1 h with e | e
  ·subst e; exact Int.ofNat_dvd_left.2 (Nat.gcd_dvd_left _ _)
  ·exact Int.dvd_trans (Int.natCast_dvd_natCast.2 (Nat.gcd_dvd_right _ _)) (ih e)
def zb3 (n:Nat) (A:Nat→Nat→Int) (d:Nat→Int):Prop:=∀ i,i < n→0 < d i∧∀ j,j < n→d i * A i j = -(d j * A j i)
def Prim (n:Nat) (A:Nat→Nat→Int) (d:Nat→Int):Prop:=∀ i,i < n→∃ L:List Nat,(∀ k ∈ L,k < n)∧z9l (L.map d) = 1∧∀ e,zb3 n A e→∀ k ∈ L,d i * e k = d k * e i
theorem zt0 {n:Nat} {A:Nat→Nat→Int} {d e:Nat→Int} (hd:zb3 n A d) (he:zb3 n A e) (pd:Prim n A d) {i:Nat} (hi:i < n):d i ∣ e i:=by
 obtain ⟨L,h1,h2,h3⟩:=pd i hi
 have h4:(L.map d).map (fun x=>e i * x) = (L.map e).map (fun x=>d i * x):=by
  rw [List.map_map,List.map_map]
  apply List.map_congr_left
  intro k hk
  show e i * d k = d i * e k
  rw [h3 e he k hk,Int.mul_comm]
 have h5:(e i).natAbs * 1 = (d i).natAbs * z9l (L.map e):=by rw [← h2,← zge,← zge,h4]
 exact Int.natAbs_dvd_natAbs.1 ⟨z9l (L.map e),by rw [← h5,Nat.mul_one]⟩
theorem good_one {n:Nat} {A:Nat→Nat→Int} {d e:Nat→Int} (hd:zb3 n A d) (he:zb3 n A e) (pd:Prim n A d) (pe:Prim n A e) {i:Nat} (hi:i < n):d i = e i:=by
 have h1:=zt0 hd he pd hi
 have h2:=zt0 he hd pe hi
 have:=(hd i hi).1
 have:=(he i hi).1
 exact Int.dvd_antisymm (by omega) (by omega) h1 h2
theorem zdk {n:Nat} {A:Nat→Nat→Int} {e:Nat→Int} (he:zb3 n A e) {i j:Nat} (hi:i < n) (hj:j < n) (h:A i j = 0):A j i = 0:=by
 have h1:=(he i hi).2 j hj
 rw [h,Int.mul_zero] at h1
 have h2:e j * A j i = 0:=by omega
 rcases Int.mul_eq_zero.1 h2 with h3 | h3
 ·have:=(he j hj).1; omega
 ·exact h3
theorem znd {a b e f p q:Int} (he:0 < e) (hf:0 < f) (h:a * f = b * e) (hg:e * p = -(f * q)):a * p = -(b * q):=by
 have h1:f * (a * p) = f * (-(b * q)):=by
  calc f * (a * p) = (a * f) * p:=by rw [← Int.mul_assoc,Int.mul_comm f a]
   _ = b * (e * p):=by rw [h,Int.mul_assoc]
   _ = f * (-(b * q)):=by rw [hg,Int.mul_neg,Int.mul_neg,Int.mul_left_comm]
 exact Int.eq_of_mul_eq_mul_left (by omega) h1
theorem zve {a b e f p q:Int} (hp:p≠0) (he:0 < e) (h:a * p = -(b * q)) (hg:e * p = -(f * q)) (hq:q≠0):a * f = b * e:=by
 have h1:q * (a * f) = q * (b * e):=by
  calc q * (a * f) = a * (f * q):=by rw [Int.mul_left_comm,Int.mul_comm q f]
   _ = a * -(e * p):=by rw [hg,Int.neg_neg]
   _ = e * (-(a * p)):=by rw [Int.mul_neg,Int.mul_neg,Int.mul_left_comm]
   _ = q * (b * e):=by rw [h,Int.neg_neg,Int.mul_left_comm,Int.mul_comm e q,Int.mul_left_comm]
 exact Int.eq_of_mul_eq_mul_left hq h1
theorem zjw {a b c e f g:Int} (hf:f≠0) (h1:a * f = b * e) (h2:b * g = c * f):a * g = c * e:=by
 have h3:f * (a * g) = f * (c * e):=by
  calc f * (a * g) = (a * f) * g:=by rw [← Int.mul_assoc,Int.mul_comm f a]
   _ = e * (b * g):=by rw [h1,Int.mul_comm b e,Int.mul_assoc]
   _ = f * (c * e):=by rw [h2,Int.mul_left_comm,Int.mul_comm e f,Int.mul_left_comm]
 exact Int.eq_of_mul_eq_mul_left hf h3
open Classical in
def z6h (m:Int × Int × List Int):List Int :=
 if h:∃ l:List Int,l.length = m.1.toNat∧zb3 m.1.toNat (ent m) (fun i=>l.getD i 0)∧Prim m.1.toNat (ent m) (fun i=>l.getD i 0) then Classical.choose h else []
theorem zym {m:Int × Int × List Int} {l:List Int} (h1:l.length = m.1.toNat) (h2:zb3 m.1.toNat (ent m) (fun i=>l.getD i 0)) (h3:Prim m.1.toNat (ent m) (fun i=>l.getD i 0)):z6h m = l:=by
 have h:∃ l:List Int,l.length = m.1.toNat∧zb3 m.1.toNat (ent m) (fun i=>l.getD i 0)∧Prim m.1.toNat (ent m) (fun i=>l.getD i 0):=⟨l,h1,h2,h3⟩
 have hc:=Classical.choose_spec h
 rw [z6h,dif_pos h]
 generalize Classical.choose h = c at hc
 obtain ⟨c1,c2,c3⟩:=hc
 apply List.ext_getElem?
 intro i
 by_cases hi:i < m.1.toNat
 ·have:=good_one c2 h2 c3 h3 hi
  simp only [List.getD_eq_getElem?_getD] at this
  rw [List.getElem?_eq_getElem (by omega),List.getElem?_eq_getElem (by omega)] at this ⊢
  simpa using this
 ·rw [List.getElem?_eq_none (by omega),List.getElem?_eq_none (by omega)]
theorem zto {m:Int × Int × List Int} (h:¬ ∃ e,zb3 m.1.toNat (ent m) e):z6h m = []:=by
 rw [z6h,dif_neg]
 rintro ⟨l,_,h2,_⟩
 exact h ⟨_,h2⟩
theorem zgg {m:Int × Int × List Int} (h:z6h m≠[]):(z6h m).length = m.1.toNat∧zb3 m.1.toNat (ent m) (fun i=>(z6h m).getD i 0)∧Prim m.1.toNat (ent m) (fun i=>(z6h m).getD i 0):=by
 by_cases hx:∃ l:List Int,l.length = m.1.toNat∧zb3 m.1.toNat (ent m) (fun i=>l.getD i 0)∧Prim m.1.toNat (ent m) (fun i=>l.getD i 0)
 ·have:z6h m = Classical.choose hx:=by rw [z6h,dif_pos hx]
  rw [this]
  exact Classical.choose_spec hx
 ·exact absurd (by rw [z6h,dif_neg hx]) h
theorem zad {n:Nat} {A:Nat→Nat→Int} {e:Nat→Int} (he:zb3 n A e) {i j:Nat} (hi:i < n) (hj:j < n):zfn (A i j) (A j i) = true:=by
 have h1:=(he i hi).2 j hj
 have h2:=(he i hi).1
 have h3:=(he j hj).1
 have e1:decide (0 < A i j) = decide (A j i < 0):=by
  rw [decide_eq_decide]
  constructor
  ·intro h
   have:=Int.mul_pos h2 h
   rcases Int.lt_or_le (A j i) 0 with h4 | h4
   ·exact h4
   ·have:=Int.mul_nonneg (Int.le_of_lt h3) h4; omega
  ·intro h
   have:=Int.mul_neg_of_pos_of_neg h3 h
   rcases Int.lt_or_le 0 (A i j) with h4 | h4
   ·exact h4
   ·have:=Int.mul_nonpos_of_nonneg_of_nonpos (Int.le_of_lt h2) h4; omega
 have e2:decide (A i j = 0) = decide (A j i = 0):=by
  rw [decide_eq_decide]
  exact ⟨zdk he hi hj,zdk he hj hi⟩
 rw [zfn,e1,e2]
 simp
theorem zyl {m:Int × Int × List Int} (hs:z1l m = true) (h:z6h m≠[]):z2c m = true:=by
 obtain ⟨h1,h2,h3⟩:=zgg h
 rw [z2c,hs,Bool.true_and,List.all_eq_true]
 intro i hi
 rw [List.all_eq_true]
 intro j hj
 exact zad h2 (List.mem_range.1 hi) (List.mem_range.1 hj)
end Go.Fw
namespace Go.Fw
def z33 (l:List Nat):List Int:=l.map fun (x:Nat)=>(x:Int)
theorem z20 (l:List Nat):(z33 l).length = l.length:=by simp [z33]
theorem z3m (l:List Nat) (k:Nat):(z33 l).getD k 0 = ((l.getD k 0:Nat):Int):=by
 simp only [z33,List.getD_eq_getElem?_getD,List.getElem?_map]
 cases l[k]? <;> rfl
theorem zca (l:List Nat) (x:Nat):z33 l ++ [(x:Int)] = z33 (l ++ [x]):=by simp [z33]
theorem zt6 {l:List Nat} {x:Nat}:((x:Int) ∈ z33 l)↔x ∈ l:=by
 simp only [z33,List.mem_map]
 constructor
 ·rintro ⟨a,h1,h2⟩
  rwa [← Int.ofNat.inj h2]
 ·exact fun h=>⟨x,h,rfl⟩
theorem zdd:∀ (n:Nat) (l:List Nat),l.Nodup→(∀ x ∈ l,x < n)→l.length≤n
 | 0,l,_,h=>by
  cases l with
  | nil=>simp
  | cons x xs=>exact absurd (h x (by simp)) (by omega)
 | n + 1,l,hn,h=>by
  have:=zdd n (l.erase n) (hn.erase n) (fun x hx=>by
   have h1:=(hn.mem_erase_iff).1 hx
   have:=h x h1.2
   omega)
  rw [List.length_erase] at this
  split at this <;> omega
def pIn (A:Nat→Nat→Int) (x:Nat):List Nat→List Nat × List Nat→List Nat × List Nat
 | [],s=>s
 | j :: js,s=>pIn A x js (if A x j≠0∧j ∉ s.1 then (s.1 ++ [j],s.2 ++ [x]) else s)
def pGo (A:Nat→Nat→Int) (n:Nat):Nat→Nat→List Nat × List Nat→List Nat × List Nat
 | 0,_,s=>s
 | f + 1,p,s=>if p < s.1.length then pGo A n f (p + 1) (pIn A (s.1.getD p 0) (List.range n) s) else s
def zf4 (m:Int × Int × List Int) (i:Nat):List Nat × List Nat:=pGo (ent m) m.1.toNat m.1.toNat 0 ([i],[i])
structure zg5 (n:Nat) (A:Nat→Nat→Int) (i:Nat) (s:List Nat × List Nat):Prop where
 nd:s.1.Nodup
 lt:∀ x ∈ s.1,x < n
 len:s.2.length = s.1.length
 hd:s.1.getD 0 0 = i
 pos:0 < s.1.length
 src:∀ k,1≤k→k < s.1.length→∃ k',k' < k∧s.2.getD k 0 = s.1.getD k' 0∧A (s.2.getD k 0) (s.1.getD k 0)≠0
theorem zg5.le {n:Nat} {A:Nat→Nat→Int} {i:Nat} {s:List Nat × List Nat} (h:zg5 n A i s):s.1.length≤n:=zdd n s.1 h.nd h.lt
theorem z2z {α:Type} {l m:List α} {k:Nat} {d:α} (h:k < l.length):(l ++ m).getD k d = l.getD k d:=by
 simp only [List.getD_eq_getElem?_getD]
 rw [List.getElem?_append_left h]
theorem z8c {α:Type} {l:List α} {x d:α} {k:Nat} (h:k = l.length):(l ++ [x]).getD k d = x:=by
 subst h
 simp [List.getD_eq_getElem?_getD]
theorem zg5.step {n:Nat} {A:Nat→Nat→Int} {i p j:Nat} {s:List Nat × List Nat} (h:zg5 n A i s) (hp:p < s.1.length) (hj:j < n) (ha:A (s.1.getD p 0) j≠0∧j ∉ s.1):zg5 n A i (s.1 ++ [j],s.2 ++ [s.1.getD p 0]):=by
 refine ⟨?_, ?_, ?_, ?_, ?_, ?_⟩
 ·exact List.nodup_append.2 ⟨h.nd,by simp,fun a ha' b hb e=>by
   rw [List.mem_singleton] at hb; subst hb; subst e; exact ha.2 ha'⟩
 ·intro x hx
  rcases List.mem_append.1 hx with hx | hx
  ·exact h.lt x hx
  ·rw [List.mem_singleton] at hx; omega
 ·simp [h.len]
 ·exact (z2z h.pos).trans h.hd
 ·simp
 ·intro k h1 h2
  simp only [List.length_append,List.length_cons,List.length_nil] at h2
  by_cases hk:k < s.1.length
  ·obtain ⟨k',h3,h4,h5⟩:=h.src k h1 hk
   refine ⟨k',h3, ?_, ?_⟩
   ·show (s.2 ++ _).getD k 0 = (s.1 ++ _).getD k' 0
    rw [z2z (by rw [h.len]; exact hk),z2z (by omega),h4]
   ·show A ((s.2 ++ _).getD k 0) ((s.1 ++ _).getD k 0)≠0
    rw [z2z (by rw [h.len]; exact hk),z2z hk]
    exact h5
  ·have e:k = s.1.length:=by omega
   refine ⟨p,by omega, ?_, ?_⟩
   ·show (s.2 ++ _).getD k 0 = (s.1 ++ _).getD p 0
    rw [z8c (by rw [h.len]; exact e),z2z hp]
   ·show A ((s.2 ++ _).getD k 0) ((s.1 ++ _).getD k 0)≠0
    rw [z8c (by rw [h.len]; exact e),z8c e]
    exact ha.1
def zsr (s t:List Nat × List Nat):Prop:=∃ u,t.1 = s.1 ++ u
theorem zsr.getD {s t:List Nat × List Nat} (h:zsr s t) {k:Nat} (hk:k < s.1.length):t.1.getD k 0 = s.1.getD k 0:=by
 obtain ⟨u,h⟩:=h
 rw [h,z2z hk]
theorem zsr.len {s t:List Nat × List Nat} (h:zsr s t):s.1.length≤t.1.length:=by
 obtain ⟨u,h⟩:=h
 rw [h]; simp
theorem zsr.mem {s t:List Nat × List Nat} (h:zsr s t) {x:Nat} (hx:x ∈ s.1):x ∈ t.1:=by
 obtain ⟨u,h⟩:=h
 rw [h]; exact List.mem_append_left _ hx
theorem zl8 {n:Nat} {A:Nat→Nat→Int} {i p:Nat}:∀ (js:List Nat) (s:List Nat × List Nat),zg5 n A i s→p < s.1.length→(∀ j ∈ js,j < n) →
  zg5 n A i (pIn A (s.1.getD p 0) js s)∧zsr s (pIn A (s.1.getD p 0) js s)∧∀ j ∈ js,A (s.1.getD p 0) j≠0→j ∈ (pIn A (s.1.getD p 0) js s).1
 | [],s,h,_,_=>⟨h,⟨[],by simp [pIn]⟩,fun j hj=>by cases hj⟩
 | j :: js,s,h,hp,hl=>by
  by_cases ha:A (s.1.getD p 0) j≠0∧j ∉ s.1
  ·have e:(s.1 ++ [j]).getD p 0 = s.1.getD p 0:=z2z hp
   have:=zl8 (p:=p) js (s.1 ++ [j],s.2 ++ [s.1.getD p 0]) (h.step hp (hl j (by simp)) ha) (by simp; omega) (fun x hx=>hl x (by simp [hx]))
   simp only [e] at this
   obtain ⟨h1,⟨u,h2⟩,h3⟩:=this
   rw [pIn,if_pos ha]
   refine ⟨h1,⟨[j] ++ u,by rw [h2]; simp⟩,fun x hx hax=>?_⟩
   rcases List.mem_cons.1 hx with hx | hx
   ·subst hx; rw [h2]; simp
   ·exact h3 x hx hax
  ·have:=zl8 (p:=p) js s h hp (fun x hx=>hl x (by simp [hx]))
   obtain ⟨h1,h2,h3⟩:=this
   rw [pIn,if_neg ha]
   refine ⟨h1,h2,fun x hx hax=>?_⟩
   rcases List.mem_cons.1 hx with hx | hx
   ·subst hx
    exact h2.mem (Classical.byContradiction fun hc=>ha ⟨hax,hc⟩)
   ·exact h3 x hx hax
theorem zxl {n:Nat} {A:Nat→Nat→Int} {i:Nat}:∀ (f p:Nat) (s:List Nat × List Nat),zg5 n A i s→n≤f + p→p≤s.1.length→(∀ k,k < p→∀ j,j < n→A (s.1.getD k 0) j≠0→j ∈ s.1) →
  zg5 n A i (pGo A n f p s)∧∀ x ∈ (pGo A n f p s).1,∀ j,j < n→A x j≠0→j ∈ (pGo A n f p s).1
 | 0,p,s,h,hf,hp,hc=>⟨h,fun x hx j hj ha=>by
   change x ∈ s.1 at hx
   show j ∈ s.1
   obtain ⟨k,hk,rfl⟩:=List.getElem_of_mem hx
   have:=h.le
   refine hc k (by omega) j hj ?_
   rw [List.getD_eq_getElem?_getD,List.getElem?_eq_getElem hk]
   exact ha⟩
 | f + 1,p,s,h,hf,hp,hc=>by
  rw [pGo]
  by_cases hlt:p < s.1.length
  ·rw [if_pos hlt]
   obtain ⟨h1,h2,h3⟩:=zl8 (p:=p) (List.range n) s h hlt (fun x hx=>List.mem_range.1 hx)
   refine zxl f (p + 1) _ h1 (by omega) (by have:=h2.len; omega) ?_
   intro k hk j hj ha
   by_cases e:k = p
   ·subst e
    rw [h2.getD hlt] at ha
    exact h3 j (List.mem_range.2 hj) ha
   ·rw [h2.getD (by omega)] at ha
    exact h2.mem (hc k (by omega) j hj ha)
  ·rw [if_neg hlt]
   refine ⟨h,fun x hx j hj ha=>?_⟩
   obtain ⟨k,hk,rfl⟩:=List.getElem_of_mem hx
   refine hc k (by omega) j hj ?_
   rw [List.getD_eq_getElem?_getD,List.getElem?_eq_getElem hk]
   exact ha
theorem zg5.first {n:Nat} {A:Nat→Nat→Int} {i:Nat} (h:i < n):zg5 n A i ([i],[i]) :=
 ⟨by simp,by simpa using h,rfl,rfl,by simp,fun k h1 h2=>by simp at h2; omega⟩
theorem piece_ok {m:Int × Int × List Int} {i:Nat} (h:i < m.1.toNat):zg5 m.1.toNat (ent m) i (zf4 m i)∧∀ x ∈ (zf4 m i).1,∀ j,j < m.1.toNat→ent m x j≠0→j ∈ (zf4 m i).1 :=
 zxl m.1.toNat 0 _ (zg5.first h) (by omega) (by simp) (fun k hk=>by omega)
end Go.Fw
namespace Go.Fw
theorem z2a {α:Type} {l:List α} {x y:Nat} {v d:α} (h:x < l.length):(l.set x v).getD y d = if x = y then v else l.getD y d:=by
 by_cases e:x = y
 ·subst e
  rw [if_pos rfl,zdl h]
 ·rw [if_neg e,List.getD_eq_getElem?_getD,List.getElem?_set_ne e,List.getD_eq_getElem?_getD]
theorem z60 {l:List Nat} (h:l.Nodup) {a b:Nat} (ha:a < l.length) (hb:b < l.length) (e:l.getD a 0 = l.getD b 0):a = b:=by
 rw [List.getD_eq_getElem?_getD,List.getD_eq_getElem?_getD,List.getElem?_eq_getElem ha,List.getElem?_eq_getElem hb,Option.getD_some,Option.getD_some] at e
 rcases Nat.lt_trichotomy a b with h1 | h1 | h1
 ·exact absurd e (List.pairwise_iff_getElem.1 h a b ha hb h1)
 ·exact h1
 ·exact absurd e.symm (List.pairwise_iff_getElem.1 h b a hb ha h1)
theorem z92 {l:List Nat} {x:Nat} (h:x ∈ l):∃ k,k < l.length∧l.getD k 0 = x:=by
 obtain ⟨k,hk,rfl⟩:=List.getElem_of_mem h
 exact ⟨k,hk,by rw [List.getD_eq_getElem?_getD,List.getElem?_eq_getElem hk,Option.getD_some]⟩
theorem zjv {α:Type} (l:List Nat) (f:Nat→α):(List.range l.length).map (fun t=>f (l.getD t 0)) = l.map f:=by
 have:=zdh (n:=l.length) (l:=l) 0 rfl
 conv=>rhs; rw [← this]
 rw [List.map_map]
 rfl
def z7f (a:Int):Int:=(a.natAbs:Int)
theorem zb2 {a:Int} (h:a≠0):0 < z7f a:=by unfold z7f; omega
theorem zir {a:Int} (h:-99≤a∧a≤99):z7f a≤99:=by unfold z7f; omega
theorem zuw {e f p q:Int} (he:0 < e) (hf:0 < f) (h:e * p = -(f * q)):e * z7f p = f * z7f q:=by
 have h1:(e * p).natAbs = (f * q).natAbs:=by rw [h,Int.natAbs_neg]
 rw [Int.natAbs_mul,Int.natAbs_mul] at h1
 have:((e.natAbs * p.natAbs:Nat):Int) = ((f.natAbs * q.natAbs:Nat):Int):=by rw [h1]
 rw [Int.natCast_mul,Int.natCast_mul,Int.natAbs_of_nonneg (Int.le_of_lt he),Int.natAbs_of_nonneg (Int.le_of_lt hf)] at this
 exact this
def z6z (q:Nat→Int):Nat→Int
 | 0=>1
 | k + 1=>z6z q k * q k
theorem zxb (q:Nat→Int) {a b:Nat} (h:a≤b):z6z q a ∣ z6z q b:=by
 induction b with
 | zero=>rw [show a = 0 by omega]; exact Int.dvd_refl _
 | succ b ih =>
  by_cases e:a = b + 1
  ·subst e; exact Int.dvd_refl _
  ·exact Int.dvd_trans (ih (by omega)) ⟨q b,rfl⟩
theorem z7m {q:Nat→Int} {n:Nat} (h:∀ k,k < n→0 < q k∧q k≤99):∀ k,k≤n→0 < z6z q k∧z6z q k≤99 ^ k
 | 0,_=>by simp [z6z]
 | k + 1,hk=>by
  obtain ⟨h1,h2⟩:=z7m h k (by omega)
  obtain ⟨h3,h4⟩:=h k (by omega)
  refine ⟨Int.mul_pos h1 h3, ?_⟩
  rw [Int.pow_succ]
  exact Int.mul_le_mul h2 h4 (by omega) (Int.pow_nonneg (by omega))
theorem zxc {k:Nat} (h:k≤8):(99:Int) ^ k≤9227446944279201:=by
 have h1:99 ^ k≤99 ^ 8:=Nat.pow_le_pow_right (by omega) h
 have h2:(99:Int) ^ k = ((99 ^ k:Nat):Int):=by rw [Int.natCast_pow]; rfl
 rw [h2]
 omega
theorem tree_div {H D Hk q p a:Int} (hH:0 < Hk) (hq:0 < q) (hp:0 < p) (ha:0 < a) (h1:Hk * q ∣ D) (h2:D ∣ a * Hk) :
  (Int.tdiv (a * p) q) * q = a * p∧0 < Int.tdiv (a * p) q∧D ∣ Int.tdiv (a * p) q * (Hk * q):=by
 obtain ⟨R,hR⟩:=h1
 obtain ⟨c,hc⟩:=h2
 have e:a = q * (R * c):=by
  have:Hk * a = Hk * (q * (R * c)):=by
   rw [Int.mul_comm Hk a,hc,hR,← Int.mul_assoc Hk q,Int.mul_assoc]
  exact Int.eq_of_mul_eq_mul_left (by omega) this
 have e2:Int.tdiv (a * p) q = R * c * p:=by
  rw [e,Int.mul_assoc,Int.mul_tdiv_cancel_left _ (by omega)]
 rw [e2]
 refine ⟨by rw [e,Int.mul_comm (R * c * p) q,Int.mul_assoc q], ?_, ?_⟩
 ·have h3:0 < q * (R * c * p):=by rw [← Int.mul_assoc,← e]; exact Int.mul_pos ha hp
  rcases Int.lt_or_le 0 (R * c * p) with h | h
  ·exact h
  ·have:=Int.mul_nonpos_of_nonneg_of_nonpos (Int.le_of_lt hq) h; omega
 ·refine ⟨c * p, ?_⟩
  rw [hR,Int.mul_comm (R * c * p),Int.mul_assoc,Int.mul_assoc,Int.mul_assoc,Int.mul_assoc]
theorem ztj (g:Nat) (l:List Int) (x:Int) (hx:0≤x) (hg:g = z9l l):(Int.gcd (g:Int) x:Int) = ((z9l (l ++ [x]):Nat):Int):=by
 subst hg
 rw [zqz,z9l,z9l,Nat.gcd_zero_right]
 rfl
end Go.Fw
namespace Go.Fw
def qK (m:Int × Int × List Int) (s:List Nat × List Nat) (k:Nat):Int:=if k = 0 then 1 else z7f (ent m (s.1.getD k 0) (s.2.getD k 0))
def pK (m:Int × Int × List Int) (s:List Nat × List Nat) (k:Nat):Int:=z7f (ent m (s.2.getD k 0) (s.1.getD k 0))
theorem zaw {m:Int × Int × List Int} (h:z2c m = true) {i j:Nat} (hi:i < m.1.toNat) (hj:j < m.1.toNat):ent m i j = 0↔ent m j i = 0:=by
 rw [z2c,Bool.and_eq_true,List.all_eq_true] at h
 have h1:=List.all_eq_true.1 (h.2 i (List.mem_range.2 hi)) j (List.mem_range.2 hj)
 rw [zfn,Bool.and_eq_true] at h1
 have h2:=h1.2
 rw [beq_iff_eq,decide_eq_decide] at h2
 exact h2
theorem z45 {m:Int × Int × List Int} (h:z1l m = true) (i j:Nat):-99≤ent m i j∧ent m i j≤99:=by
 rw [z1l,Bool.and_eq_true] at h
 exact y6o h.2 _
theorem z1w {m:Int × Int × List Int} (h:z2c m = true):z1l m = true:=by
 rw [z2c,Bool.and_eq_true] at h
 exact h.1
theorem z28 {m:Int × Int × List Int} (h:z1l m = true):z40 m = true:=by
 rw [z1l,Bool.and_eq_true] at h
 exact h.1
theorem zn6 {n:Nat} {A:Nat→Nat→Int} {i:Nat} {s:List Nat × List Nat} (h:zg5 n A i s) {k:Nat} (h1:1≤k) (h2:k < s.1.length):s.2.getD k 0 < n:=by
 obtain ⟨k',h3,h4,h5⟩:=h.src k h1 h2
 rw [h4]
 exact h.lt _ (z1m 0 (by omega))
theorem zga {m:Int × Int × List Int} (hs:z2c m = true) {i:Nat} {s:List Nat × List Nat} (h:zg5 m.1.toNat (ent m) i s) {k:Nat} (h1:1≤k) (h2:k < s.1.length) :
  (0 < qK m s k∧qK m s k≤99)∧(0 < pK m s k∧pK m s k≤99):=by
 obtain ⟨k',h3,h4,h5⟩:=h.src k h1 h2
 have h6:ent m (s.1.getD k 0) (s.2.getD k 0)≠0:=fun e=>h5 ((zaw hs (h.lt _ (z1m 0 h2)) (zn6 h h1 h2)).1 e)
 have hb:=z1w hs
 rw [qK,if_neg (by omega),pK]
 exact ⟨⟨zb2 h6,zir (z45 hb _ _)⟩,⟨zb2 h5,zir (z45 hb _ _)⟩⟩
theorem zgu {m:Int × Int × List Int} (hs:z2c m = true) {i:Nat} {s:List Nat × List Nat} (h:zg5 m.1.toNat (ent m) i s) (k:Nat) (h2:k < s.1.length):0 < qK m s k∧qK m s k≤99:=by
 by_cases e:k = 0
 ·subst e
  rw [qK,if_pos rfl]
  omega
 ·exact (zga hs h (by omega) h2).1
structure T2 (m:Int × Int × List Int) (s:List Nat × List Nat) (d0:List Int) (k:Nat) (d:List Int) (g:Int):Prop where
 len:d.length = m.1.toNat
 out:∀ x,x < m.1.toNat→(∀ k',k' < k→x≠s.1.getD k' 0)→d.getD x 0 = d0.getD x 0
 val:∀ k',k' < k→0 < d.getD (s.1.getD k' 0) 0∧d.getD (s.1.getD k' 0) 0≤99 ^ (4 + k')∧z6z (qK m s) s.1.length ∣ d.getD (s.1.getD k' 0) 0 * z6z (qK m s) k
 tree:∀ k',1≤k'→k' < k→d.getD (s.1.getD k' 0) 0 * qK m s k' = d.getD (s.2.getD k' 0) 0 * pK m s k'
 gcd:g = ((z9l ((List.range k).map fun t=>d.getD (s.1.getD t 0) 0):Nat):Int)
theorem T2.step {m:Int × Int × List Int} {s:List Nat × List Nat} {d0 d:List Int} {g:Int} {i k:Nat} (hs:z2c m = true) (h:zg5 m.1.toNat (ent m) i s) (hn:m.1.toNat≤5) (h1:1≤k) (h2:k < s.1.length) (ht:T2 m s d0 k d g) :
  (0 < d.getD (s.2.getD k 0) 0 * pK m s k∧d.getD (s.2.getD k 0) 0 * pK m s k≤9227446944279201) ∧
  (0 < Int.tdiv (d.getD (s.2.getD k 0) 0 * pK m s k) (qK m s k)∧Int.tdiv (d.getD (s.2.getD k 0) 0 * pK m s k) (qK m s k)≤9227446944279201) ∧
  T2 m s d0 (k + 1) (d.set (s.1.getD k 0) (Int.tdiv (d.getD (s.2.getD k 0) 0 * pK m s k) (qK m s k))) (Int.gcd g (Int.tdiv (d.getD (s.2.getD k 0) 0 * pK m s k) (qK m s k))):=by
 obtain ⟨⟨hq,hq9⟩,hp,hp9⟩:=zga hs h h1 h2
 obtain ⟨k',h3,h4,h5⟩:=h.src k h1 h2
 obtain ⟨a1,a2,a3⟩:=ht.val k' h3
 have hle:=h.le
 rw [← h4] at a1 a2 a3
 have hH:=(z7m (zgu hs h) k (by omega)).1
 have hx:s.1.getD k 0 < d.length:=by rw [ht.len]; exact h.lt _ (z1m 0 h2)
 have hdv:z6z (qK m s) k * qK m s k ∣ z6z (qK m s) s.1.length:=zxb (qK m s) (show k + 1≤s.1.length from h2)
 obtain ⟨b1,b2,b3⟩:=tree_div (H:=0) hH hq hp a1 hdv a3
 have hb:d.getD (s.2.getD k 0) 0 * pK m s k≤99 ^ (4 + k):=by
  have:d.getD (s.2.getD k 0) 0 * pK m s k≤99 ^ (4 + k') * 99:=Int.mul_le_mul a2 hp9 (by omega) (Int.pow_nonneg (by omega))
  rw [← Int.pow_succ] at this
  refine Int.le_trans this ?_
  have h6:99 ^ (4 + k' + 1)≤99 ^ (4 + k):=Nat.pow_le_pow_right (by omega) (by omega)
  exact_mod_cast h6
 have hp8:=zxc (k:=4 + k) (by omega)
 generalize hv:Int.tdiv (d.getD (s.2.getD k 0) 0 * pK m s k) (qK m s k) = v at b1 b2 b3
 have hvle:v≤d.getD (s.2.getD k 0) 0 * pK m s k:=by
  rw [← b1]
  have:=Int.mul_le_mul_of_nonneg_left (show (1:Int)≤qK m s k by omega) (Int.le_of_lt b2)
  omega
 have hne:∀ t,t < k→s.1.getD k 0≠s.1.getD t 0:=fun t ht' e=>by
  have:=z60 h.nd h2 (by omega) e; omega
 have hget:∀ t,t < k→(d.set (s.1.getD k 0) v).getD (s.1.getD t 0) 0 = d.getD (s.1.getD t 0) 0:=fun t ht'=>by
  rw [z2a hx,if_neg (hne t ht')]
 have hself:(d.set (s.1.getD k 0) v).getD (s.1.getD k 0) 0 = v:=by rw [z2a hx,if_pos rfl]
 refine ⟨⟨Int.mul_pos a1 hp,by omega⟩,⟨b2,by omega⟩,⟨?_, ?_, ?_, ?_, ?_⟩⟩
 ·rw [List.length_set,ht.len]
 ·intro x hx' hall
  rw [z2a hx,if_neg (fun e=>hall k (by omega) e.symm)]
  exact ht.out x hx' (fun t ht'=>hall t (by omega))
 ·intro t ht'
  by_cases e:t = k
  ·subst e
   rw [hself]
   exact ⟨b2,by omega,b3⟩
  ·rw [hget t (by omega)]
   obtain ⟨c1,c2,c3⟩:=ht.val t (by omega)
   refine ⟨c1,c2, ?_⟩
   rw [z6z,← Int.mul_assoc]
   exact Int.dvd_trans c3 ⟨_,rfl⟩
 ·intro t ht1 ht2
  by_cases e:t = k
  ·subst e
   rw [hself,h4,hget k' h3,← h4]
   exact b1
  ·obtain ⟨t',c1,c2,_⟩:=h.src t ht1 (by omega)
   rw [hget t (by omega),c2,hget t' (by omega),← c2]
   exact ht.tree t ht1 (by omega)
 ·rw [List.range_succ,List.map_append,List.map_cons,List.map_nil,hself]
  rw [show (List.range k).map (fun t=>(d.set (s.1.getD k 0) v).getD (s.1.getD t 0) 0) = (List.range k).map (fun t=>d.getD (s.1.getD t 0) 0) from List.map_congr_left (fun t ht'=>hget t (List.mem_range.1 ht'))]
  rw [ht.gcd]
  exact ztj _ _ v (by omega) rfl
theorem T2.g_range {m:Int × Int × List Int} {s:List Nat × List Nat} {d0 d:List Int} {g:Int} {k:Nat} (h1:1≤k) (ht:T2 m s d0 k d g):0 < g∧g≤9227446944279201:=by
 obtain ⟨a1,a2,_⟩:=ht.val 0 (by omega)
 have hd:g ∣ d.getD (s.1.getD 0 0) 0:=by
  rw [ht.gcd]
  exact zgf (List.mem_map.2 ⟨0,List.mem_range.2 (by omega),rfl⟩)
 have:=Int.le_of_dvd a1 hd
 have hp:=zxc (k:=4 + 0) (by omega)
 refine ⟨?_,by omega⟩
 rcases Int.lt_or_le 0 g with h | h
 ·exact h
 ·have h0:0≤g:=by rw [ht.gcd]; omega
  have e:g = 0:=by omega
  rw [e] at hd
  have:=Int.zero_dvd.1 hd
  omega
structure T3 (m:Int × Int × List Int) (s:List Nat × List Nat) (d2:List Int) (g:Int) (k:Nat) (d:List Int):Prop where
 len:d.length = m.1.toNat
 out:∀ x,x < m.1.toNat→(∀ k',k' < k→x≠s.1.getD k' 0)→d.getD x 0 = d2.getD x 0
 val:∀ k',k' < k→d.getD (s.1.getD k' 0) 0 = Int.tdiv (d2.getD (s.1.getD k' 0) 0) g
theorem T3.step {m:Int × Int × List Int} {s:List Nat × List Nat} {d2 d:List Int} {g:Int} {k:Nat} (hnd:s.1.Nodup) (hlt:∀ x ∈ s.1,x < m.1.toNat) (h2:k < s.1.length) (ht:T3 m s d2 g k d) :
  T3 m s d2 g (k + 1) (d.set (s.1.getD k 0) (Int.tdiv (d2.getD (s.1.getD k 0) 0) g)):=by
 have hx:s.1.getD k 0 < d.length:=by rw [ht.len]; exact hlt _ (z1m 0 h2)
 refine ⟨by rw [List.length_set,ht.len], ?_, ?_⟩
 ·intro x hx' hall
  rw [z2a hx,if_neg (fun e=>hall k (by omega) e.symm)]
  exact ht.out x hx' (fun t ht'=>hall t (by omega))
 ·intro t ht'
  by_cases e:t = k
  ·subst e
   rw [z2a hx,if_pos rfl]
  ·rw [z2a hx,if_neg (fun e'=>e (z60 hnd h2 (by omega) e').symm)]
   exact ht.val t (by omega)
theorem T3.cur {m:Int × Int × List Int} {s:List Nat × List Nat} {d2 d:List Int} {g:Int} {k:Nat} (hnd:s.1.Nodup) (hlt:∀ x ∈ s.1,x < m.1.toNat) (h2:k < s.1.length) (ht:T3 m s d2 g k d) :
  d.getD (s.1.getD k 0) 0 = d2.getD (s.1.getD k 0) 0 :=
 ht.out _ (hlt _ (z1m 0 h2)) (fun t ht' e=>by have:=z60 hnd h2 (by omega) e; omega)
def Part (n:Nat) (A:Nat→Nat→Int) (d:Nat→Int):Prop:=∀ j,j < n→0≤d j∧d j≤9227446944279201 ∧
 (0 < d j→∃ L:List Nat,j ∈ L∧(∀ k ∈ L,k < n∧0 < d k)∧(∀ k,k < n→A j k≠0→k ∈ L)∧z9l (L.map d) = 1∧∀ e,zb3 n A e→∀ k ∈ L,d j * e k = d k * e j)
theorem zx1 {m:Int × Int × List Int} {s:List Nat × List Nat} {d0 d:List Int} {g:Int} {i:Nat} (hs:z2c m = true) (h:zg5 m.1.toNat (ent m) i s) (ht:T2 m s d0 s.1.length d g) {e:Nat→Int} (he:zb3 m.1.toNat (ent m) e) :
  ∀ k,k < s.1.length→d.getD i 0 * e (s.1.getD k 0) = d.getD (s.1.getD k 0) 0 * e i:=by
 intro k
 induction k using Nat.strongRecOn with
 | _ k ih =>
  intro hk
  by_cases h0:k = 0
  ·subst h0
   rw [h.hd]
  ·obtain ⟨k',h3,h4,h5⟩:=h.src k (by omega) hk
   have h6:=ih k' h3 (by omega)
   rw [← h4] at h6
   have hlk:=h.lt _ (z1m 0 hk)
   have hfk:=zn6 h (show 1≤k by omega) hk
   have h7:=zuw (he _ hfk).1 (he _ hlk).1 ((he _ hfk).2 _ hlk)
   have h8:=ht.tree k (by omega) hk
   obtain ⟨⟨hq,_⟩,hp,_⟩:=zga hs h (show 1≤k by omega) hk
   rw [show z7f (ent m (s.1.getD k 0) (s.2.getD k 0)) = qK m s k by rw [qK,if_neg h0]] at h7
   have h7':e (s.2.getD k 0) * pK m s k = e (s.1.getD k 0) * qK m s k:=h7
   have h9:d.getD (s.2.getD k 0) 0 * e (s.1.getD k 0) = d.getD (s.1.getD k 0) 0 * e (s.2.getD k 0) :=
    zve (p:=pK m s k) (q:=-(qK m s k)) (by omega) (he _ hfk).1 (by rw [Int.mul_neg,Int.neg_neg]; exact h8.symm) (by rw [Int.mul_neg,Int.neg_neg]; exact h7') (by omega)
   have:=(he _ hfk).1
   exact zjw (by omega) h6 h9
theorem zxd {m:Int × Int × List Int} {s:List Nat × List Nat} {d0 d2 d:List Int} {g:Int} {i:Nat} (hs:z2c m = true) (hi:i < m.1.toNat) (h:zg5 m.1.toNat (ent m) i s) (hn:m.1.toNat≤5)
  (hcl:∀ x ∈ s.1,∀ j,j < m.1.toNat→ent m x j≠0→j ∈ s.1)
  (h0:Part m.1.toNat (ent m) (fun x=>d0.getD x 0)) (hz:d0.getD i 0≤0) (h2:T2 m s d0 s.1.length d2 g) (h3:T3 m s d2 g s.1.length d) :
  Part m.1.toNat (ent m) (fun x=>d.getD x 0)∧0 < d.getD i 0∧∀ x,x < m.1.toNat→0 < d0.getD x 0→0 < d.getD x 0:=by
 have hg:=h2.g_range h.pos
 have hle:=h.le
 have hnew:∀ k,k < s.1.length→d0.getD (s.1.getD k 0) 0≤0:=by
  intro k
  induction k using Nat.strongRecOn with
  | _ k ih =>
   intro hk
   by_cases hk0:k = 0
   ·subst hk0; rw [h.hd]; exact hz
   ·obtain ⟨k',a1,a2,a3⟩:=h.src k (by omega) hk
    have b1:=ih k' a1 (by omega)
    rw [← a2] at b1
    rcases Int.lt_or_le 0 (d0.getD (s.1.getD k 0) 0) with hc | hc
    ·have hlk:=h.lt _ (z1m 0 hk)
     have hfk:=zn6 h (show 1≤k by omega) hk
     obtain ⟨L,c1,c2,c3,_⟩:=(h0 _ hlk).2.2 hc
     have b4:0 < d0.getD (s.2.getD k 0) 0:=(c2 _ (c3 _ hfk (fun e=>a3 ((zaw hs hlk hfk).1 e)))).2
     have b2:d0.getD (s.2.getD k 0) 0≤0:=b1
     omega
    ·exact hc
 have hin:∀ x ∈ s.1,d.getD x 0 * g = d2.getD x 0∧0 < d.getD x 0∧d.getD x 0≤9227446944279201:=by
  intro x hx
  obtain ⟨k,hk,rfl⟩:=z92 hx
  have a1:=h3.val k hk
  obtain ⟨b1,b2,_⟩:=h2.val k hk
  have b3:g ∣ d2.getD (s.1.getD k 0) 0:=by
   rw [h2.gcd]
   exact zgf (List.mem_map.2 ⟨k,List.mem_range.2 hk,rfl⟩)
  have b4:d.getD (s.1.getD k 0) 0 * g = d2.getD (s.1.getD k 0) 0:=by rw [a1]; exact Int.tdiv_mul_cancel b3
  have b5:=zxc (k:=4 + k) (by omega)
  have b6:0 < d.getD (s.1.getD k 0) 0:=by
   rcases Int.lt_or_le 0 (d.getD (s.1.getD k 0) 0) with hc | hc
   ·exact hc
   ·have:=Int.mul_nonpos_of_nonpos_of_nonneg hc (Int.le_of_lt hg.1); omega
  refine ⟨b4,b6, ?_⟩
  have:=Int.mul_le_mul_of_nonneg_left (show (1:Int)≤g by omega) (Int.le_of_lt b6)
  omega
 have hout:∀ x,x < m.1.toNat→x ∉ s.1→d.getD x 0 = d0.getD x 0:=by
  intro x hx hni
  have hne:∀ k',k' < s.1.length→x≠s.1.getD k' 0:=fun k' hk' e=>hni (by rw [e]; exact z1m 0 hk')
  rw [h3.out x hx hne,h2.out x hx hne]
 have himem:i ∈ s.1:=by rw [← h.hd]; exact z1m 0 h.pos
 refine ⟨?_,(hin i himem).2.1, ?_⟩
 ·intro j hj
  by_cases hm:j ∈ s.1
  ·obtain ⟨a1,a2,a3⟩:=hin j hm
   refine ⟨Int.le_of_lt a2,a3,fun _=>⟨s.1,hm,fun k hk=>⟨h.lt k hk,(hin k hk).2.1⟩,fun k hk ha=>hcl j hm k hk ha, ?_, ?_⟩⟩
   ·have e1:s.1.map (fun x=>g * d.getD x 0) = s.1.map (fun x=>d2.getD x 0):=List.map_congr_left (fun x hx=>by rw [Int.mul_comm]; exact (hin x hx).1)
    have e2:=zge g (s.1.map (fun x=>d.getD x 0))
    rw [List.map_map] at e2
    have e3:z9l (s.1.map (fun x=>d2.getD x 0)) = g.natAbs * z9l (s.1.map (fun x=>d.getD x 0)):=by rw [← e1]; exact e2
    have e4:g = ((z9l (s.1.map (fun x=>d2.getD x 0)):Nat):Int):=by
     rw [← zjv s.1 (fun x=>d2.getD x 0)]
     exact h2.gcd
    have e5:z9l (s.1.map (fun x=>d2.getD x 0)) = g.natAbs:=by
     have:=congrArg Int.natAbs e4
     simpa using this.symm
    rw [e5] at e3
    exact Nat.eq_of_mul_eq_mul_left (show 0 < g.natAbs by omega) (by rw [Nat.mul_one]; exact e3.symm)
   ·intro e he k hk
    have key:∀ x ∈ s.1,d.getD i 0 * e x = d.getD x 0 * e i:=by
     intro x hx
     obtain ⟨kx,hkx,rfl⟩:=z92 hx
     have c1:=zx1 hs h h2 he kx hkx
     rw [← (hin i himem).1,← (hin _ hx).1] at c1
     have c2:g * (d.getD i 0 * e (s.1.getD kx 0)) = g * (d.getD (s.1.getD kx 0) 0 * e i):=by
      rw [← Int.mul_assoc,← Int.mul_assoc,Int.mul_comm g,Int.mul_comm g]
      exact c1
     exact Int.eq_of_mul_eq_mul_left (by omega) c2
    have:=(he i hi).1
    exact zjw (b:=d.getD i 0) (f:=e i) (by omega) (key j hm).symm (key k hk)
  ·have e:=hout j hj hm
   obtain ⟨a1,a2,a3⟩:=h0 j hj
   show 0≤d.getD j 0∧d.getD j 0≤_∧(0 < d.getD j 0→_)
   rw [e]
   refine ⟨a1,a2,fun hpos=>?_⟩
   obtain ⟨L,b1,b2,b3,b4,b5⟩:=a3 hpos
   have hL:∀ k ∈ L,d.getD k 0 = d0.getD k 0:=fun k hk=>hout k (b2 k hk).1 (fun hc=>by
    obtain ⟨kx,hkx,e'⟩:=z92 hc
    have:=hnew kx hkx
    rw [e'] at this
    have b6:0 < d0.getD k 0:=(b2 k hk).2
    omega)
   refine ⟨L,b1,fun k hk=>⟨(b2 k hk).1,by show 0 < d.getD k 0; rw [hL k hk]; exact (b2 k hk).2⟩,b3, ?_, ?_⟩
   ·rw [show L.map (fun x=>d.getD x 0) = L.map (fun x=>d0.getD x 0) from List.map_congr_left hL]; exact b4
   ·intro e' he' k hk
    show d.getD j 0 * e' k = d.getD k 0 * e' j
    rw [hL k hk,e]
    exact b5 e' he' k hk
 ·intro x hx hp
  by_cases hm:x ∈ s.1
  ·exact (hin x hm).2.1
  ·rw [hout x hx hm]; exact hp
theorem zt1 {m:Int × Int × List Int} {d:List Int} (hl:d.length = m.1.toNat) (h:Part m.1.toNat (ent m) (fun x=>d.getD x 0)) (hp:∀ x,x < m.1.toNat→0 < d.getD x 0)
  (hc:∀ i,i < m.1.toNat→∀ j,j < m.1.toNat→d.getD i 0 * ent m i j = -(d.getD j 0 * ent m j i)):z6h m = d:=by
 refine zym hl (fun i hi=>⟨hp i hi,hc i hi⟩) (fun i hi=>?_)
 obtain ⟨L,a1,a2,a3,a4,a5⟩:=(h i hi).2.2 (hp i hi)
 exact ⟨L,fun k hk=>(a2 k hk).1,a4,a5⟩
theorem zxg {m:Int × Int × List Int} {d:List Int} (hs:z2c m = true) (h:Part m.1.toNat (ent m) (fun x=>d.getD x 0)) (hp:∀ x,x < m.1.toNat→0 < d.getD x 0) {e:Nat→Int} (he:zb3 m.1.toNat (ent m) e)
  {i j:Nat} (hi:i < m.1.toNat) (hj:j < m.1.toNat):d.getD i 0 * ent m i j = -(d.getD j 0 * ent m j i):=by
 by_cases ha:ent m i j = 0
 ·rw [ha,(zaw hs hi hj).1 ha]; simp
 ·obtain ⟨L,a1,a2,a3,a4,a5⟩:=(h i hi).2.2 (hp i hi)
  exact znd (he i hi).1 (he j hj).1 (a5 e he j (a3 j hj ha)) ((he i hi).2 j hj)
theorem zxf {m:Int × Int × List Int} {d:List Int} (hs:z2c m = true) (h:Part m.1.toNat (ent m) (fun x=>d.getD x 0)) (hp:∀ x,x < m.1.toNat→0 < d.getD x 0)
  {i j:Nat} (hi:i < m.1.toNat) (hj:j < m.1.toNat) (hc:d.getD i 0 * ent m i j≠-(d.getD j 0 * ent m j i)):z6h m = []:=by
 refine zto (fun ⟨e,he⟩=>hc ?_)
 by_cases ha:ent m i j = 0
 ·rw [ha,(zaw hs hi hj).1 ha]; simp
 ·obtain ⟨L,a1,a2,a3,a4,a5⟩:=(h i hi).2.2 (hp i hi)
  exact znd (he i hi).1 (he j hj).1 (a5 e he j (a3 j hj ha)) ((he i hi).2 j hj)
end Go.Fw
namespace Go.Fw
def zww (f:Bool) (a b c:Int):Int:=if f = true then -a else if 0 < b∧0 < c then a + b * c else if b < 0∧c < 0 then a - b * c else a
def zxx (m:Int × Int × List Int) (k p:Nat):Int:=zww (decide (p / m.1.toNat = k) || decide (p % m.1.toNat = k)) (m.2.2.getD p 0) (ent m (p / m.1.toNat) k) (ent m k (p % m.1.toNat))
def z6q (m:Int × Int × List Int) (k:Nat):Int × Int × List Int:=(m.1,m.2.1,(List.range m.2.2.length).map (zxx m k))
theorem zma {i j n:Nat} (h:j < n):(i * n + j) / n = i:=by
 rw [Nat.add_comm,Nat.add_mul_div_right _ _ (by omega),Nat.div_eq_of_lt h,Nat.zero_add]
theorem zxy {i j n:Nat} (h:j < n):(i * n + j) % n = j:=by
 rw [Nat.add_comm,Nat.add_mul_mod_self_right,Nat.mod_eq_of_lt h]
theorem zqt {m:Int × Int × List Int} {k i j:Nat} (hj:j < m.1.toNat):zxx m k (i * m.1.toNat + j) = zww (decide (i = k) || decide (j = k)) (ent m i j) (ent m i k) (ent m k j):=by
 unfold zxx
 rw [zma hj,zxy hj]
 rfl
theorem z9d {m:Int × Int × List Int} (hd:z40 m = true) {k i j:Nat} (hi:i < m.2.1.toNat) (hj:j < m.1.toNat):ent (z6q m k) i j = zww (decide (i = k) || decide (j = k)) (ent m i j) (ent m i k) (ent m k j):=by
 obtain ⟨n,r,hn,hr,hn1,hn5,hnr,hr8,hl⟩:=z17 hd
 rw [← zqt hj]
 show ((List.range m.2.2.length).map (zxx m k)).getD (i * m.1.toNat + j) 0 = _
 refine zt7 ?_ 0
 have:=z87 (n:=n) (r:=r) (i:=i) (j:=j) (by omega) (by omega)
 rw [hl,hn]
 exact this
theorem zaj {m:Int × Int × List Int} (hd:z40 m = true) (k:Nat):z40 (z6q m k) = true:=by
 simp only [z40,z6q,Bool.and_eq_true,decide_eq_true_eq,List.length_map,List.length_range] at hd ⊢
 exact hd
theorem zk3 {f:Bool} {a b c:Int} (ha:-99≤a∧a≤99) (hb:-99≤b∧b≤99) (hc:-99≤c∧c≤99):-9801≤b * c∧b * c≤9801:=by
 have h1:(b * c).natAbs≤99 * 99:=by
  rw [Int.natAbs_mul]
  exact Nat.mul_le_mul (by omega) (by omega)
 omega
theorem zaz {m:Int × Int × List Int} (hd:z40 m = true) {k:Nat} (hk:k < m.1.toNat) {d:Nat→Int} (h:zb3 m.1.toNat (ent m) d):zb3 (z6q m k).1.toNat (ent (z6q m k)) d:=by
 obtain ⟨n,r,hn,hr,hn1,hn5,hnr,hr8,hl⟩:=z17 hd
 show zb3 m.1.toNat _ d
 intro i hi
 refine ⟨(h i hi).1,fun j hj=>?_⟩
 rw [z9d hd (by omega) hj,z9d hd (by omega) hi]
 have e1:=(h i hi).2 j hj
 have e2:=(h i hi).2 k hk
 have e3:=(h k hk).2 j hj
 have p1:=(h i hi).1
 have p2:=(h j hj).1
 have p3:=(h k hk).1
 have s1:=zad h hi hk
 have s2:=zad h hk hj
 simp only [zfn,Bool.and_eq_true,beq_iff_eq,decide_eq_decide] at s1 s2
 generalize ent m i j = a at *
 generalize ent m j i = a' at *
 generalize ent m i k = b at *
 generalize ent m k j = c at *
 generalize ent m j k = b' at *
 generalize ent m k i = c' at *
 rw [Bool.or_comm (decide (j = k))]
 cases (decide (i = k) || decide (j = k))
 ·unfold zww
  simp only [Bool.false_eq_true,if_false]
  by_cases h1:0 < b∧0 < c
  ·rw [if_pos h1,if_neg (by omega),if_pos (by omega)]
   grind
  ·rw [if_neg h1]
   by_cases h2:b < 0∧c < 0
   ·rw [if_pos h2,if_pos (by omega)]
    grind
   ·rw [if_neg h2,if_neg (by omega),if_neg (by omega)]
    exact e1
 ·unfold zww
  simp only [if_true]
  grind
theorem zmy {α:Type} {n p:Nat} {F G:Nat→α} (h:F p = G p):zq9 n (p + 1) F G = zq9 n p F G:=by
 unfold zq9
 apply List.map_congr_left
 intro i hi
 by_cases h1:i < p
 ·rw [if_pos h1,if_pos (by omega)]
 ·rw [if_neg h1]
  by_cases h2:i = p
  ·subst h2; rw [if_pos (by omega)]; exact h
  ·rw [if_neg (by omega)]
end Go.Fw
set_option linter.unusedSectionVars false
namespace Go.Fw
def zec (l:List Int) (n:Int) (i:Nat):Bool:=inK (l.getD i 0) 0 (n - 1) && !((l.take i).any fun x=>decide (x = l.getD i 0))
def z49 (l:List Int) (n:Int):Bool:=decide ((l.length:Int) = n) && (List.range l.length).all (zec l n)
theorem z6d {l:List Int} {n:Int} (h:z49 l n = true):∃ L:List Nat,l = z33 L∧L.Nodup∧(∀ x ∈ L,x < n.toNat)∧L.length = n.toNat:=by
 simp only [z49,Bool.and_eq_true,decide_eq_true_eq,List.all_eq_true,List.mem_range,zec,z3d] at h
 obtain ⟨h1,h2⟩:=h
 have e:l = z33 (l.map Int.toNat):=by
  apply List.ext_getElem?
  intro i
  by_cases hi:i < l.length
  ·have:=(h2 i hi).1
   rw [List.getD_eq_getElem?_getD,List.getElem?_eq_getElem hi,Option.getD_some] at this
   simp only [z33,List.map_map,List.getElem?_map,List.getElem?_eq_getElem hi,Option.map_some,Function.comp]
   congr 1
   omega
  ·rw [List.getElem?_eq_none (by omega),List.getElem?_eq_none (by rw [z20]; simp; omega)]
 refine ⟨l.map Int.toNat,e, ?_, ?_,by simp; omega⟩
 ·refine List.pairwise_iff_getElem.2 (fun i j hi hj hij=>?_)
  have hi':i < l.length:=by simpa using hi
  have hj':j < l.length:=by simpa using hj
  have h3:=h2 j hj'
  have h4:=h2 i hi'
  rw [List.getD_eq_getElem?_getD,List.getElem?_eq_getElem hj',Option.getD_some] at h3
  rw [List.getD_eq_getElem?_getD,List.getElem?_eq_getElem hi',Option.getD_some] at h4
  simp only [List.getElem_map]
  intro hc
  have hne:l[i] = l[j]:=by omega
  have h5:=h3.2
  rw [Bool.not_eq_true',List.any_eq_false] at h5
  have:=h5 l[i] (by
   rw [List.mem_iff_getElem]
   exact ⟨i,by rw [List.length_take]; omega,by rw [List.getElem_take]⟩)
  simp [hne] at this
 ·intro x hx
  obtain ⟨y,hy,rfl⟩:=List.mem_map.1 hx
  obtain ⟨i,hi,rfl⟩:=List.getElem_of_mem hy
  have:=(h2 i hi).1
  rw [List.getD_eq_getElem?_getD,List.getElem?_eq_getElem hi,Option.getD_some] at this
  omega
def zb8:List Nat→Nat→Nat
 | [],_=>0
 | x :: xs,b=>if x = b then 0 else zb8 xs b + 1
theorem z3j:∀ {L:List Nat} {b:Nat},b ∈ L→zb8 L b < L.length∧L.getD (zb8 L b) 0 = b
 | [],b,h=>by cases h
 | x :: xs,b,h=>by
  rw [zb8]
  by_cases e:x = b
  ·rw [if_pos e]
   exact ⟨by simp,by simpa using e⟩
  ·rw [if_neg e]
   rcases List.mem_cons.1 h with h | h
   ·exact absurd h.symm e
   ·obtain ⟨h1,h2⟩:=z3j h
    exact ⟨by simp; omega,by simpa [List.getD_cons_succ] using h2⟩
theorem z37 {L:List Nat} {n:Nat} (h1:L.Nodup) (h2:∀ x ∈ L,x < n) (h3:L.length = n) {b:Nat} (hb:b < n):b ∈ L:=by
 refine Classical.byContradiction fun hc=>?_
 have:=zdd n (b :: L) (List.nodup_cons.2 ⟨hc,h1⟩) (fun x hx=>by
  rcases List.mem_cons.1 hx with e | e
  ·omega
  ·exact h2 x e)
 simp at this
 omega
theorem z5i {L:List Nat} (h:L.Nodup) {j:Nat} (hj:j < L.length):zb8 L (L.getD j 0) = j:=by
 obtain ⟨h1,h2⟩:=z3j (z1m (l:=L) 0 hj)
 exact z60 h h1 hj h2
def z9w (n:Nat) (L:List Nat) (i:Nat):Nat:=if i < n then L.getD i 0 else i
def ziy (n:Nat) (L:List Nat) (p:Nat):Nat:=if p < n then zb8 L p else p
def z9h (n:Nat) (L:List Nat) (p:Nat):Nat:=ziy n L (p / n) * n + zb8 L (p % n)
def z6j (m:Int × Int × List Int) (names:List Int):Int × Int × List Int:=(m.1,m.2.1,(List.range m.2.2.length).map fun p=>m.2.2.getD (z9h m.1.toNat (names.map Int.toNat) p) 0)
theorem z42 (L:List Nat):(z33 L).map Int.toNat = L:=by
 simp only [z33,List.map_map]
 conv=>rhs; rw [← List.map_id L]
 apply List.map_congr_left
 intro x _
 simp
def zwt (total t:Nat) (back:Nat→Nat) (F G:Nat→Int):List Int:=(List.range total).map fun p=>if back p < t then F p else G p
theorem zd6 {total t:Nat} {back:Nat→Nat} {F G:Nat→Int}:(zwt total t back F G).length = total:=by simp [zwt]
theorem zsv {total t p:Nat} {back:Nat→Nat} {F G:Nat→Int} (hp:p < total) (hb:back p = t) (hinj:∀ q,q < total→back q = t→q = p):(zwt total t back F G).set p (F p) = zwt total (t + 1) back F G:=by
 apply List.ext_getElem?
 intro q
 by_cases hq:q < total
 ·by_cases e:p = q
  ·subst e
   rw [List.getElem?_set_self (by rw [zd6]; exact hp)]
   simp only [zwt,List.getElem?_map,List.getElem?_range hp,Option.map_some]
   rw [if_pos (by omega)]
  ·rw [List.getElem?_set_ne e]
   simp only [zwt,List.getElem?_map,List.getElem?_range hq,Option.map_some]
   have hne:back q≠t:=fun h=>e (hinj q hq h).symm
   by_cases h1:back q < t
   ·rw [if_pos h1,if_pos (by omega)]
   ·rw [if_neg h1,if_neg (by omega)]
 ·rw [List.getElem?_eq_none (by rw [List.length_set,zd6]; omega),List.getElem?_eq_none (by rw [zd6]; omega)]
theorem zn8 {total:Nat} {back:Nat→Nat} {F G:Nat→Int}:zwt total 0 back F G = (List.range total).map G:=by simp [zwt]
theorem zn9 {total:Nat} {back:Nat→Nat} {F G:Nat→Int} (h:∀ p,p < total→back p < total):zwt total total back F G = (List.range total).map F:=by
 unfold zwt
 apply List.map_congr_left
 intro i hi
 rw [if_pos (h i (List.mem_range.1 hi))]
section
variable {n r:Nat} {L:List Nat} (h1:L.Nodup) (h2:∀ x ∈ L,x < n) (h3:L.length = n) (hnr:n≤r)
include h1 h2 h3
theorem zna {i:Nat}:ziy n L (z9w n L i) = i:=by
 unfold z9w ziy
 by_cases h:i < n
 ·have:=h2 _ (z1m (l:=L) (j:=i) 0 (by omega))
  rw [if_pos h,if_pos this,z5i h1 (by omega)]
 ·rw [if_neg h,if_neg h]
theorem znb {p:Nat}:z9w n L (ziy n L p) = p:=by
 unfold z9w ziy
 by_cases h:p < n
 ·obtain ⟨a,b⟩:=z3j (z37 h1 h2 h3 h)
  rw [if_pos h,if_pos (by omega),b]
 ·rw [if_neg h,if_neg h]
include hnr
theorem zqi {i:Nat} (h:i < r):z9w n L i < r:=by
 unfold z9w
 split
 ·rename_i h'
  have:=h2 _ (z1m (l:=L) (j:=i) 0 (by omega))
  omega
 ·exact h
theorem zqj {p:Nat} (h:p < r):ziy n L p < r:=by
 unfold ziy
 split
 ·rename_i h'
  have:=(z3j (z37 h1 h2 h3 h')).1
  omega
 ·exact h
theorem zgj {i j:Nat} (hj:j < n):z9h n L (z9w n L i * n + L.getD j 0) = i * n + j:=by
 have:=h2 _ (z1m (l:=L) (j:=j) 0 (by omega))
 unfold z9h
 rw [Nat.add_comm (z9w n L i * n),Nat.add_mul_div_right _ _ (by omega),Nat.div_eq_of_lt this,Nat.zero_add,Nat.add_mul_mod_self_right,Nat.mod_eq_of_lt this,zna h1 h2 h3,z5i h1 (by omega)]
theorem zus {i j q:Nat} (hj:j < n) (h:z9h n L q = i * n + j):q = z9w n L i * n + L.getD j 0:=by
 have hn:0 < n:=by omega
 obtain ⟨a,b⟩:=z3j (z37 h1 h2 h3 (Nat.mod_lt q hn))
 unfold z9h at h
 have e1:ziy n L (q / n) = i:=by
  have:(ziy n L (q / n) * n + zb8 L (q % n)) / n = (i * n + j) / n:=by rw [h]
  rw [Nat.add_comm,Nat.add_mul_div_right _ _ hn,Nat.div_eq_of_lt (by omega),Nat.zero_add,Nat.add_comm (i * n),Nat.add_mul_div_right _ _ hn,Nat.div_eq_of_lt hj,Nat.zero_add] at this
  exact this
 have e2:zb8 L (q % n) = j:=by rw [e1] at h; omega
 have e3:z9w n L i = q / n:=by rw [← e1,znb h1 h2 h3]
 rw [e3,← e2,b,Nat.mul_comm]
 exact (Nat.div_add_mod q n).symm
theorem y6k {q:Nat} (hn:0 < n) (h:q < r * n):z9h n L q < r * n:=by
 obtain ⟨a,b⟩:=z3j (z37 h1 h2 h3 (Nat.mod_lt q hn))
 have h4:q / n < r:=(Nat.div_lt_iff_lt_mul hn).2 h
 exact z87 (zqj h1 h2 h3 hnr h4) (by omega)
end
end Go.Fw
namespace Go.Fw
def zqb (A:Nat→Nat→Int) (L:List Nat) (num den:List Int) (x k:Nat):Prop:=(A x k = 0∧A k x = 0)∨(k ∈ L∧num.getD x 0 * A x k * den.getD k 0 = -(num.getD k 0 * A k x * den.getD x 0))
structure zmu (n:Nat) (A:Nat→Nat→Int) (s:Nat) (num0:List Int) (L:List Nat) (num den:List Int):Prop where
 nl:num.length = n
 dl:den.length = n
 nd:L.Nodup
 lt:∀ x ∈ L,x < n
 hd:L.getD 0 0 = s
 pos:0 < L.length
 out:∀ x,x < n→x ∉ L→num.getD x 0 = num0.getD x 0
 new:∀ x ∈ L,num0.getD x 0 = 0
 frac:∃ Q:Int,0 < Q∧Q≤99 ^ (L.length - 1)∧∀ x ∈ L,0 < num.getD x 0∧num.getD x 0≤99 ^ (L.length - 1)∧0 < den.getD x 0∧den.getD x 0 ∣ Q∧Int.gcd (num.getD x 0) (den.getD x 0) = 1
 good:∀ e,zb3 n A e→∀ x ∈ L,num.getD x 0 * e s = den.getD x 0 * e x
theorem zmu.le {n:Nat} {A:Nat→Nat→Int} {s:Nat} {num0 num den:List Int} {L:List Nat} (h:zmu n A s num0 L num den):L.length≤n:=zdd n L h.nd h.lt
def zv2 (n:Nat) (A:Nat→Nat→Int) (num0:List Int):Prop:=∀ y,y < n→num0.getD y 0≠0→∀ k,k < n→(A y k≠0∨A k y≠0)→num0.getD k 0≠0
theorem frac_eq {a b c d:Int} (ha:0 < a) (hb:0 < b) (hc:0 < c) (hd:0 < d) (h1:Int.gcd a b = 1) (h2:Int.gcd c d = 1) (h:a * d = c * b):a = c∧b = d:=by
 obtain ⟨a,rfl⟩:=Int.eq_ofNat_of_zero_le (Int.le_of_lt ha)
 obtain ⟨b,rfl⟩:=Int.eq_ofNat_of_zero_le (Int.le_of_lt hb)
 obtain ⟨c,rfl⟩:=Int.eq_ofNat_of_zero_le (Int.le_of_lt hc)
 obtain ⟨d,rfl⟩:=Int.eq_ofNat_of_zero_le (Int.le_of_lt hd)
 have h3:a * d = c * b:=by exact_mod_cast h
 have e1:a ∣ c:=Nat.Coprime.dvd_of_dvd_mul_right (k:=a) (n:=b) h1 ⟨d,h3.symm⟩
 have e2:c ∣ a:=Nat.Coprime.dvd_of_dvd_mul_right (k:=c) (n:=d) h2 ⟨b,h3⟩
 have e3:=Nat.dvd_antisymm e1 e2
 subst e3
 exact ⟨rfl,by rw [Nat.eq_of_mul_eq_mul_left (by omega) h3]⟩
section
variable {n:Nat} {A:Nat→Nat→Int} {s p j:Nat} {num0 num den:List Int} {L:List Nat}
structure StepN (A:Nat→Nat→Int) (x j:Nat) (num den:List Int) (a0 b0 g a b:Int):Prop where
 ea0:a0 = num.getD x 0 * z7f (A x j)
 eb0:b0 = den.getD x 0 * z7f (A j x)
 eg:g = (Int.gcd a0 b0:Int)
 gp:0 < g
 a0p:0 < a0
 b0p:0 < b0
 ea:a * g = a0
 eb:b * g = b0
 ap:0 < a
 bp:0 < b
 co:Int.gcd a b = 1
theorem stepN (x j:Nat) (hx:0 < num.getD x 0) (hd:0 < den.getD x 0) (h1:A x j≠0) (h2:A j x≠0) :
  StepN A x j num den (num.getD x 0 * z7f (A x j)) (den.getD x 0 * z7f (A j x)) (Int.gcd (num.getD x 0 * z7f (A x j)) (den.getD x 0 * z7f (A j x)))
   (Int.tdiv (num.getD x 0 * z7f (A x j)) (Int.gcd (num.getD x 0 * z7f (A x j)) (den.getD x 0 * z7f (A j x)))) (Int.tdiv (den.getD x 0 * z7f (A j x)) (Int.gcd (num.getD x 0 * z7f (A x j)) (den.getD x 0 * z7f (A j x)))):=by
 have a0p:0 < num.getD x 0 * z7f (A x j):=Int.mul_pos hx (zb2 h1)
 have b0p:0 < den.getD x 0 * z7f (A j x):=Int.mul_pos hd (zb2 h2)
 generalize ha0:num.getD x 0 * z7f (A x j) = a0 at a0p ⊢
 generalize hb0:den.getD x 0 * z7f (A j x) = b0 at b0p ⊢
 have gp:0 < (Int.gcd a0 b0:Int):=by
  have:=Int.gcd_pos_of_ne_zero_left b0 (show a0≠0 by omega)
  omega
 have ea:Int.tdiv a0 (Int.gcd a0 b0) * (Int.gcd a0 b0:Int) = a0:=Int.tdiv_mul_cancel (Int.gcd_dvd_left ..)
 have eb:Int.tdiv b0 (Int.gcd a0 b0) * (Int.gcd a0 b0:Int) = b0:=Int.tdiv_mul_cancel (Int.gcd_dvd_right ..)
 have pos:∀ c d:Int,0 < d→0 < c * d→0 < c:=fun c d hd h=>by
  rcases Int.lt_or_le 0 c with h' | h'
  ·exact h'
  ·have:=Int.mul_nonpos_of_nonpos_of_nonneg h' (Int.le_of_lt hd); omega
 refine ⟨ha0.symm,hb0.symm,rfl,gp,a0p,b0p,ea,eb,pos _ _ gp (by rw [ea]; exact a0p),pos _ _ gp (by rw [eb]; exact b0p), ?_⟩
 have h3:Int.gcd (Int.tdiv a0 (Int.gcd a0 b0) * (Int.gcd a0 b0:Int)) (Int.tdiv b0 (Int.gcd a0 b0) * (Int.gcd a0 b0:Int)) = Int.gcd a0 b0:=by rw [ea,eb]
 rw [Int.gcd_mul_right,Int.natAbs_natCast] at h3
 have gp':0 < Int.gcd a0 b0:=by omega
 exact Nat.eq_of_mul_eq_mul_right gp' (by rw [h3,Nat.one_mul])
def Skew (A:Nat→Nat→Int) (x j:Nat):Prop:=∃ u:Int,(u = 1∨u = -1)∧A x j = u * z7f (A x j)∧A j x = -(u * z7f (A j x))
theorem skew_of {x j:Nat} (h1:A x j≠0) (h2:A j x≠0) (h:(0 < A x j)↔(0 < -A j x)):Skew A x j:=by
 unfold Skew z7f
 by_cases hp:0 < A x j
 ·have:=h.1 hp
  exact ⟨1,Or.inl rfl,by omega,by omega⟩
 ·have:¬ 0 < -A j x:=fun hc=>hp (h.2 hc)
  exact ⟨-1,Or.inr rfl,by omega,by omega⟩
theorem zn3 {x:Nat} {a0 b0 g a b:Int} (st:StepN A x j num den a0 b0 g a b) (hx:x < n) (hj:j < n) {e:Nat→Int} (he:zb3 n A e) (hg:num.getD x 0 * e s = den.getD x 0 * e x):a * e s = b * e j:=by
 have h1:=zuw (he x hx).1 (he j hj).1 ((he x hx).2 j hj)
 have h2:=st.ea0
 have h3:=st.eb0
 have h4:=st.ea
 have h5:=st.eb
 have h6:g * (a * e s) = g * (b * e j):=by grind
 exact Int.eq_of_mul_eq_mul_left (by have:=st.gp; omega) h6
theorem zn4 {x:Nat} {a0 b0 g a b:Int} (st:StepN A x j num den a0 b0 g a b) (sk:Skew A x j):num.getD x 0 * A x j * b = -(a * A j x * den.getD x 0):=by
 obtain ⟨u,hu,h1,h2⟩:=sk
 have h3:=st.ea0
 have h4:=st.eb0
 have h5:=st.ea
 have h6:=st.eb
 rw [h1,h2]
 grind
theorem zmu.grow {a0 b0 g a b:Int} (h:zmu n A s num0 L num den) (hp:p < L.length) (hj:j < n) (hz:num.getD j 0 = 0) (st:StepN A (L.getD p 0) j num den a0 b0 g a b) (hb:∀ x y,z7f (A x y)≤99) :
  zmu n A s num0 (L ++ [j]) (num.set j a) (den.set j b)∧j ∉ L:=by
 obtain ⟨Q,q1,q2,q3⟩:=h.frac
 have hxm:L.getD p 0 ∈ L:=z1m 0 hp
 have hnj:j ∉ L:=fun hc=>by have:=(q3 j hc).1; omega
 have hxj:∀ x ∈ L,j≠x:=fun x hx e=>hnj (e ▸ hx)
 have hnl:j < num.length:=by rw [h.nl]; exact hj
 have hdl:j < den.length:=by rw [h.dl]; exact hj
 have e1:∀ x ∈ L,(num.set j a).getD x 0 = num.getD x 0:=fun x hx=>by rw [z2a hnl,if_neg (hxj x hx)]
 have e2:∀ x ∈ L,(den.set j b).getD x 0 = den.getD x 0:=fun x hx=>by rw [z2a hdl,if_neg (hxj x hx)]
 have e3:(num.set j a).getD j 0 = a:=by rw [z2a hnl,if_pos rfl]
 have e4:(den.set j b).getD j 0 = b:=by rw [z2a hdl,if_pos rfl]
 have hlen:(L ++ [j]).length - 1 = L.length - 1 + 1:=by have:=h.pos; simp; omega
 have hpp:(0:Int)≤99 ^ (L.length - 1):=Int.pow_nonneg (by omega)
 refine ⟨⟨by rw [List.length_set,h.nl],by rw [List.length_set,h.dl], ?_, ?_,(z2z h.pos).trans h.hd,by simp, ?_, ?_, ?_, ?_⟩,hnj⟩
 ·exact List.nodup_append.2 ⟨h.nd,by simp,fun a ha' b hb e=>by
   rw [List.mem_singleton] at hb; subst hb; subst e; exact hnj ha'⟩
 ·intro x hx
  rcases List.mem_append.1 hx with hx | hx
  ·exact h.lt x hx
  ·rw [List.mem_singleton] at hx; omega
 ·intro x hx hni
  rw [List.mem_append,List.mem_singleton] at hni
  rw [z2a hnl,if_neg (fun e=>hni (Or.inr e.symm))]
  exact h.out x hx (fun hc=>hni (Or.inl hc))
 ·intro x hx
  rcases List.mem_append.1 hx with hx | hx
  ·exact h.new x hx
  ·rw [List.mem_singleton] at hx
   subst hx
   rw [← h.out x hj hnj]
   exact hz
 ·obtain ⟨c1,c2,c3,c4,c5⟩:=q3 _ hxm
  have ga:a≤a0:=by
   have:=Int.mul_le_mul_of_nonneg_left (show (1:Int)≤g by have:=st.gp; omega) (Int.le_of_lt st.ap)
   have:=st.ea
   omega
  have hq1:0 < z7f (A j (L.getD p 0)):=by
   have h1:=st.b0p
   rw [st.eb0] at h1
   rcases Int.lt_or_le 0 (z7f (A j (L.getD p 0))) with h' | h'
   ·exact h'
   ·have:=Int.mul_nonpos_of_nonneg_of_nonpos (Int.le_of_lt c3) h'; omega
  have hp1:0≤z7f (A (L.getD p 0) j):=by unfold z7f; omega
  refine ⟨Q * z7f (A j (L.getD p 0)),Int.mul_pos q1 hq1, ?_, ?_⟩
  ·rw [hlen,Int.pow_succ]
   exact Int.mul_le_mul q2 (hb _ _) (by omega) hpp
  ·intro x hx
   rcases List.mem_append.1 hx with hx | hx
   ·rw [e1 x hx,e2 x hx]
    obtain ⟨d1,d2,d3,d4,d5⟩:=q3 x hx
    refine ⟨d1, ?_,d3,Int.dvd_trans d4 ⟨_,rfl⟩,d5⟩
    rw [hlen,Int.pow_succ]
    have:=Int.mul_le_mul_of_nonneg_left (show (1:Int)≤99 by omega) hpp
    omega
   ·rw [List.mem_singleton] at hx
    subst hx
    rw [e3,e4]
    refine ⟨st.ap, ?_,st.bp, ?_,st.co⟩
    ·rw [hlen,Int.pow_succ]
     have:a0≤99 ^ (L.length - 1) * 99:=by
      rw [st.ea0]
      exact Int.mul_le_mul c2 (hb _ _) hp1 hpp
     omega
    ·have h1:b ∣ b0:=⟨g,st.eb.symm⟩
     have h2:b0 ∣ Q * z7f (A x (L.getD p 0)):=by
      rw [st.eb0]
      exact Int.mul_dvd_mul c4 (Int.dvd_refl _)
     exact Int.dvd_trans h1 h2
 ·intro e he x hx
  rcases List.mem_append.1 hx with hx | hx
  ·rw [e1 x hx,e2 x hx]
   exact h.good e he x hx
  ·rw [List.mem_singleton] at hx
   subst hx
   rw [e3,e4]
   exact zn3 st (h.lt _ hxm) hj he (h.good e he _ hxm)
theorem zqb.grow {x k:Nat} {a b:Int} (hL:∀ x ∈ L,j≠x) (hnl:j < num.length) (hdl:j < den.length) (hx:x ∈ L) (h:zqb A L num den x k):zqb A (L ++ [j]) (num.set j a) (den.set j b) x k:=by
 rcases h with h | ⟨h1,h2⟩
 ·exact Or.inl h
 ·refine Or.inr ⟨List.mem_append_left _ h1, ?_⟩
  rw [z2a hnl,if_neg (hL x hx),z2a hdl,if_neg (hL k h1),z2a hnl,if_neg (hL k h1),z2a hdl,if_neg (hL x hx)]
  exact h2
end
end Go.Fw
namespace Go.Fw
structure OInv (n:Nat) (A:Nat→Nat→Int) (num out:List Int):Prop where
 nl:num.length = n
 ol:out.length = n
 closed:zv2 n A num
 done:∀ j,j < n→num.getD j 0≠0→0 < out.getD j 0∧(∀ k,k < n→out.getD j 0 * A j k = -(out.getD k 0 * A k j)) ∧
  ∃ L:List Nat,(∀ k ∈ L,k < n∧num.getD k 0≠0)∧z9l (L.map fun k=>out.getD k 0) = 1∧∀ e,zb3 n A e→∀ k ∈ L,out.getD j 0 * e k = out.getD k 0 * e j
section
variable {n:Nat} {A:Nat→Nat→Int} {s:Nat} {num0 num den out0 out2 out3:List Int} {L:List Nat} {com g:Int}
theorem OInv.piece (h:OInv n A num0 out0) (f:zmu n A s num0 L num den) (he:∀ x ∈ L,∀ k,k < n→zqb A L num den x k) (hc:0 < com) (hg:0 < g)
  (h2:∀ x ∈ L,out2.getD x 0 * den.getD x 0 = com * num.getD x 0) (hgl:g = ((z9l (L.map fun x=>out2.getD x 0):Nat):Int))
  (h3:∀ x ∈ L,out3.getD x 0 * g = out2.getD x 0) (ho:∀ x,x < n→x ∉ L→out3.getD x 0 = out0.getD x 0) (hl:out3.length = n) :
  OInv n A num out3∧num.getD s 0≠0∧∀ x,x < n→num0.getD x 0≠0→num.getD x 0≠0:=by
 obtain ⟨Q,q1,q2,q3⟩:=f.frac
 have hpos:∀ x ∈ L,0 < num.getD x 0∧0 < den.getD x 0:=fun x hx=>⟨(q3 x hx).1,(q3 x hx).2.2.1⟩
 have hk:∀ x ∈ L,out3.getD x 0 * g * den.getD x 0 = com * num.getD x 0:=fun x hx=>by rw [h3 x hx]; exact h2 x hx
 have hop:∀ x ∈ L,0 < out3.getD x 0:=fun x hx=>by
  have h4:=Int.mul_pos hc (hpos x hx).1
  rw [← hk x hx] at h4
  rcases Int.lt_or_le 0 (out3.getD x 0) with h' | h'
  ·exact h'
  ·have h5:=Int.mul_nonpos_of_nonpos_of_nonneg h' (Int.le_of_lt hg)
   have h6:=Int.mul_nonpos_of_nonpos_of_nonneg h5 (Int.le_of_lt (hpos x hx).2)
   omega
 have hns:num.getD s 0≠0:=by
  have:=(hpos s (by rw [← f.hd]; exact z1m 0 f.pos)).1
  omega
 have old:∀ x,x < n→num0.getD x 0≠0→x ∉ L:=fun x hx h0 hc=>h0 (f.new x hc)
 refine ⟨⟨f.nl,hl, ?_, ?_⟩,hns,fun x hx h0=>by rw [f.out x hx (old x hx h0)]; exact h0⟩
 ·intro y hy h1 k hk' ha
  by_cases hm:y ∈ L
  ·rcases he y hm k hk' with hz | hz
   ·omega
   ·have:=(hpos k hz.1).1; omega
  ·rw [f.out y hy hm] at h1
   have h4:=h.closed y hy h1 k hk' ha
   rw [f.out k hk' (old k hk' h4)]
   exact h4
 ·intro j hj h1
  by_cases hm:j ∈ L
  ·refine ⟨hop j hm, ?_,L,fun k hk'=>⟨f.lt k hk',by have:=(hpos k hk').1; omega⟩, ?_, ?_⟩
   ·intro k hk'
    rcases he j hm k hk' with ⟨z1,z2⟩ | ⟨z1,z2⟩
    ·rw [z1,z2]; simp
    ·have e1:=hk j hm
     have e2:=hk k z1
     have e3:(g * den.getD j 0 * den.getD k 0) * (out3.getD j 0 * A j k) = (g * den.getD j 0 * den.getD k 0) * (-(out3.getD k 0 * A k j)):=by grind
     have e4:=Int.mul_pos (Int.mul_pos hg (hpos j hm).2) (hpos k z1).2
     exact Int.eq_of_mul_eq_mul_left (by omega) e3
   ·have e1:L.map (fun x=>g * out3.getD x 0) = L.map (fun x=>out2.getD x 0):=List.map_congr_left (fun x hx=>by rw [Int.mul_comm]; exact h3 x hx)
    have e2:=zge g (L.map (fun x=>out3.getD x 0))
    rw [List.map_map] at e2
    have e3:z9l (L.map (fun x=>out2.getD x 0)) = g.natAbs * z9l (L.map (fun x=>out3.getD x 0)):=by rw [← e1]; exact e2
    have e5:z9l (L.map (fun x=>out2.getD x 0)) = g.natAbs:=by
     have:=congrArg Int.natAbs hgl
     simpa using this.symm
    rw [e5] at e3
    exact Nat.eq_of_mul_eq_mul_left (show 0 < g.natAbs by omega) (by rw [Nat.mul_one]; exact e3.symm)
   ·intro e hge k hkL
    have key:∀ x ∈ L,out3.getD x 0 * g * e s = com * e x:=by
     intro x hx
     have e1:=hk x hx
     have e2:=f.good e hge x hx
     have e3:den.getD x 0 * (out3.getD x 0 * g * e s) = den.getD x 0 * (com * e x):=by grind
     exact Int.eq_of_mul_eq_mul_left (by have:=(hpos x hx).2; omega) e3
    have e1:=key j hm
    have e2:=key k hkL
    have hs:0 < e s:=(hge s (by rw [← f.hd]; exact f.lt _ (z1m 0 f.pos))).1
    have e3:(g * e s) * (out3.getD j 0 * e k) = (g * e s) * (out3.getD k 0 * e j):=by grind
    have e4:=Int.mul_pos hg hs
    exact Int.eq_of_mul_eq_mul_left (by omega) e3
  ·rw [f.out j hj hm] at h1
   obtain ⟨a1,a2,L',a3,a4,a5⟩:=h.done j hj h1
   rw [ho j hj hm]
   have hL':∀ k ∈ L',k ∉ L:=fun k hk'=>old k (a3 k hk').1 (a3 k hk').2
   refine ⟨a1, ?_,L',fun k hk'=>⟨(a3 k hk').1,by rw [f.out k (a3 k hk').1 (hL' k hk')]; exact (a3 k hk').2⟩, ?_, ?_⟩
   ·intro k hk'
    by_cases hkL:k ∈ L
    ·by_cases z1:A j k = 0
     ·by_cases z2:A k j = 0
      ·rw [z1,z2]; simp
      ·exact absurd (f.new k hkL) (h.closed j hj h1 k hk' (Or.inr z2))
     ·exact absurd (f.new k hkL) (h.closed j hj h1 k hk' (Or.inl z1))
    ·rw [ho k hk' hkL]; exact a2 k hk'
   ·rw [show L'.map (fun k=>out3.getD k 0) = L'.map (fun k=>out0.getD k 0) from List.map_congr_left (fun k hk'=>ho k (a3 k hk').1 (hL' k hk'))]
    exact a4
   ·intro e hge k hk'
    rw [ho k (a3 k hk').1 (hL' k hk')]
    exact a5 e hge k hk'
end
theorem OInv.fac {m:Int × Int × List Int} {num out:List Int} (h:OInv m.1.toNat (ent m) num out) (hp:∀ x,x < m.1.toNat→num.getD x 0≠0):z6h m = out:=by
 refine zym h.ol (fun i hi=>⟨(h.done i hi (hp i hi)).1,(h.done i hi (hp i hi)).2.1⟩) (fun i hi=>?_)
 obtain ⟨L,a1,a2,a3⟩:=(h.done i hi (hp i hi)).2.2
 exact ⟨L,fun k hk=>(a1 k hk).1,a2,a3⟩
theorem lcm_step {c d Q:Int} (hc:0 < c) (hd:0 < d) (h1:c ∣ Q) (h2:d ∣ Q) (hQ:0 < Q) :
  0 < (Int.gcd c d:Int)∧0 < Int.tdiv c (Int.gcd c d)∧Int.tdiv c (Int.gcd c d)≤c∧0 < Int.tdiv c (Int.gcd c d) * d∧Int.tdiv c (Int.gcd c d) * d ∣ Q∧c ∣ Int.tdiv c (Int.gcd c d) * d∧d ∣ Int.tdiv c (Int.gcd c d) * d:=by
 obtain ⟨c,rfl⟩:=Int.eq_ofNat_of_zero_le (Int.le_of_lt hc)
 obtain ⟨d,rfl⟩:=Int.eq_ofNat_of_zero_le (Int.le_of_lt hd)
 obtain ⟨Q,rfl⟩:=Int.eq_ofNat_of_zero_le (Int.le_of_lt hQ)
 have e:Int.tdiv (c:Int) (Int.gcd (c:Int) (d:Int)) = ((c / Nat.gcd c d:Nat):Int):=rfl
 rw [e]
 have hg:0 < Nat.gcd c d:=Nat.gcd_pos_of_pos_left d (by omega)
 have h3:c / Nat.gcd c d * d = Nat.lcm c d:=by
  rw [Nat.lcm,Nat.mul_comm,Nat.mul_comm c d,Nat.mul_div_assoc _ (Nat.gcd_dvd_left c d)]
 have h4:0 < c / Nat.gcd c d:=Nat.div_pos (Nat.gcd_le_left d (by omega)) hg
 have h5:c / Nat.gcd c d≤c:=Nat.div_le_self _ _
 rw [← Int.natCast_mul,h3]
 have h6:0 < Nat.lcm c d:=Nat.lcm_pos (by omega) (by omega)
 refine ⟨by show (0:Int) < ((Nat.gcd c d:Nat):Int); omega,by omega,by omega,by omega, ?_, ?_, ?_⟩
 ·exact Int.natCast_dvd_natCast.2 (Nat.lcm_dvd (Int.natCast_dvd_natCast.1 h1) (Int.natCast_dvd_natCast.1 h2))
 ·exact Int.natCast_dvd_natCast.2 (Nat.dvd_lcm_left c d)
 ·exact Int.natCast_dvd_natCast.2 (Nat.dvd_lcm_right c d)
end Go.Fw
namespace Go.Fw
def z3l (m:Int × Int × List Int):Int × Int × List Int:=(m.1,m.1,m.2.2.take (m.1 * m.1).toNat)
theorem zn7 {m:Int × Int × List Int} (hd:z40 m = true):w64 (m.1 * m.1) = m.1 * m.1∧0≤m.1 * m.1∧m.1 * m.1≤25∧m.1 * m.1≤(m.2.2.length:Int):=by
 obtain ⟨n,r,hn,hr,hn1,hn5,hnr,hr8,hl⟩:=z17 hd
 have h1:n * n≤r * n:=Nat.mul_le_mul_right n hnr
 have h2:n * n≤5 * 5:=Nat.mul_le_mul hn5 hn5
 rw [hn,hl]
 have e:(n:Int) * (n:Int) = ((n * n:Nat):Int):=by rw [Int.natCast_mul]
 rw [e]
 rw [z1g (by omega) (by omega)]
 exact ⟨rfl,by omega,by omega,by omega⟩
end Go.Fw
namespace Go.Fw
def insAll (k:Int) (l:List Int):List (List Int):=(List.range (l.length + 1)).map fun i=>ztc l ((i:Nat):Int) [k]
def zk1:Nat→List (List Int)
 | 0=>[[]]
 | k + 1=>(zk1 k).flatMap (insAll (k:Nat))
def zla (n:Nat):Nat→List Int→List (List Int)
 | 0,f=>[f]
 | k + 1,f=>(List.range n).flatMap fun x=>cond (f.any fun y=>decide (y = ((x:Nat):Int))) [] (zla n k (f ++ [((x:Nat):Int)]))
set_option maxRecDepth 100000 in
theorem zh1:((List.range 6).all fun n=>(zk1 n).all (fun o=>(zla n n []).contains o && z49 o n) && (zla n n []).all (fun o=>(zk1 n).contains o) && (zk1 n).contains ((List.range n).map Int.ofNat)) = true:=by decide +kernel
theorem zl9 {n:Nat} (hn:n≤5) (o:List Int):o ∈ zk1 n↔o ∈ zla n n []:=by
 have h:=List.all_eq_true.1 zh1 n (List.mem_range.2 (by omega))
 simp only [Bool.and_eq_true,List.all_eq_true] at h
 obtain ⟨⟨h1,h2⟩,h3⟩:=h
 exact ⟨fun ho=>List.contains_iff_mem.1 (h1 o ho).1,fun ho=>List.contains_iff_mem.1 (h2 o ho)⟩
theorem zh0 {n:Nat} (hn:n≤5) {o:List Int} (ho:o ∈ zk1 n):z49 o n = true:=by
 have h:=List.all_eq_true.1 zh1 n (List.mem_range.2 (by omega))
 simp only [Bool.and_eq_true,List.all_eq_true] at h
 exact (h.1.1 o ho).2
theorem zxp {n:Nat} (hn:n≤5):(List.range n).map Int.ofNat ∈ zk1 n:=by
 have h:=List.all_eq_true.1 zh1 n (List.mem_range.2 (by omega))
 simp only [Bool.and_eq_true,List.all_eq_true] at h
 exact List.contains_iff_mem.1 h.2
theorem zwl:((List.range 6).all fun n=>(List.range (n * n)).all fun p=>decide (z9h n (((List.range n).map Int.ofNat).map Int.toNat) p = p)) = true:=by decide +kernel
theorem zx8 {m:Int × Int × List Int} (h:z40 m = true) (hr:m.2.1 = m.1):z6j m ((List.range m.1.toNat).map Int.ofNat) = m:=by
 obtain ⟨n,r,hn,hr',hn1,hn5,hnr,hr8,hl⟩:=z17 h
 have e:r = n:=by omega
 subst e
 have hb:=List.all_eq_true.1 zwl r (List.mem_range.2 (by omega))
 rw [List.all_eq_true] at hb
 have e1:m.1.toNat = r:=by omega
 unfold z6j
 rw [e1]
 refine congrArg (fun z=>(m.1,m.2.1,z)) ?_
 apply List.ext_getElem?
 intro p
 by_cases hp:p < m.2.2.length
 ·rw [List.getElem?_map,List.getElem?_range hp,Option.map_some]
  have:=of_decide_eq_true (hb p (List.mem_range.2 (by omega)))
  rw [this,List.getD_eq_getElem?_getD,List.getElem?_eq_getElem hp,Option.getD_some]
 ·rw [List.getElem?_eq_none (by simp; omega),List.getElem?_eq_none (Nat.le_of_not_lt hp)]
theorem ordN_len:∀ {n:Nat},n≤5→∀ o ∈ zk1 n,o.length = n:=fun {n} hn o ho=>by
 have:=zh0 hn ho
 simp only [z49,Bool.and_eq_true,decide_eq_true_eq] at this
 omega
theorem zf7:∀ a:List Int,z51 a a = false
 | []=>rfl
 | x :: xs=>by rw [z51,if_pos rfl]; exact zf7 xs
theorem zc7:∀ {a b c:List Int},z51 a b = true→z51 b c = true→z51 a c = true
 | [],[],_,h,_=>by cases h
 | [],_ :: _,[],_,h=>by cases h
 | [],_ :: _,_ :: _,_,_=>rfl
 | _ :: _,[],_,h,_=>by cases h
 | _ :: _,_ :: _,[],_,h=>by cases h
 | x :: xs,y :: ys,z :: zs,h1,h2=>by
  rw [z51] at h1 h2 ⊢
  by_cases e1:x = y
  ·subst e1
   rw [if_pos rfl] at h1
   by_cases e2:x = z
   ·rw [if_pos e2] at h2 ⊢
    exact zc7 h1 h2
   ·rw [if_neg e2] at h2 ⊢
    exact h2
  ·rw [if_neg e1] at h1
   have h1:=of_decide_eq_true h1
   by_cases e2:y = z
   ·subst e2
    rw [if_neg e1]
    exact decide_eq_true h1
   ·rw [if_neg e2] at h2
    have h2:=of_decide_eq_true h2
    rw [if_neg (by omega)]
    exact decide_eq_true (by omega)
theorem zdi:∀ {a b:List Int},z51 a b = false→z51 b a = false→a = b
 | [],[],_,_=>rfl
 | [],_ :: _,h,_=>by cases h
 | _ :: _,[],_,h=>by cases h
 | x :: xs,y :: ys,h1,h2=>by
  rw [z51] at h1 h2
  by_cases e:x = y
  ·subst e
   rw [if_pos rfl] at h1 h2
   rw [zdi h1 h2]
  ·rw [if_neg e] at h1
   rw [if_neg (Ne.symm e)] at h2
   have h1:=of_decide_eq_false h1
   have h2:=of_decide_eq_false h2
   omega
def ze7 (f:List Int→List Int) (b:List Int) (os:List (List Int)):List Int:=os.foldl (fun b o=>if z51 (f o) b = true then f o else b) b
theorem zgb (f:List Int→List Int):∀ (os:List (List Int)) (b:List Int),ze7 f b os = b∨∃ o ∈ os,ze7 f b os = f o
 | [],b=>.inl rfl
 | o :: os,b=>by
  have e:ze7 f b (o :: os) = ze7 f (if z51 (f o) b = true then f o else b) os:=rfl
  rw [e]
  rcases zgb f os (if z51 (f o) b = true then f o else b) with h | ⟨o',h1,h2⟩
  ·rw [h]
   split
   ·exact .inr ⟨o,List.mem_cons_self ..,rfl⟩
   ·exact .inl rfl
  ·exact .inr ⟨o',List.mem_cons_of_mem _ h1,h2⟩
theorem zld (f:List Int→List Int):∀ (os:List (List Int)) (b:List Int),z51 b (ze7 f b os) = false∧∀ o ∈ os,z51 (f o) (ze7 f b os) = false
 | [],b=>⟨zf7 b,fun o ho=>by cases ho⟩
 | o :: os,b=>by
  have e:ze7 f b (o :: os) = ze7 f (if z51 (f o) b = true then f o else b) os:=rfl
  rw [e]
  obtain ⟨h1,h2⟩:=zld f os (if z51 (f o) b = true then f o else b)
  generalize ze7 f (if z51 (f o) b = true then f o else b) os = r at h1 h2
  have fin:z51 b r = false∧z51 (f o) r = false:=by
   by_cases h:z51 (f o) b = true
   ·rw [if_pos h] at h1
    refine ⟨?_,h1⟩
    cases hc:z51 b r
    ·rfl
    ·rw [zc7 h hc] at h1; cases h1
   ·rw [if_neg h] at h1
    refine ⟨h1, ?_⟩
    cases hc:z51 (f o) r
    ·rfl
    ·cases hd:z51 b (f o)
     ·have:=zdi hd (by simpa using h)
      rw [this] at h1
      rw [h1] at hc; cases hc
     ·rw [zc7 hd hc] at h1; cases h1
  exact ⟨fin.1,fun o' ho'=>by
   rcases List.mem_cons.1 ho' with rfl | ho'
   ·exact fin.2
   ·exact h2 o' ho'⟩
theorem zxz {f:List Int→List Int} {os os':List (List Int)} {b b':List Int} (hm:∀ o ∈ os,o ∈ os') (hm':∀ o ∈ os',o ∈ os) (hb:∃ o ∈ os,b = f o) (hb':∃ o ∈ os',b' = f o):ze7 f b os = ze7 f b' os':=by
 have key:∀ {os os':List (List Int)} {b b':List Int},(∀ o ∈ os,o ∈ os')→(∃ o ∈ os,b = f o)→z51 (ze7 f b os) (ze7 f b' os') = false:=by
  intro os os' b b' hm hb
  have hx:∃ o ∈ os,ze7 f b os = f o:=by
   rcases zgb f os b with h | h
   ·rw [h]; exact hb
   ·exact h
  obtain ⟨o,ho,e⟩:=hx
  rw [e]
  exact (zld f os' b').2 o (hm o ho)
 exact zdi (key hm hb) (key hm' hb')
def zb7 (m:Int × Int × List Int) (o:List Int):List Int:=(z6j m o).2.2
def zwi (m:Int × Int × List Int):Int × Int × List Int:=(m.1,m.2.1,ze7 (zb7 m) m.2.2 (zla m.1.toNat m.1.toNat []))
def minI (f:List Int→List Int):List (List Int)→List Int
 | []=>[]
 | o :: os=>ze7 f (f o) os
def canI (m:Int × Int × List Int):Int × Int × List Int:=(m.1,m.2.1,minI (zb7 m) (zk1 m.1.toNat))
theorem can_same {m:Int × Int × List Int} (h:z40 m = true) (hr:m.2.1 = m.1):canI m = zwi m:=by
 obtain ⟨n,r,hn,hr',hn1,hn5,hnr,hr8,hl⟩:=z17 h
 have e1:m.1.toNat = n:=by omega
 unfold canI zwi
 have hid:=zx8 h hr
 rw [e1] at hid ⊢
 refine congrArg (fun z=>(m.1,m.2.1,z)) ?_
 have hm:=zl9 hn5
 have hi:=zxp hn5
 have hi':zb7 m ((List.range n).map Int.ofNat) = m.2.2:=by unfold zb7; rw [hid]
 generalize zla n n [] = S at hm
 generalize hN:zk1 n = O at hm hi
 cases O with
 | nil=>cases hi
 | cons o os =>
  rw [minI]
  have e:ze7 (zb7 m) (zb7 m o) os = ze7 (zb7 m) (zb7 m o) (o :: os):=by
   show _ = ze7 (zb7 m) (if z51 (zb7 m o) (zb7 m o) = true then zb7 m o else zb7 m o) os
   rw [ite_self]
  rw [e]
  exact zxz (fun o' ho'=>(hm o').1 ho') (fun o' ho'=>(hm o').2 ho') ⟨o,List.mem_cons_self ..,rfl⟩ ⟨_,(hm _).1 hi,hi'.symm⟩
end Go.Fw
namespace Go.Fw
theorem zs9:((List.range 6).all fun n=>decide ((zk1 n).length≤120)) = true:=by decide +kernel
theorem zk0 {n:Nat} (hn:n≤5):(zk1 n).length≤120:=of_decide_eq_true (List.all_eq_true.1 zs9 n (List.mem_range.2 (by omega)))
end Go.Fw
namespace Go.Fw
section
variable {n:Nat} {r:Nat→Nat→Bool}
def zqu (n:Nat) (r:Nat→Nat→Bool) (left:Nat→Bool) (v:Nat):Bool:=(List.range n).any fun u=>left u && r u v
def zcy (n:Nat) (r:Nat→Nat→Bool) (left:Nat→Bool) (v:Nat):Nat→Bool:=fun x=>left x && (zqu n r left v || !(decide (x = v)))
def Acy (n:Nat) (r:Nat→Nat→Bool):Prop:=∃ f:Nat→Nat,∀ u v,u < n→v < n→r u v = true→f u < f v
def ze8 {S:Type} (f:S→S):Nat→S→S
 | 0,s=>s
 | k + 1,s=>ze8 f k (f s)
theorem zgd {left:Nat→Bool} {v:Nat}:zqu n r left v = true↔∃ u,u < n∧left u = true∧r u v = true:=by
 simp [zqu,List.any_eq_true,List.mem_range]
theorem zwx {left:Nat→Bool} {v x:Nat} (h:zcy n r left v x = true):left x = true:=(Bool.and_eq_true_iff.1 h).1
theorem zlr:∀ {vs:List Nat} {left:Nat→Bool} {x:Nat},vs.foldl (zcy n r) left x = true→left x = true
 | [],_,_,h=>h
 | v :: vs,left,x,h=>zwx (zlr (vs:=vs) h)
theorem ziq:∀ (vs:List Nat) (left:Nat→Bool),(∀ x,x < n→vs.foldl (zcy n r) left x = false)→∃ f:Nat→Nat,∀ u v,u < n→v < n→left u = true→left v = true→r u v = true→f u < f v
 | [],left,h=>⟨fun _=>0,fun u v hu _ hl _ _=>by rw [show left u = false from h u hu] at hl; cases hl⟩
 | v :: vs,left,h=>by
  obtain ⟨f,hf⟩:=ziq vs (zcy n r left v) h
  cases hb:zqu n r left v
  ·refine ⟨fun x=>if x = v then 0 else f x + 1,fun u w hu hw h1 h2 h3=>?_⟩
   have hwv:w≠v:=fun e=>by
    subst e
    have:zqu n r left w = true:=zgd.2 ⟨u,hu,h1,h3⟩
    rw [hb] at this
    cases this
   show (if u = v then 0 else f u + 1) < if w = v then 0 else f w + 1
   rw [if_neg hwv]
   by_cases e:u = v
   ·rw [if_pos e]; omega
   ·rw [if_neg e]
    have:=hf u w hu hw (by simp [zcy,h1,e]) (by simp [zcy,h2,hwv]) h3
    omega
  ·exact ⟨f,fun u w hu hw h1 h2 h3=>hf u w hu hw (by simp [zcy,h1,hb]) (by simp [zcy,h2,hb]) h3⟩
theorem zpx {p q:Nat→Bool} {v:Nat}:∀ {l:List Nat},(∀ x ∈ l,p x = true→q x = true)→v ∈ l→q v = true→p v = false→l.countP p < l.countP q
 | [],_,hv,_,_=>by cases hv
 | y :: l,h,hv,hq,hp=>by
  have hle:l.countP p≤l.countP q:=List.countP_mono_left fun x hx=>h x (List.mem_cons_of_mem _ hx)
  rcases List.mem_cons.1 hv with rfl | hv
  ·rw [List.countP_cons_of_neg (by simp [hp]),List.countP_cons_of_pos hq]
   omega
  ·have ih:=zpx (fun x hx=>h x (List.mem_cons_of_mem _ hx)) hv hq hp
   have hy:=h y List.mem_cons_self
   cases hpy:p y
   ·rw [List.countP_cons_of_neg (by simp [hpy])]
    cases hqy:q y
    ·rw [List.countP_cons_of_neg (by simp [hqy])]; exact ih
    ·rw [List.countP_cons_of_pos hqy]; omega
   ·rw [List.countP_cons_of_pos hpy,List.countP_cons_of_pos (hy hpy)]
    omega
theorem zo2 {v:Nat}:∀ {vs:List Nat} {left:Nat→Bool},(∀ u,u < n→left u = true→r u v = false)→v ∈ vs→vs.foldl (zcy n r) left v = false
 | [],_,_,hv=>by cases hv
 | y :: vs,left,h,hv=>by
  have h':∀ u,u < n→zcy n r left y u = true→r u v = false:=fun u hu hl=>h u hu (zwx hl)
  by_cases e:y = v
  ·subst e
   have hb:zqu n r left y = false:=by
    cases hb:zqu n r left y
    ·rfl
    ·obtain ⟨u,hu,h1,h2⟩:=zgd.1 hb
     rw [h u hu h1] at h2
     cases h2
   cases hf:vs.foldl (zcy n r) (zcy n r left y) y
   ·exact hf
   ·have:=zlr hf
    simp [zcy,hb] at this
  ·rcases List.mem_cons.1 hv with e' | hv
   ·exact absurd e'.symm e
   ·exact zo2 (left:=zcy n r left y) h' hv
theorem zes {p:Nat→Bool} (f:Nat→Nat):∀ (k:Nat) (x:Nat),f x≤k→x < n→p x = true→∃ v,v < n∧p v = true∧∀ u,u < n→p u = true→f v≤f u
 | 0,x,hk,hx,hp=>⟨x,hx,hp,fun u _ _=>by omega⟩
 | k + 1,x,hk,hx,hp=>by
  by_cases h:∃ u,u < n∧p u = true∧f u < f x
  ·obtain ⟨u,h1,h2,h3⟩:=h
   exact zes f k u (by omega) h1 h2
  ·exact ⟨x,hx,hp,fun u h1 h2=>Nat.le_of_not_lt fun h3=>h ⟨u,h1,h2,h3⟩⟩
theorem zqk (h:Acy n r) (left:Nat→Bool):(List.range n).countP ((List.range n).foldl (zcy n r) left) < (List.range n).countP left∨∀ x,x < n→left x = false:=by
 obtain ⟨f,hf⟩:=h
 by_cases hx:∃ x,x < n∧left x = true
 ·obtain ⟨x,h1,h2⟩:=hx
  obtain ⟨v,k1,k2,k3⟩:=zes (p:=left) f (f x) x (Nat.le_refl _) h1 h2
  refine .inl (zpx (v:=v) (fun x _ h=>zlr h) (by simpa using k1) k2 (zo2 (fun u hu hl=>?_) (by simpa using k1)))
  cases hr:r u v
  ·rfl
  ·have:=hf u v hu k1 hr
   have:=k3 u hu hl
   omega
 ·exact .inr fun x h1=>by
   cases hl:left x
   ·rfl
   ·exact absurd ⟨x,h1,hl⟩ hx
theorem zf2 (h:Acy n r):∀ (k:Nat) (left:Nat→Bool),(List.range n).countP left≤k→∀ x,x < n→ze8 (fun l=>(List.range n).foldl (zcy n r) l) k left x = false
 | 0,left,hc,x,hx=>by
  cases hl:left x
  ·exact hl
  ·have:0 < (List.range n).countP left:=List.countP_pos_iff.2 ⟨x,by simpa using hx,hl⟩
   omega
 | k + 1,left,hc,x,hx=>by
  rcases zqk h left with h1 | h1
  ·exact zf2 h k _ (show (List.range n).countP ((List.range n).foldl (zcy n r) left)≤k by omega) x hx
  ·have h0:∀ (k:Nat) (l:Nat→Bool),(∀ x,x < n→l x = false)→∀ x,x < n→ze8 (fun l=>(List.range n).foldl (zcy n r) l) k l x = false:=by
    intro k
    induction k with
    | zero=>intro l hl; exact hl
    | succ k ih =>
     intro l hl
     refine ih _ fun x hx=>?_
     show (List.range n).foldl (zcy n r) l x = false
     cases hq:(List.range n).foldl (zcy n r) l x
     ·rfl
     ·have:=zlr hq
      rw [hl x hx] at this
      cases this
   exact h0 (k + 1) left h1 x hx
theorem zjl {S:Type} {f:S→Nat→S} (vs:List Nat):∀ (k:Nat) (s:S),ze8 (fun s=>vs.foldl f s) k s = (List.replicate k vs).flatten.foldl f s
 | 0,_=>rfl
 | k + 1,s=>by
  rw [List.replicate_succ,List.flatten_cons,List.foldl_append]
  exact zjl vs k _
theorem acy_iff:(∀ x,x < n→ze8 (fun l=>(List.range n).foldl (zcy n r) l) n (fun _=>true) x = false)↔Acy n r:=by
 constructor
 ·intro h
  obtain ⟨f,hf⟩:=ziq (n:=n) (r:=r) (List.replicate n (List.range n)).flatten (fun _=>true) (by rw [← zjl]; exact h)
  exact ⟨f,fun u v hu hv hr=>hf u v hu hv rfl rfl hr⟩
 ·intro h
  refine zf2 h n _ ?_
  exact Nat.le_trans List.countP_le_length (by simp)
theorem zo1 {S:Type} {left:S→Nat→Bool} {vis:S→Nat→S} {I:S→Prop} (h:∀ s v,v < n→I s→I (vis s v)∧∀ x,x < n→left (vis s v) x = zcy n r (left s) v x) :
  ∀ (vs:List Nat) (s:S) (l:Nat→Bool),(∀ v ∈ vs,v < n)→I s→(∀ x,x < n→left s x = l x)→I (vs.foldl vis s)∧∀ x,x < n→left (vs.foldl vis s) x = vs.foldl (zcy n r) l x
 | [],s,l,_,hI,hl=>⟨hI,hl⟩
 | v :: vs,s,l,hv,hI,hl=>by
  obtain ⟨h1,h2⟩:=h s v (hv v List.mem_cons_self) hI
  refine zo1 h vs _ _ (fun x hx=>hv x (List.mem_cons_of_mem _ hx)) h1 fun x hx=>?_
  rw [h2 x hx]
  have he:zqu n r (left s) v = zqu n r l v:=by
   rw [Bool.eq_iff_iff,zgd,zgd]
   constructor
   ·rintro ⟨u,h1,h2,h3⟩
    exact ⟨u,h1,by rw [← hl u h1]; exact h2,h3⟩
   ·rintro ⟨u,h1,h2,h3⟩
    exact ⟨u,h1,by rw [hl u h1]; exact h2,h3⟩
  unfold zcy
  rw [hl x hx,he]
theorem zjk {S:Type} {left:S→Nat→Bool} {f:S→S} {g:(Nat→Bool)→Nat→Bool} {I:S→Prop} (h:∀ s l,I s→(∀ x,x < n→left s x = l x)→I (f s)∧∀ x,x < n→left (f s) x = g l x) :
  ∀ (k:Nat) (s:S) (l:Nat→Bool),I s→(∀ x,x < n→left s x = l x)→I (ze8 f k s)∧∀ x,x < n→left (ze8 f k s) x = ze8 g k l x
 | 0,_,_,hI,hl=>⟨hI,hl⟩
 | k + 1,s,l,hI,hl=>zjk h k (f s) (g l) (h s l hI hl).1 (h s l hI hl).2
theorem zgr {S:Type} {left:S→Nat→Bool} {vis:S→Nat→S} {I:S→Prop} (h:∀ s v,v < n→I s→I (vis s v)∧∀ x,x < n→left (vis s v) x = zcy n r (left s) v x) {s:S} (hI:I s) (hs:∀ x,x < n→left s x = true) :
  I (ze8 (fun s=>(List.range n).foldl vis s) n s)∧((∀ x,x < n→left (ze8 (fun s=>(List.range n).foldl vis s) n s) x = false)↔Acy n r):=by
 obtain ⟨h1,h2⟩:=zjk (left:=left) (f:=fun s=>(List.range n).foldl vis s) (g:=fun l=>(List.range n).foldl (zcy n r) l) (I:=I) (fun s l hI hl=>zo1 h (List.range n) s l (fun v hv=>by simpa using hv) hI hl) n s (fun _=>true) hI hs
 refine ⟨h1, ?_⟩
 rw [← acy_iff]
 constructor
 ·intro hq x hx
  rw [← h2 x hx]
  exact hq x hx
 ·intro hq x hx
  rw [h2 x hx]
  exact hq x hx
def z7w (m:Int × Int × List Int) (u v:Nat):Bool:=decide (0 < ent m u v)
def ledL (m:Int × Int × List Int) (L:List Int) (j:Nat):Bool:=(List.range m.1.toNat).any fun i=>zgc L (i:Int) && z7w m i j
def visL (m:Int × Int × List Int) (L:List Int) (j:Nat):List Int:=cond (ledL m L j) L (zta L (j:Int))
def zj0 (m:Int × Int × List Int):List Int:=ze8 (fun L=>(List.range m.1.toNat).foldl (visL m) L) m.1.toNat ((List.range m.1.toNat).map fun (i:Nat)=>(i:Int))
def goodL (n:Nat) (L:List Int):Prop:=L.Nodup∧∀ y ∈ L,∃ x:Nat,x < n∧y = x
theorem zt8 {α:Type} [DecidableEq α] {L:List α} {y:α}:(zta L y).Sublist L:=List.eraseP_sublist
theorem mem_mDel {α:Type} [DecidableEq α] {L:List α} (hn:L.Nodup) {x y:α}:x ∈ zta L y↔x ∈ L∧x≠y:=by
 induction L with
 | nil=>simp [zta]
 | cons a L ih =>
  obtain ⟨h1,h2⟩:=List.nodup_cons.1 hn
  unfold zta at ih ⊢
  by_cases e:a = y
  ·subst e
   rw [List.eraseP_cons_of_pos (by simp)]
   constructor
   ·intro hx
    exact ⟨List.mem_cons_of_mem _ hx,fun e=>h1 (e ▸ hx)⟩
   ·rintro ⟨hx,hne⟩
    rcases List.mem_cons.1 hx with rfl | hx
    ·exact absurd rfl hne
    ·exact hx
  ·rw [List.eraseP_cons_of_neg (by simpa using e),List.mem_cons,List.mem_cons,ih h2]
   constructor
   ·rintro (rfl | ⟨h3,h4⟩)
    ·exact ⟨.inl rfl,e⟩
    ·exact ⟨.inr h3,h4⟩
   ·rintro ⟨rfl | h3,h4⟩
    ·exact .inl rfl
    ·exact .inr ⟨h3,h4⟩
theorem zy6 (m:Int × Int × List Int):zj0 m = []↔Acy m.1.toNat (z7w m):=by
 obtain ⟨⟨h1,h2⟩,h3⟩:=zgr (n:=m.1.toNat) (r:=z7w m) (left:=fun L x=>zgc L (x:Int)) (vis:=visL m) (I:=goodL m.1.toNat) (fun L v hv hI=>by
  obtain ⟨h1,h2⟩:=hI
  unfold visL
  have he:ledL m L v = zqu m.1.toNat (z7w m) (fun x=>zgc L (x:Int)) v:=rfl
  cases hb:ledL m L v
  ·refine ⟨⟨zt8.nodup h1,fun y hy=>h2 y (zt8.subset hy)⟩,fun x hx=>?_⟩
   rw [cond_false,Bool.eq_iff_iff,zlh,mem_mDel h1]
   simp only [zcy,← he,hb,Bool.false_or,Bool.and_eq_true,zlh,Bool.not_eq_true',decide_eq_false_iff_not,ne_eq,Int.natCast_inj]
  ·refine ⟨⟨h1,h2⟩,fun x hx=>?_⟩
   simp only [cond_true,zcy,← he,hb,Bool.true_or,Bool.and_true]) (s:=(List.range m.1.toNat).map fun (i:Nat)=>(i:Int))
  ⟨by
   refine List.Pairwise.map _ ?_ List.nodup_range
   intro a b h e
   exact h (by exact_mod_cast e),fun y hy=>by
   obtain ⟨x,h1,rfl⟩:=List.mem_map.1 hy
   exact ⟨x,by simpa using h1,rfl⟩⟩ (fun x hx=>zlh.2 (List.mem_map.2 ⟨x,by simpa using hx,rfl⟩))
 rw [← h3]
 show zj0 m = []↔∀ x,x < m.1.toNat→zgc (zj0 m) (x:Int) = false
 constructor
 ·intro h x hx
  rw [h]; rfl
 ·intro h
  cases hl:zj0 m with
  | nil=>rfl
  | cons y l =>
   obtain ⟨x,hx,rfl⟩:=h2 y (by show y ∈ zj0 m; rw [hl]; simp)
   have:=h x hx
   rw [hl] at this
   simp [zgc] at this
end
end Go.Fw
set_option linter.unusedSimpArgs false
set_option maxRecDepth 100000
namespace Go.Fw
section
variable {ρ:Type}
namespace z11
def P (m:Int × Int × List Int) (i j:Int):Bool:=atP m i j
def g (m:Int × Int × List Int) (i j:Int):Int:=atK m i j
end z11
namespace z11
def Z0 {ρ:Type} (N:Nat) (a:MT) (b c:Int) (kr:Int→Option ρ):Option ρ :=
 cond (lk N (inB (w64 ((w64 (b * a.1)) + c)) a.2.2.length)) (
  kr (a.2.2.getD (w64 ((w64 (b * a.1)) + c)).toNat 0)) none
def Spec:Prop:=∀  (v0:MT) (v1 v2:Int),Ty.bd (.pair (.int .i64) (.pair (.int .i64) (.sl 0 (.int .i64)))) v0→P v0 v1 v2 = true→∃ N0,∀ N,N0≤N→Z0 N v0 v1 v2 (fun v6=>some ((),(v6,()))) = some ((),((g v0 v1 v2),()))
theorem ok:Spec:=fun m i j hb hp=>⟨0,fun N hN=>by
 obtain ⟨h1,h2,h3⟩:=zut hb.2.2.1 hp
 simp only [Z0,g,atK,h1]
 rw [ct (zyh h2 h3)]⟩
end z11
end
end Go.Fw
namespace Go.Fw
section
variable {ρ:Type}
namespace z21
def g (l:List Int) (n:Int):Bool:=l.any fun x=>decide (x = n)
end z21
namespace z21
def Z1 {ρ:Type} (N:Nat) (a:LI) (b:Int) (kn:LI→Int→Option ρ):Option ρ :=
 kn a b
def Z4 {ρ:Type} (N:Nat) (a:LI) (b:Int) (kn:LI→I2 (Option ρ)):Option ρ :=
 kn a b 0
def Z7 {ρ:Type} (N:Nat) (a:LI) (c b:Int) (kn:LI→I2 (Option ρ)) (k0:Option ρ) (kr:Bool→Option ρ):Option ρ :=
 cond (lk N (decide (b < (a.length:Int))))
 (
  cond (lk N (inB b a.length)) (
   cond (lk N (decide ((a.getD b.toNat 0) = c)))
   (
    kr true)
   (
    kn a c (w64 (b + 1)))) none)
 (
  k0)
def Z6L {ρ:Type} (N:Nat) (k0:Option ρ) (kr:Bool→Option ρ):Nat→LI→Int→Int→Option ρ
 | 0,_,_,_=>none
 | M + 1,a,b,c=>Z7 N a b c (fun a b c=>Z6L N k0 kr M a b c) k0 kr
def Z6 N a b c k0 kr:=(Z6L N k0 kr N a b c:Option ρ)
def Z5 N a b c kn kr:=(Z6 N a b c kn kr:Option ρ)
def Z3 N a b kn kr:=(Z4 N a b (fun a b c=>Z5 N a b c kn kr):Option ρ)
def Z8 {ρ:Type} (N:Nat)  (kr:Bool→Option ρ):Option ρ :=
 kr false
def Z2 N a b kr:=(Z3 N a b (Z8 N kr) kr:Option ρ)
def Z0 N a b kr:=(Z1 N a b (fun a b=>Z2 N a b kr):Option ρ)
def Spec:Prop:=∀  (v0:LI) (v1:Int),Ty.bd (.sl 0 (.int .i64)) v0→∃ N0,∀ N,N0≤N→Z0 N v0 v1 (fun v4=>some ((),(v4,()))) = some ((),((g v0 v1),()))
theorem loop {ρ:Type} (N:Nat) (kr:Bool→Option ρ) (n:Int) (a:List Int) (ha:a.length≤maxLen):∀ (M j:Nat),j≤a.length→a.length - j < M →
  Z6L N (kr false) kr M a n (j:Int) = kr (g (a.drop j) n):=by
 intro M
 induction M with
 | zero=>intro j _ h; omega
 | succ M ih =>
  intro j hj hM
  simp only [Z6L,Z7]
  by_cases h:j < a.length
  ·rw [ct (dt (by omega)),ct (z1b h),Int.toNat_natCast,z1c (by omega),ih (j + 1) h (by omega),z3z 0 h]
   simp only [g,List.any_cons,z1x]
   cases decide (a.getD j 0 = n) <;> rfl
  ·rw [cf (df (by omega)),List.drop_of_length_le (by omega)]; rfl
theorem ok:Spec:=fun a n ha=>⟨a.length + 1,fun N hN=>by
 simp only [Z1,Z4,Z7,Z6,Z5,Z3,Z8,Z2,Z0]
 exact (loop N (fun t=>some ((),(t,()))) n a ha.1 N 0 (by omega) (by omega)).trans rfl⟩
theorem g_iff {l:List Int} {n:Int}:g l n = true↔n ∈ l:=by
 simp [g]
end z21
end
end Go.Fw
namespace Go.Fw
section
variable {ρ:Type}
namespace z0q
def P (m:Int × Int × List Int) (i:Int):Bool:=z40 m && (decide (0≤i) && decide (i < m.1))
def g (m:Int × Int × List Int) (i:Int):List Int × List Int:=(z33 (zf4 m i.toNat).1,z33 (zf4 m i.toNat).2)
end z0q
namespace z0q
def Z1 {ρ:Type} (N:Nat) (a:MT) (b:Int) (kn:I3 (LI→Option ρ)):Option ρ :=
 kn b a.1 a.2.1 a.2.2
def Z3 {ρ:Type} (N:Nat) (a b c:Int) (d:LI) (kn:LI→I3 (LI→Option ρ)):Option ρ :=
 kn ([a]:List Int) a b c d
def Z5 {ρ:Type} (N:Nat) (a:LI) (b c d:Int) (e:LI) (kn:LI→LI→I2 (LI→Option ρ)):Option ρ :=
 kn a ([b]:List Int) c d e
def Z8 {ρ:Type} (N:Nat) (a b:LI) (c d:Int) (e:LI) (kn:LI→LI→I3 (LI→Option ρ)):Option ρ :=
 kn a b 0 c d e
def Z12 {ρ:Type} (N:Nat) (a b:LI) (c d e:Int) (f:LI) (kn:LI→LI→I3 (LI→Option ρ)) (k0:LI→LI→Option ρ):Option ρ :=
 cond (lk N (decide (c < (a.length:Int))))
 (
  kn a b c d e f)
 (
  k0 a b)
def Z16 {ρ:Type} (N:Nat) (a b:LI) (c d e:Int) (f:LI) (kn:LI→LI→I4 (LI→Option ρ)):Option ρ :=
 kn a b c 0 d e f
def Z19 {ρ:Type} (N:Nat) (a h:LI) (c b d e:Int) (f:LI) (kn:LI→LI→I4 (LI→Option ρ)) (k2:LI→LI→I3 (LI→Option ρ)):Option ρ :=
 cond (lk N (decide (b < d)))
 (
  cond (lk N (inB c a.length)) (
   cond (lk N (z11.P (d,(e,f)) (a.getD c.toNat 0) b)) (
    cond (lk N (!(decide ((z11.g (d,(e,f)) (a.getD c.toNat 0) b) = 0))))
    (
     cond (!(lk N ((z21.g a b))))
     (
      cond (lk N (Nat.blt (a.length + ([b]:List Int).length) 1099511627776)) (
       cond (lk N (inB c (a ++ ([b]:List Int)).length)) (
        cond (lk N (Nat.blt (h.length + ([((a ++ ([b]:List Int)).getD c.toNat 0)]:List Int).length) 1099511627776)) (
         kn (a ++ ([b]:List Int)) (h ++ ([((a ++ ([b]:List Int)).getD c.toNat 0)]:List Int)) c (w64 (b + 1)) d e f) none) none) none)
     (
      kn a h c (w64 (b + 1)) d e f))
    (
     kn a h c (w64 (b + 1)) d e f)) none) none)
 (
  k2 a h c d e f)
def Z18L {ρ:Type} (N:Nat) (k2:LI→LI→I3 (LI→Option ρ)):Nat→LI→LI→Int→Int→Int→Int→LI→Option ρ
 | 0,_,_,_,_,_,_,_=>none
 | M + 1,a,b,c,d,e,f,g=>Z19 N a b c d e f g (fun a b c d e f g=>Z18L N k2 M a b c d e f g) k2
def Z18 N a b c d e f g k2:=(Z18L N k2 N a b c d e f g:Option ρ)
def Z17 N a b c d e f g kn:=(Z18 N a b c d e f g kn:Option ρ)
def Z15 N a b c d e f kn:=(Z16 N a b c d e f (fun a b c g d e f=>Z17 N a b c g d e f kn):Option ρ)
def Z14 N a b c d e f kn:=(Z15 N a b c d e f kn:Option ρ)
def Z20 {ρ:Type} (N:Nat) (a b:LI) (c d e:Int) (f:LI) (kn:LI→LI→I3 (LI→Option ρ)):Option ρ :=
 kn a b (w64 (c + 1)) d e f
def Z13 N a b c d e f kn:=(Z14 N a b c d e f (fun a b c d e f=>Z20 N a b c d e f kn):Option ρ)
def Z11 N a b c d e f kn k0:=(Z12 N a b c d e f (fun a b c d e f=>Z13 N a b c d e f kn) k0:Option ρ)
def Z10L {ρ:Type} (N:Nat) (k0:LI→LI→Option ρ):Nat→LI→LI→Int→Int→Int→LI→Option ρ
 | 0,_,_,_,_,_,_=>none
 | M + 1,a,b,c,d,e,f=>Z11 N a b c d e f (fun a b c d e f=>Z10L N k0 M a b c d e f) k0
def Z10 N a b c d e f k0:=(Z10L N k0 N a b c d e f:Option ρ)
def Z9 N a b c d e f kn:=(Z10 N a b c d e f kn:Option ρ)
def Z7 N a b c d e kn:=(Z8 N a b c d e (fun a b f c d e=>Z9 N a b f c d e kn):Option ρ)
def Z21 {ρ:Type} (N:Nat) (a b:LI) (kr:LI→LI→Option ρ):Option ρ :=
 kr a b
def Z6 N a b c d e kr:=(Z7 N a b c d e (fun a b=>Z21 N a b kr):Option ρ)
def Z4 N a e b c d kr:=(Z5 N a e b c d (fun a f b c d=>Z6 N a f b c d kr):Option ρ)
def Z2 N a b c d kr:=(Z3 N a b c d (fun e a b c d=>Z4 N e a b c d kr):Option ρ)
def Z0 N b a kr:=(Z1 N b a (fun a c d e=>Z2 N a c d e kr):Option ρ)
def Spec:Prop:=∀  (v0:MT) (v1:Int),Ty.bd (.pair (.int .i64) (.pair (.int .i64) (.sl 0 (.int .i64)))) v0→P v0 v1 = true→∃ N0,∀ N,N0≤N→Z0 N v0 v1 (fun v4 v5=>some ((),(v4,(v5,())))) = some ((),((g v0 v1).1,((g v0 v1).2,())))
theorem inner {ρ:Type} (N:Nat) (k2:List Int→List Int→Int→Int→Int→List Int→Option ρ) (m:Int × Int × List Int) (hd:z40 m = true) (i p:Nat):∀ (M j:Nat) (s:List Nat × List Nat),zg5 m.1.toNat (ent m) i s→p < s.1.length→j≤m.1.toNat→m.1.toNat - j < M →
  Z18L N k2 M (z33 s.1) (z33 s.2) (p:Int) (j:Int) m.1 m.2.1 m.2.2 =
   k2 (z33 (pIn (ent m) (s.1.getD p 0) ((List.range m.1.toNat).drop j) s).1) (z33 (pIn (ent m) (s.1.getD p 0) ((List.range m.1.toNat).drop j) s).2) (p:Int) m.1 m.2.1 m.2.2:=by
 obtain ⟨n,r,hn,hr,hn1,hn5,hnr,hr8,hl⟩:=z17 hd
 intro M
 induction M with
 | zero=>intro j s _ _ _ h; omega
 | succ M ih =>
  intro j s hs hp hj hM
  have hle:=hs.le
  have hlen:=hs.len
  simp only [Z18L,Z19]
  by_cases h:j < m.1.toNat
  ·have hx:s.1.getD p 0 < m.1.toNat:=hs.lt _ (z1m 0 hp)
   have h1:Nat.blt ((z33 s.1).length + ([(j:Int)]).length) 1099511627776 = true:=by
    simp [z20,Nat.blt_eq]; omega
   have h2:Nat.blt ((z33 s.2).length + ([((z33 (s.1 ++ [j])).getD (p:Int).toNat 0)]).length) 1099511627776 = true:=by
    simp [z20,Nat.blt_eq]; omega
   rw [ct (dt (by omega)),ct (z1b (by rw [z20]; exact hp)),z3q h,pIn]
   simp only [Int.toNat_natCast,z3m]
   rw [ct (show z11.P (m.1,(m.2.1,m.2.2)) _ _ = true from zmg hd (by omega) h),z1c (by rw [z0z]; omega)]
   have hA:z11.g (m.1,(m.2.1,m.2.2)) ((s.1.getD p 0:Nat):Int) (j:Int) = ent m (s.1.getD p 0) j:=z9i (by omega) _ _
   by_cases ha:ent m (s.1.getD p 0) j = 0
   ·rw [cf (nf (hA.trans ha)),if_neg (fun hc=>hc.1 ha)]
    exact ih (j + 1) s hs hp h (by omega)
   ·rw [ct (nt (fun hc=>ha (hA.symm.trans hc)))]
    by_cases hm:j ∈ s.1
    ·rw [cf' (by rw [z1x,z21.g_iff.2 (zt6.2 hm)]; rfl),if_neg (fun hc=>hc.2 hm)]
     exact ih (j + 1) s hs hp h (by omega)
    ·have hf:z21.g (z33 s.1) (j:Int) = false:=by
      cases hc:z21.g (z33 s.1) (j:Int)
      ·rfl
      ·exact absurd (zt6.1 (z21.g_iff.1 hc)) hm
     rw [ct' (by rw [z1x,hf]; rfl),ct h1,zca,ct (z1b (by rw [z20]; simp; omega)),if_pos ⟨ha,hm⟩]
     have e:(s.1 ++ [j]).getD p 0 = s.1.getD p 0:=z2z hp
     rw [z3m,e,zca]
     rw [z3m,Int.toNat_natCast,e] at h2
     rw [ct h2]
     have:=ih (j + 1) (s.1 ++ [j],s.2 ++ [s.1.getD p 0]) (hs.step hp h ⟨ha,hm⟩) (by simp; omega) h (by omega)
     simp only [e] at this
     exact this
  ·rw [cf (df (by omega)),List.drop_of_length_le (by simp; omega),pIn]
theorem loop {ρ:Type} (N:Nat) (hN:10≤N) (k0:List Int→List Int→Option ρ) (m:Int × Int × List Int) (hd:z40 m = true) (i:Nat):∀ (M p:Nat) (s:List Nat × List Nat),zg5 m.1.toNat (ent m) i s→p≤m.1.toNat→m.1.toNat - p < M →
  Z10L N k0 M (z33 s.1) (z33 s.2) (p:Int) m.1 m.2.1 m.2.2 = k0 (z33 (pGo (ent m) m.1.toNat (m.1.toNat - p) p s).1) (z33 (pGo (ent m) m.1.toNat (m.1.toNat - p) p s).2):=by
 obtain ⟨n,r,hn,hr,hn1,hn5,hnr,hr8,hl⟩:=z17 hd
 intro M
 induction M with
 | zero=>intro p s _ _ h; omega
 | succ M ih =>
  intro p s hs hp hM
  have hle:=hs.le
  simp only [Z10L,Z11,Z12]
  by_cases h:p < s.1.length
  ·rw [ct (dt (by rw [z20]; omega))]
   simp only [Z13,Z14,Z15,Z16,Z17,Z18,Z20]
   have hin:=inner (ρ:=ρ) N (fun a b c d e f=>Z10L N k0 M a b (w64 (c + 1)) d e f) m hd i p N 0 s hs h (by omega) (by omega)
   rw [show ((0:Nat):Int) = 0 from rfl] at hin
   rw [hin,z1c (by rw [z0z]; omega),List.drop_zero]
   obtain ⟨h1,h2,h3⟩:=zl8 (p:=p) (List.range m.1.toNat) s hs h (fun x hx=>List.mem_range.1 hx)
   rw [ih (p + 1) _ h1 (by omega) (by omega),show m.1.toNat - p = (m.1.toNat - (p + 1)) + 1 by omega,pGo,if_pos h]
  ·rw [cf (df (by rw [z20]; omega))]
   cases hc:m.1.toNat - p with
   | zero=>rfl
   | succ f=>rw [pGo,if_neg h]
theorem ok:Spec:=fun m i hb hp=>⟨10,fun N hN=>by
 simp only [P,Bool.and_eq_true,decide_eq_true_eq] at hp
 obtain ⟨hd,h0,h1⟩:=hp
 obtain ⟨x,rfl⟩:=Int.eq_ofNat_of_zero_le h0
 obtain ⟨n,r,hn,hr,hn1,hn5,hnr,hr8,hl⟩:=z17 hd
 simp only [Z0,Z1,Z2,Z3,Z4,Z5,Z6,Z7,Z8,Z9,Z10,Z21]
 have:=loop (ρ:=Unit × List Int × List Int × Unit) N hN (fun a b=>some ((),(a,(b,())))) m hd x N 0 ([x],[x]) (zg5.first (by omega)) (by omega) (by omega)
 exact this⟩
end z0q
end
end Go.Fw
namespace Go.Fw
section
variable {ρ:Type}
namespace z3a
def g (n:Int):Int:=mx n (w64 (0 - n))
end z3a
namespace z3a
def Z0 {ρ:Type} (N:Nat) (a:Int) (kr:Int→Option ρ):Option ρ :=
 kr (mx a (w64 (0 - a)))
def Spec:Prop:=∀  (v0:Int),∃ N0,∀ N,N0≤N→Z0 N v0 (fun v2=>some ((),(v2,()))) = some ((),((g v0),()))
theorem ok:Spec:=fun n=>⟨0,fun N hN=>by
 simp only [Z0,g]⟩
end z3a
end
end Go.Fw
namespace Go.Fw
section
variable {ρ:Type}
namespace z2b
def P (a b:Int):Bool:=decide (0≤a) && (decide (a < 9223372036854775808) && (decide (0≤b) && decide (b < 9223372036854775808)))
def g (a b:Int):Int:=(Int.gcd a b:Int)
end z2b
namespace z2b
def Z1 {ρ:Type} (N:Nat) (a b:Int) (kn:I2 (Option ρ)):Option ρ :=
 kn a b
def Z5 {ρ:Type} (N:Nat) (b a:Int) (kn:I2 (Option ρ)) (k0:Int→Option ρ):Option ρ :=
 cond (lk N (!(decide (a = 0))))
 (
  cond (lk N (!(decide (a = 0)))) (
   kn a (Int.tmod b a)) none)
 (
  k0 b)
def Z4L {ρ:Type} (N:Nat) (k0:Int→Option ρ):Nat→Int→Int→Option ρ
 | 0,_,_=>none
 | M + 1,a,b=>Z5 N a b (fun a b=>Z4L N k0 M a b) k0
def Z4 N a b k0:=(Z4L N k0 N a b:Option ρ)
def Z3 N a b kn:=(Z4 N a b kn:Option ρ)
def Z6 {ρ:Type} (N:Nat) (a:Int) (kr:Int→Option ρ):Option ρ :=
 kr a
def Z2 N a b kr:=(Z3 N a b (fun a=>Z6 N a kr):Option ρ)
def Z0 N a b kr:=(Z1 N a b (fun a b=>Z2 N a b kr):Option ρ)
def Spec:Prop:=∀  (v0 v1:Int),P v0 v1 = true→∃ N0,∀ N,N0≤N→Z0 N v0 v1 (fun v4=>some ((),(v4,()))) = some ((),((g v0 v1),()))
theorem loop {ρ:Type} (N:Nat) (k0:Int→Option ρ):∀ (M:Nat) (a b:Nat),b < M→Z4L N k0 M (a:Int) (b:Int) = k0 (Nat.gcd b a:Nat):=by
 intro M
 induction M with
 | zero=>intro a b h; omega
 | succ M ih =>
  intro a b hM
  simp only [Z4L,Z5]
  by_cases h:b = 0
  ·subst h
   rw [cf (by simp),Nat.gcd_zero_left]
  ·rw [ct (nt (by omega)),ct (nt (by omega)),show Int.tmod (a:Int) (b:Int) = ((a % b:Nat):Int) from rfl,ih _ _ (by have:=Nat.mod_lt a (Nat.pos_of_ne_zero h); omega),← Nat.gcd_rec]
theorem ok:Spec:=fun a b hp=>⟨b.toNat + 1,fun N hN=>by
 simp only [P,Bool.and_eq_true,decide_eq_true_eq] at hp
 obtain ⟨h1,h2,h3,h4⟩:=hp
 obtain ⟨x,rfl⟩:=Int.eq_ofNat_of_zero_le h1
 obtain ⟨y,rfl⟩:=Int.eq_ofNat_of_zero_le h3
 simp only [Z1,Z5,Z4,Z3,Z6,Z2,Z0,g]
 rw [loop N _ N x y (by omega),Nat.gcd_comm]
 rfl⟩
end z2b
end
end Go.Fw
namespace Go.Fw
section
variable {ρ:Type}
namespace z03
def P (m:Int × Int × List Int):Bool:=z2c m
def g (m:Int × Int × List Int):List Int × Bool:=(z6h m,!decide (z6h m = []))
end z03
namespace z03
def Z1 {ρ:Type} (N:Nat) (a:MT) (kn:I2 (LI→Option ρ)):Option ρ :=
 kn a.1 a.2.1 a.2.2
def Z3 {ρ:Type} (N:Nat) (a b:Int) (c:LI) (kn:LI→I2 (LI→Option ρ)):Option ρ :=
 cond (lk N (leB 0 a && decide (a < 1099511627776))) (
  kn (List.replicate a.toNat (0:Int)) a b c) none
def Z6 {ρ:Type} (N:Nat) (a:LI) (b c:Int) (d:LI) (kn:LI→I3 (LI→Option ρ)):Option ρ :=
 kn a 0 b c d
def Z10 {ρ:Type} (N:Nat) (b:LI) (c a d:Int) (e:LI) (kn:LI→I3 (LI→Option ρ)) (k0:LI→I2 (LI→Option ρ)):Option ρ :=
 cond (lk N (decide (c < a)))
 (
  kn b c a d e)
 (
  k0 b a d e)
def Z14 {ρ:Type} (N:Nat) (a:LI) (b c d:Int) (e:LI) (kn k1:LI→I3 (LI→Option ρ)):Option ρ :=
 cond (lk N (inB b a.length)) (
  cond (lk N (decide (0 < (a.getD b.toNat 0))))
  (
   k1 a b c d e)
  (
   kn a b c d e)) none
def Z16 {ρ:Type} (N:Nat) (e:LI) (a b c:Int) (d:LI) (kn:LI→LI→LI→I3 (LI→Option ρ)):Option ρ :=
 cond (lk N (z0q.P (b,(c,d)) a)) (
  kn e (z0q.g (b,(c,d)) a).1 (z0q.g (b,(c,d)) a).2 a b c d) none
def Z18 {ρ:Type} (N:Nat) (b c d:LI) (a e f:Int) (g:LI) (kn:LI→LI→LI→I3 (LI→Option ρ)):Option ρ :=
 cond (lk N (inB a b.length)) (
  kn (b.set a.toNat 1) c d a e f g) none
def Z21 {ρ:Type} (N:Nat) (a b c:LI) (d e f:Int) (g:LI) (kn:LI→LI→LI→I4 (LI→Option ρ)):Option ρ :=
 kn a b c d 1 e f g
def Z24 {ρ:Type} (N:Nat) (d b e:LI) (c a f h:Int) (i:LI) (kn:LI→LI→LI→I4 (LI→Option ρ)) (k2:LI→LI→LI→I3 (LI→Option ρ)):Option ρ :=
 cond (lk N (decide (a < (b.length:Int))))
 (
  cond (lk N (inB c d.length)) (
   cond (lk N (inB a b.length)) (
    cond (lk N (inB a e.length)) (
     cond (lk N (z11.P (f,(h,i)) (b.getD a.toNat 0) (e.getD a.toNat 0))) (
      cond (lk N (inB c d.length)) (
       kn (d.set c.toNat (w64 ((d.getD c.toNat 0) * (z3a.g (z11.g (f,(h,i)) (b.getD a.toNat 0) (e.getD a.toNat 0)))))) b e c (w64 (a + 1)) f h i) none) none) none) none) none)
 (
  k2 d b e c f h i)
def Z23L {ρ:Type} (N:Nat) (k2:LI→LI→LI→I3 (LI→Option ρ)):Nat→LI→LI→LI→Int→Int→Int→Int→LI→Option ρ
 | 0,_,_,_,_,_,_,_,_=>none
 | M + 1,a,b,c,d,e,f,g,h=>Z24 N a b c d e f g h (fun a b c d e f g h=>Z23L N k2 M a b c d e f g h) k2
def Z23 N a b c d e f g h k2:=(Z23L N k2 N a b c d e f g h:Option ρ)
def Z22 N a b c d e f g h kn:=(Z23 N a b c d e f g h kn:Option ρ)
def Z20 N a b c d e f g kn:=(Z21 N a b c d e f g (fun a b c d h e f g=>Z22 N a b c d h e f g kn):Option ρ)
def Z26 {ρ:Type} (N:Nat) (a c d:LI) (b e f:Int) (g:LI) (kn:LI→LI→LI→I4 (LI→Option ρ)):Option ρ :=
 cond (lk N (inB b a.length)) (
  kn a c d b (a.getD b.toNat 0) e f g) none
def Z29 {ρ:Type} (N:Nat) (a b c:LI) (d e f g:Int) (h:LI) (kn:LI→LI→LI→I5 (LI→Option ρ)):Option ρ :=
 kn a b c d e 1 f g h
def Z32 {ρ:Type} (N:Nat) (h b c:LI) (j i a d e:Int) (f:LI) (kn:LI→LI→LI→I5 (LI→Option ρ)) (k4:LI→LI→I4 (LI→Option ρ)):Option ρ :=
 let x1_:=(z3a.g (z11.g (d,(e,f)) (b.getD a.toNat 0) (c.getD a.toNat 0)))
 let x2_:=(lk N (inB a b.length))
 let x0_:=(h.set (b.getD a.toNat 0).toNat (w64 (Int.tdiv (w64 ((h.getD (c.getD a.toNat 0).toNat 0) * (z3a.g (z11.g (d,(e,f)) (c.getD a.toNat 0) (b.getD a.toNat 0))))) x1_)))
 cond (lk N (decide (a < (b.length:Int))))
 (
 cond x2_ (
 cond (lk N (inB a c.length)) (
 cond (lk N (inB (c.getD a.toNat 0) h.length)) (
 cond (lk N (inB a c.length)) (
 cond x2_ (
 cond x2_ (
 cond (lk N (inB a c.length)) (
 cond (lk N (z11.P (d,(e,f)) (c.getD a.toNat 0) (b.getD a.toNat 0))) (
 cond (lk N (z11.P (d,(e,f)) (b.getD a.toNat 0) (c.getD a.toNat 0))) (
 cond (lk N (!(decide (x1_ = 0)))) (
 cond (lk N (inB (b.getD a.toNat 0) h.length)) (
 cond x2_ (
 cond (lk N (inB (b.getD a.toNat 0) x0_.length)) (
 cond (lk N (z2b.P i (x0_.getD (b.getD a.toNat 0).toNat 0))) (
 kn x0_ b c j (z2b.g i (x0_.getD (b.getD a.toNat 0).toNat 0)) (w64 (a + 1)) d e f) none) none) none) none) none) none) none) none) none) none) none) none) none) none)
 (
 k4 h b j i d e f)
def Z31L {ρ:Type} (N:Nat) (k4:LI→LI→I4 (LI→Option ρ)):Nat→LI→LI→LI→Int→Int→Int→Int→Int→LI→Option ρ
 | 0,_,_,_,_,_,_,_,_,_=>none
 | M + 1,a,b,c,d,e,f,g,h,i=>Z32 N a b c d e f g h i (fun a b c d e f g h i=>Z31L N k4 M a b c d e f g h i) k4
def Z31 N a b c d e f g h i k4:=(Z31L N k4 N a b c d e f g h i:Option ρ)
def Z30 N a b c d e f g h i kn:=(Z31 N a b c d e f g h i kn:Option ρ)
def Z28 N a b c d e f g h kn:=(Z29 N a b c d e f g h (fun a b c d e i f g h=>Z30 N a b c d e i f g h kn):Option ρ)
def Z34 {ρ:Type} (N:Nat) (a b:LI) (c d e f:Int) (g:LI) (kn:LI→LI→I5 (LI→Option ρ)):Option ρ :=
 kn a b c d 0 e f g
def Z37 {ρ:Type} (N:Nat) (c a:LI) (e d b f g:Int) (h:LI) (kn:LI→LI→I5 (LI→Option ρ)) (k6:LI→I3 (LI→Option ρ)):Option ρ :=
 cond (lk N (decide (b < (a.length:Int))))
 (
  cond (lk N (inB b a.length)) (
   cond (lk N (inB b a.length)) (
    cond (lk N (inB (a.getD b.toNat 0) c.length)) (
     cond (lk N (!(decide (d = 0)))) (
      cond (lk N (inB (a.getD b.toNat 0) c.length)) (
       kn (c.set (a.getD b.toNat 0).toNat (w64 (Int.tdiv (c.getD (a.getD b.toNat 0).toNat 0) d))) a e d (w64 (b + 1)) f g h) none) none) none) none) none)
 (
  k6 c e f g h)
def Z36L {ρ:Type} (N:Nat) (k6:LI→I3 (LI→Option ρ)):Nat→LI→LI→Int→Int→Int→Int→Int→LI→Option ρ
 | 0,_,_,_,_,_,_,_,_=>none
 | M + 1,a,b,c,d,e,f,g,h=>Z37 N a b c d e f g h (fun a b c d e f g h=>Z36L N k6 M a b c d e f g h) k6
def Z36 N a b c d e f g h k6:=(Z36L N k6 N a b c d e f g h:Option ρ)
def Z35 N a b c d e f g h kn:=(Z36 N a b c d e f g h kn:Option ρ)
def Z33 N a b c d e f g kn:=(Z34 N a b c d e f g (fun a b c d h e f g=>Z35 N a b c d h e f g kn):Option ρ)
def Z27 N a b h c d e f g kn:=(Z28 N a b h c d e f g (fun a b c d e f g=>Z33 N a b c d e f g kn):Option ρ)
def Z25 N a b c d e f g kn:=(Z26 N a b c d e f g (fun a b c d h e f g=>Z27 N a b c d h e f g kn):Option ρ)
def Z19 N a b c d e f g kn:=(Z20 N a b c d e f g (fun a b c d e f g=>Z25 N a b c d e f g kn):Option ρ)
def Z17 N a b c d e f g kn:=(Z18 N a b c d e f g (fun a b c d e f g=>Z19 N a b c d e f g kn):Option ρ)
def Z15 N a b c d e kn:=(Z16 N a b c d e (fun a f g b c d e=>Z17 N a f g b c d e kn):Option ρ)
def Z13 N a b c d e kn k1:=(Z14 N a b c d e (fun a b c d e=>Z15 N a b c d e kn) k1:Option ρ)
def Z12 N a b c d e kn:=(Z13 N a b c d e kn kn:Option ρ)
def Z38 {ρ:Type} (N:Nat) (a:LI) (b c d:Int) (e:LI) (kn:LI→I3 (LI→Option ρ)):Option ρ :=
 kn a (w64 (b + 1)) c d e
def Z11 N a b c d e kn:=(Z12 N a b c d e (fun a b c d e=>Z38 N a b c d e kn):Option ρ)
def Z9 N a b c d e kn k0:=(Z10 N a b c d e (fun a b c d e=>Z11 N a b c d e kn) k0:Option ρ)
def Z8L {ρ:Type} (N:Nat) (k0:LI→I2 (LI→Option ρ)):Nat→LI→Int→Int→Int→LI→Option ρ
 | 0,_,_,_,_,_=>none
 | M + 1,a,b,c,d,e=>Z9 N a b c d e (fun a b c d e=>Z8L N k0 M a b c d e) k0
def Z8 N a b c d e k0:=(Z8L N k0 N a b c d e:Option ρ)
def Z7 N a b c d e kn:=(Z8 N a b c d e kn:Option ρ)
def Z5 N a b c d kn:=(Z6 N a b c d (fun a e b c d=>Z7 N a e b c d kn):Option ρ)
def Z41 {ρ:Type} (N:Nat) (a:LI) (b c:Int) (d:LI) (kn:LI→I3 (LI→Option ρ)):Option ρ :=
 kn a 0 b c d
def Z45 {ρ:Type} (N:Nat) (a:LI) (b c d:Int) (e:LI) (kn:LI→I3 (LI→Option ρ)) (k8:LI→Option ρ):Option ρ :=
 cond (lk N (decide (b < c)))
 (
  kn a b c d e)
 (
  k8 a)
def Z49 {ρ:Type} (N:Nat) (a:LI) (b c d:Int) (e:LI) (kn:LI→I4 (LI→Option ρ)):Option ρ :=
 kn a b 0 c d e
def Z52 {ρ:Type} (N:Nat) (d:LI) (a b c e:Int) (f:LI) (kn:LI→I4 (LI→Option ρ)) (k10:LI→I3 (LI→Option ρ)) (kr:LI→Bool→Option ρ):Option ρ :=
 cond (lk N (decide (b < c)))
 (
  cond (lk N (inB a d.length)) (
   cond (lk N (inB b d.length)) (
    cond (lk N (z11.P (c,(e,f)) a b)) (
     cond (lk N (z11.P (c,(e,f)) b a)) (
      cond (lk N (!(decide ((w64 ((d.getD a.toNat 0) * (z11.g (c,(e,f)) a b))) = (w64 (0 - (w64 ((d.getD b.toNat 0) * (z11.g (c,(e,f)) b a)))))))))
      (
       kr ([]:List Int) false)
      (
       kn d a (w64 (b + 1)) c e f)) none) none) none) none)
 (
  k10 d a c e f)
def Z51L {ρ:Type} (N:Nat) (k10:LI→I3 (LI→Option ρ)) (kr:LI→Bool→Option ρ):Nat→LI→Int→Int→Int→Int→LI→Option ρ
 | 0,_,_,_,_,_,_=>none
 | M + 1,a,b,c,d,e,f=>Z52 N a b c d e f (fun a b c d e f=>Z51L N k10 kr M a b c d e f) k10 kr
def Z51 N a b c d e f k10 kr:=(Z51L N k10 kr N a b c d e f:Option ρ)
def Z50 N a b c d e f kn kr:=(Z51 N a b c d e f kn kr:Option ρ)
def Z48 N a b c d e kn kr:=(Z49 N a b c d e (fun a b f c d e=>Z50 N a b f c d e kn kr):Option ρ)
def Z47 N a b c d e kn kr:=(Z48 N a b c d e kn kr:Option ρ)
def Z53 {ρ:Type} (N:Nat) (a:LI) (b c d:Int) (e:LI) (kn:LI→I3 (LI→Option ρ)):Option ρ :=
 kn a (w64 (b + 1)) c d e
def Z46 N a b c d e kn kr:=(Z47 N a b c d e (fun a b c d e=>Z53 N a b c d e kn) kr:Option ρ)
def Z44 N a b c d e kn k8 kr:=(Z45 N a b c d e (fun a b c d e=>Z46 N a b c d e kn kr) k8:Option ρ)
def Z43L {ρ:Type} (N:Nat) (k8:LI→Option ρ) (kr:LI→Bool→Option ρ):Nat→LI→Int→Int→Int→LI→Option ρ
 | 0,_,_,_,_,_=>none
 | M + 1,a,b,c,d,e=>Z44 N a b c d e (fun a b c d e=>Z43L N k8 kr M a b c d e) k8 kr
def Z43 N a b c d e k8 kr:=(Z43L N k8 kr N a b c d e:Option ρ)
def Z42 N a b c d e kn kr:=(Z43 N a b c d e kn kr:Option ρ)
def Z40 N a b c d kn kr:=(Z41 N a b c d (fun a e b c d=>Z42 N a e b c d kn kr):Option ρ)
def Z54 {ρ:Type} (N:Nat) (a:LI) (kr:LI→Bool→Option ρ):Option ρ :=
 kr a true
def Z39 N a b c d kr:=(Z40 N a b c d (fun a=>Z54 N a kr) kr:Option ρ)
def Z4 N a b c d kr:=(Z5 N a b c d (fun a b c d=>Z39 N a b c d kr):Option ρ)
def Z2 N a b c kr:=(Z3 N a b c (fun d a b c=>Z4 N d a b c kr):Option ρ)
def Z0 N a kr:=(Z1 N a (fun b c d=>Z2 N b c d kr):Option ρ)
def Spec:Prop:=∀  (v0:MT),Ty.bd (.pair (.int .i64) (.pair (.int .i64) (.sl 0 (.int .i64)))) v0→P v0 = true→∃ N0,∀ N,N0≤N→Z0 N v0 (fun v2 v3=>some ((),(v2,(v3,())))) = some ((),((g v0).1,((g v0).2,())))
theorem y6r {a:Int} (h:-99≤a∧a≤99):z3a.g a = z7f a:=by
 unfold z3a.g
 rw [z1g (by omega) (by omega),mx_eq]
 unfold z7f
 omega
section
variable {ρ:Type} {N:Nat} {m:Int × Int × List Int} {s:List Nat × List Nat} {i:Nat}
theorem at_g (hd:0≤m.1) (a b:Nat):z11.g (m.1,(m.2.1,m.2.2)) (a:Int) (b:Int) = ent m a b:=z9i hd a b
theorem at_p (hd:z40 m = true) {a b:Nat} (ha:a < m.1.toNat) (hb:b < m.1.toNat):z11.P (m.1,(m.2.1,m.2.2)) (a:Int) (b:Int) = true:=by
 obtain ⟨n,r,hn,hr,hn1,hn5,hnr,hr8,hl⟩:=z17 hd
 exact zmg hd (by omega) hb
theorem loop1 (hs:z2c m = true) (h:zg5 m.1.toNat (ent m) i s) (hi:i < m.1.toNat) (k2:List Int→List Int→List Int→Int→Int→Int→List Int→Option ρ) (d0:List Int) (hd0:d0.length = m.1.toNat):∀ (M k:Nat),1≤k→k≤s.1.length→s.1.length - k < M →
  Z23L N k2 M (d0.set i (z6z (qK m s) k)) (z33 s.1) (z33 s.2) (i:Int) (k:Int) m.1 m.2.1 m.2.2 = k2 (d0.set i (z6z (qK m s) s.1.length)) (z33 s.1) (z33 s.2) (i:Int) m.1 m.2.1 m.2.2:=by
 have hdim:=z28 (z1w hs)
 obtain ⟨n,r,hn,hr,hn1,hn5,hnr,hr8,hl⟩:=z17 hdim
 have hle:=h.le
 intro M
 induction M with
 | zero=>intro k _ _ hM; omega
 | succ M ih =>
  intro k h1 hk hM
  simp only [Z23L,Z24]
  by_cases hlt:k < s.1.length
  ·have hb:=z7m (zgu hs h) (k + 1) (by omega)
   have hp9:=zxc (k:=k + 1) (by omega)
   have e:qK m s k = z3a.g (ent m (s.1.getD k 0) (s.2.getD k 0)):=by
    rw [y6r (z45 (z1w hs) _ _),qK,if_neg (by omega)]
   rw [ct (dt (by rw [z20]; omega)),ct (z1b (by rw [List.length_set]; omega)),ct (z1b (by rw [z20]; omega)),ct (z1b (by rw [z20,h.len]; omega))]
   simp only [Int.toNat_natCast,z3m]
   rw [ct (at_p hdim (h.lt _ (z1m 0 hlt)) (zn6 h h1 hlt)),ct (z1b (by rw [List.length_set]; omega)),List.set_set,z2a (by omega),if_pos rfl,at_g (by omega),← e,
    show z6z (qK m s) k * qK m s k = z6z (qK m s) (k + 1) from rfl,z1g (by omega) (by omega),z1c (by rw [z0z]; omega)]
   exact ih (k + 1) (by omega) (by omega) (by omega)
  ·rw [cf (df (by rw [z20]; omega)),show k = s.1.length by omega]
theorem loop2 (hs:z2c m = true) (h:zg5 m.1.toNat (ent m) i s) (k4:List Int→List Int→Int→Int→Int→Int→List Int→Option ρ) (d0:List Int):∀ (M k:Nat) (d:List Int) (g:Int),1≤k→k≤s.1.length→s.1.length - k < M→T2 m s d0 k d g →
  ∃ d' g',T2 m s d0 s.1.length d' g'∧Z31L N k4 M d (z33 s.1) (z33 s.2) (i:Int) g (k:Int) m.1 m.2.1 m.2.2 = k4 d' (z33 s.1) (i:Int) g' m.1 m.2.1 m.2.2:=by
 have hdim:=z28 (z1w hs)
 obtain ⟨n,r,hn,hr,hn1,hn5,hnr,hr8,hl⟩:=z17 hdim
 have hle:=h.le
 intro M
 induction M with
 | zero=>intro k _ _ _ _ hM; omega
 | succ M ih =>
  intro k d g h1 hk hM ht
  simp only [Z31L,Z32]
  by_cases hlt:k < s.1.length
  ·obtain ⟨⟨a1,a2⟩,⟨b1,b2⟩,hst⟩:=ht.step hs h (by omega) h1 hlt
   obtain ⟨⟨hq,_⟩,hp,_⟩:=zga hs h h1 hlt
   have hg:=ht.g_range h1
   have hx:=h.lt _ (z1m 0 hlt)
   have hf:=zn6 h h1 hlt
   have e1:z3a.g (ent m (s.1.getD k 0) (s.2.getD k 0)) = qK m s k:=by
    rw [y6r (z45 (z1w hs) _ _),qK,if_neg (by omega)]
   have e2:z3a.g (ent m (s.2.getD k 0) (s.1.getD k 0)) = pK m s k:=by
    rw [y6r (z45 (z1w hs) _ _),pK]
   have c1:inB (k:Int) (z33 s.1).length = true:=z1b (by rw [z20]; omega)
   have c2:inB (k:Int) (z33 s.2).length = true:=z1b (by rw [z20,h.len]; omega)
   rw [ct (dt (by rw [z20]; omega)),ct c1,ct c2]
   simp only [Int.toNat_natCast,z3m]
   rw [ct (z1b (by rw [ht.len]; exact hf)),ct c2,ct c1,ct c1,ct c2,ct (at_p hdim hf hx),ct (at_p hdim hx hf)]
   simp only [at_g (show 0≤m.1 by omega),e1,e2]
   rw [ct (nt (by omega)),ct (z1b (by rw [ht.len]; exact hx)),ct c1]
   simp only [z1g (show -9223372036854775808≤d.getD (s.2.getD k 0) 0 * pK m s k by omega) (by omega)]
   simp only [z1g (show -9223372036854775808≤Int.tdiv (d.getD (s.2.getD k 0) 0 * pK m s k) (qK m s k) by omega) (by omega)]
   rw [ct (z1b (by rw [List.length_set,ht.len]; exact hx)),z2a (by rw [ht.len]; exact hx),if_pos rfl]
   rw [ct (show z2b.P g _ = true by
    simp only [z2b.P,Bool.and_eq_true,decide_eq_true_eq]
    exact ⟨by omega,by omega,by omega,by omega⟩),z1c (by rw [z0z]; omega)]
   exact ih (k + 1) _ _ (by omega) (by omega) (by omega) hst
  ·have e:k = s.1.length:=by omega
   subst e
   exact ⟨d,g,ht,by rw [cf (df (by rw [z20]; omega))]⟩
theorem loop3 (hs:z2c m = true) (h:zg5 m.1.toNat (ent m) i s) (k6:List Int→Int→Int→Int→List Int→Option ρ) (d0 d2:List Int) (g:Int) (h2:T2 m s d0 s.1.length d2 g):∀ (M k:Nat) (d:List Int),k≤s.1.length→s.1.length - k < M→T3 m s d2 g k d →
  ∃ d',T3 m s d2 g s.1.length d'∧Z36L N k6 M d (z33 s.1) (i:Int) g (k:Int) m.1 m.2.1 m.2.2 = k6 d' (i:Int) m.1 m.2.1 m.2.2:=by
 have hle:=h.le
 have hdim:=z28 (z1w hs)
 obtain ⟨n,r,hn,hr,hn1,hn5,hnr,hr8,hl⟩:=z17 hdim
 have hg:=h2.g_range h.pos
 intro M
 induction M with
 | zero=>intro k _ _ hM; omega
 | succ M ih =>
  intro k d hk hM ht
  simp only [Z36L,Z37]
  by_cases hlt:k < s.1.length
  ·have hx:=h.lt _ (z1m 0 hlt)
   have c1:inB (k:Int) (z33 s.1).length = true:=z1b (by rw [z20]; omega)
   have hv:=h2.val k hlt
   have hp8:=zxc (k:=4 + k) (by omega)
   have hdv:0≤Int.tdiv (d2.getD (s.1.getD k 0) 0) g∧Int.tdiv (d2.getD (s.1.getD k 0) 0) g≤9227446944279201:=by
    rw [Int.tdiv_eq_ediv_of_nonneg (by omega)]
    refine ⟨Int.ediv_nonneg (by omega) (by omega), ?_⟩
    have:=Int.ediv_le_self (a:=d2.getD (s.1.getD k 0) 0) g (by omega)
    omega
   rw [ct (dt (by rw [z20]; omega)),ct c1,ct c1]
   simp only [Int.toNat_natCast,z3m]
   rw [ct (z1b (by rw [ht.len]; exact hx)),ct (nt (by omega)),ct (z1b (by rw [ht.len]; exact hx)),ht.cur h.nd h.lt hlt,z1g (by omega) (by omega),z1c (by rw [z0z]; omega)]
   exact ih (k + 1) _ (by omega) (by omega) (ht.step h.nd h.lt hlt)
  ·have e:k = s.1.length:=by omega
   subst e
   exact ⟨d,ht,by rw [cf (df (by rw [z20]; omega))]⟩
theorem outer (hN:10≤N) (hs:z2c m = true) (k0:List Int→Int→Int→List Int→Option ρ):∀ (M i:Nat) (d:List Int),i≤m.1.toNat→m.1.toNat - i < M→d.length = m.1.toNat→Part m.1.toNat (ent m) (fun x=>d.getD x 0)→(∀ x,x < i→0 < d.getD x 0) →
  ∃ d',(d'.length = m.1.toNat∧Part m.1.toNat (ent m) (fun x=>d'.getD x 0)∧∀ x,x < m.1.toNat→0 < d'.getD x 0)∧Z8L N k0 M d (i:Int) m.1 m.2.1 m.2.2 = k0 d' m.1 m.2.1 m.2.2:=by
 have hdim:=z28 (z1w hs)
 obtain ⟨n,r,hn,hr,hn1,hn5,hnr,hr8,hl⟩:=z17 hdim
 intro M
 induction M with
 | zero=>intro i _ _ hM; omega
 | succ M ih =>
  intro i d hi hM hdl hpt hpos
  simp only [Z8L,Z9,Z10]
  by_cases hlt:i < m.1.toNat
  ·rw [ct (dt (by omega))]
   simp only [Z11,Z12,Z13,Z14]
   rw [ct (z1b (by omega)),Int.toNat_natCast]
   by_cases hd:0 < d.getD i 0
   ·rw [ct (dt hd)]
    simp only [Z38]
    rw [z1c (by rw [z0z]; omega)]
    exact ih (i + 1) d hlt (by omega) hdl hpt (fun x hx=>by
     by_cases e:x = i
     ·subst e; exact hd
     ·exact hpos x (by omega))
   ·rw [cf (df hd)]
    obtain ⟨h,hcl⟩:=piece_ok hlt
    simp only [Z15,Z16]
    rw [ct (show z0q.P (m.1,(m.2.1,m.2.2)) (i:Int) = true by
     simp only [z0q.P,Bool.and_eq_true,decide_eq_true_eq]
     exact ⟨hdim,by omega,by omega⟩)]
    simp only [Z17,Z18]
    rw [ct (z1b (by omega)),Int.toNat_natCast]
    have eP:z0q.g (m.1,(m.2.1,m.2.2)) (i:Int) = (z33 (zf4 m i).1,z33 (zf4 m i).2):=rfl
    rw [eP]
    generalize zf4 m i = s at h hcl
    have hle:=h.le
    simp only [Z19,Z20,Z21,Z22,Z23]
    have l1:=loop1 (ρ:=ρ) (N:=N) hs h hlt (fun a b c d e f g=>Z25 N a b c d e f g (fun a b c d e=>Z38 N a b c d e (fun a b c d e=>Z8L N k0 M a b c d e))) d hdl N 1 (by omega) h.pos (by omega)
    rw [show z6z (qK m s) 1 = 1 by simp [z6z,qK]] at l1
    rw [show (((1:Nat):Int)) = 1 from rfl] at l1
    rw [l1]
    simp only [Z25,Z26]
    have hset:∀ v,(d.set i v).length = m.1.toNat:=fun v=>by rw [List.length_set]; exact hdl
    rw [ct (z1b (by rw [hset]; exact hlt)),Int.toNat_natCast,z2a (by omega),if_pos rfl]
    simp only [Z27,Z28,Z29,Z30,Z31]
    have hH:=z7m (zgu hs h) s.1.length (by omega)
    have hHp:(99:Int) ^ s.1.length≤99 ^ (4 + 0)∨s.1.length = 5:=by
     by_cases e:s.1.length = 5
     ·exact Or.inr e
     ·left
      have:99 ^ s.1.length≤99 ^ (4 + 0):=Nat.pow_le_pow_right (by omega) (by omega)
      exact_mod_cast this
    have hH4:z6z (qK m s) s.1.length≤99 ^ (4 + 0):=by
     rcases hHp with hc | hc
     ·omega
     ·rw [hc]
      have q1:z6z (qK m s) 1 = 1:=by simp [z6z,qK]
      have b:∀ k,1≤k→k≤s.1.length→z6z (qK m s) k≤99 ^ (k - 1):=by
       intro k
       induction k with
       | zero=>intro h _; omega
       | succ k ihk =>
        intro _ hk
        by_cases e:k = 0
        ·subst e; rw [q1]; decide
        ·have c1:=ihk (by omega) (by omega)
         have c2:=zgu hs h k (by omega)
         have c3:=z7m (zgu hs h) k (by omega)
         have:z6z (qK m s) k * qK m s k≤99 ^ (k - 1) * 99:=Int.mul_le_mul c1 c2.2 (by omega) (Int.pow_nonneg (by omega))
         rw [← Int.pow_succ,show (k - 1).succ = k by omega] at this
         exact this
      exact b 5 (by omega) (by omega)
    have t0:T2 m s d 1 (d.set i (z6z (qK m s) s.1.length)) (z6z (qK m s) s.1.length):=by
     refine ⟨hset _, ?_, ?_,fun k h1 h2=>by omega, ?_⟩
     ·intro x hx hall
      rw [z2a (by omega),if_neg (fun e=>hall 0 (by omega) (by rw [h.hd]; exact e.symm))]
     ·intro k hk
      have e:k = 0:=by omega
      subst e
      rw [h.hd,z2a (by omega),if_pos rfl]
      refine ⟨hH.1,hH4,⟨z6z (qK m s) 1,rfl⟩⟩
     ·show _ = ((z9l [(d.set i (z6z (qK m s) s.1.length)).getD (s.1.getD 0 0) 0]:Nat):Int)
      rw [h.hd,z2a (by omega),if_pos rfl,z9l,z9l,Nat.gcd_zero_right]
      omega
    obtain ⟨d2,g2,ht2,l2⟩:=loop2 (ρ:=ρ) (N:=N) hs h (fun a b c d e f g=>Z33 N a b c d e f g (fun a b c d e=>Z38 N a b c d e (fun a b c d e=>Z8L N k0 M a b c d e))) d N 1 _ _ (by omega) h.pos (by omega) t0
    rw [show (((1:Nat):Int)) = 1 from rfl] at l2
    rw [l2]
    simp only [Z33,Z34,Z35,Z36]
    obtain ⟨d3,ht3,l3⟩:=loop3 (ρ:=ρ) (N:=N) hs h (fun a b c d e=>Z38 N a b c d e (fun a b c d e=>Z8L N k0 M a b c d e)) d d2 g2 ht2 N 0 d2 (by omega) (by omega) ⟨ht2.len,fun _ _ _=>rfl,fun k hk=>by omega⟩
    rw [show (((0:Nat):Int)) = 0 from rfl] at l3
    rw [l3]
    obtain ⟨p1,p2,p3⟩:=zxd hs hlt h (by omega) hcl hpt (by omega) ht2 ht3
    simp only [Z38]
    rw [z1c (by rw [z0z]; omega)]
    exact ih (i + 1) d3 hlt (by omega) ht3.len p1 (fun x hx=>by
     by_cases e:x = i
     ·subst e; exact p2
     ·exact p3 x (by omega) (hpos x (by omega)))
  ·rw [cf (df (by omega))]
   exact ⟨d,⟨hdl,hpt,fun x hx=>hpos x (by omega)⟩,rfl⟩
def edge (m:Int × Int × List Int) (d:List Int) (i j:Nat):Prop:=d.getD i 0 * ent m i j = -(d.getD j 0 * ent m j i)
theorem edge_w (hs:z1l m = true) {d:List Int} (hd:Part m.1.toNat (ent m) (fun x=>d.getD x 0)) {i j:Nat} (hi:i < m.1.toNat) (hj:j < m.1.toNat) :
  (w64 (d.getD i 0 * ent m i j) = w64 (0 - w64 (d.getD j 0 * ent m j i)))↔edge m d i j:=by
 have key:∀ a b:Nat,a < m.1.toNat→-913517247483640899≤d.getD a 0 * ent m a b∧d.getD a 0 * ent m a b≤913517247483640899:=by
  intro a b ha
  obtain ⟨h1,h2,_⟩:=hd a ha
  have h3:=z45 hs a b
  have h1':0≤d.getD a 0:=h1
  have h2':d.getD a 0≤9227446944279201:=h2
  have c1:d.getD a 0 * ent m a b≤d.getD a 0 * 99:=Int.mul_le_mul_of_nonneg_left h3.2 h1'
  have c2:d.getD a 0 * (-99)≤d.getD a 0 * ent m a b:=Int.mul_le_mul_of_nonneg_left h3.1 h1'
  omega
 have k1:=key i j hi
 have k2:=key j i hj
 rw [z1g (by omega) (by omega),z1g (n:=d.getD j 0 * ent m j i) (by omega) (by omega),z1g (by omega) (by omega),Int.zero_sub]
 rfl
theorem check1 (hs:z2c m = true) {d:List Int} (hdl:d.length = m.1.toNat) (hd:Part m.1.toNat (ent m) (fun x=>d.getD x 0)) (k10:List Int→Int→Int→Int→List Int→Option ρ) (kr:List Int→Bool→Option ρ) {i:Nat} (hi:i < m.1.toNat):∀ (M j:Nat),j≤m.1.toNat→m.1.toNat - j < M →
  (Z51L N k10 kr M d (i:Int) (j:Int) m.1 m.2.1 m.2.2 = kr [] false∧∃ j',j' < m.1.toNat∧¬ edge m d i j') ∨
  (Z51L N k10 kr M d (i:Int) (j:Int) m.1 m.2.1 m.2.2 = k10 d (i:Int) m.1 m.2.1 m.2.2∧∀ j',j≤j'→j' < m.1.toNat→edge m d i j'):=by
 have hdim:=z28 (z1w hs)
 obtain ⟨n,r,hn,hr,hn1,hn5,hnr,hr8,hl⟩:=z17 hdim
 intro M
 induction M with
 | zero=>intro j _ hM; omega
 | succ M ih =>
  intro j hj hM
  simp only [Z51L,Z52]
  by_cases hlt:j < m.1.toNat
  ·rw [ct (dt (by omega)),ct (z1b (by omega)),ct (z1b (by omega)),ct (at_p hdim hi hlt),ct (at_p hdim hlt hi)]
   have hA:z11.g (m.1,(m.2.1,m.2.2)) (i:Int) (j:Int) = ent m i j:=at_g (by omega) _ _
   have hB:z11.g (m.1,(m.2.1,m.2.2)) (j:Int) (i:Int) = ent m j i:=at_g (by omega) _ _
   simp only [Int.toNat_natCast,hA,hB]
   by_cases he:edge m d i j
   ·rw [cf (nf ((edge_w (z1w hs) hd hi hlt).2 he)),z1c (by rw [z0z]; omega)]
    rcases ih (j + 1) hlt (by omega) with hc | hc
    ·exact Or.inl hc
    ·refine Or.inr ⟨hc.1,fun j' h1 h2=>?_⟩
     by_cases e:j' = j
     ·subst e; exact he
     ·exact hc.2 j' (by omega) h2
   ·rw [ct (nt (fun hc=>he ((edge_w (z1w hs) hd hi hlt).1 hc)))]
    exact Or.inl ⟨rfl,j,hlt,he⟩
  ·rw [cf (df (by omega))]
   exact Or.inr ⟨rfl,fun j' h1 h2=>by omega⟩
theorem check2 (hN:10≤N) (hs:z2c m = true) {d:List Int} (hdl:d.length = m.1.toNat) (hd:Part m.1.toNat (ent m) (fun x=>d.getD x 0)) (k8:List Int→Option ρ) (kr:List Int→Bool→Option ρ):∀ (M i:Nat),i≤m.1.toNat→m.1.toNat - i < M →
  (Z43L N k8 kr M d (i:Int) m.1 m.2.1 m.2.2 = kr [] false∧∃ i' j',i' < m.1.toNat∧j' < m.1.toNat∧¬ edge m d i' j') ∨
  (Z43L N k8 kr M d (i:Int) m.1 m.2.1 m.2.2 = k8 d∧∀ i',i≤i'→i' < m.1.toNat→∀ j',j' < m.1.toNat→edge m d i' j'):=by
 have hdim:=z28 (z1w hs)
 obtain ⟨n,r,hn,hr,hn1,hn5,hnr,hr8,hl⟩:=z17 hdim
 intro M
 induction M with
 | zero=>intro i _ hM; omega
 | succ M ih =>
  intro i hi hM
  simp only [Z43L,Z44,Z45]
  by_cases hlt:i < m.1.toNat
  ·rw [ct (dt (by omega))]
   simp only [Z46,Z47,Z48,Z49,Z50,Z51]
   have hc:=check1 (ρ:=ρ) (N:=N) hs hdl hd (fun a b c d e=>Z53 N a b c d e (fun a b c d e=>Z43L N k8 kr M a b c d e)) kr hlt N 0 (by omega) (by omega)
   rw [show ((0:Nat):Int) = 0 from rfl] at hc
   rcases hc with ⟨hc,j',h1,h2⟩ | ⟨hc,h1⟩
   ·exact Or.inl ⟨hc,i,j',hlt,h1,h2⟩
   ·rw [hc]
    simp only [Z53]
    rw [z1c (by rw [z0z]; omega)]
    rcases ih (i + 1) hlt (by omega) with h2 | h2
    ·exact Or.inl h2
    ·refine Or.inr ⟨h2.1,fun i' h3 h4=>?_⟩
     by_cases e:i' = i
     ·subst e; exact fun j' hj'=>h1 j' (by omega) hj'
     ·exact h2.2 i' (by omega) h4
  ·rw [cf (df (by omega))]
   exact Or.inr ⟨rfl,fun i' h1 h2=>by omega⟩
end
theorem ok:Spec:=fun m hb hp=>⟨10,fun N hN=>by
 have hs:z2c m = true:=hp
 have hdim:=z28 (z1w hs)
 obtain ⟨n,r,hn,hr,hn1,hn5,hnr,hr8,hl⟩:=z17 hdim
 simp only [Z0,Z1,Z2,Z3]
 rw [ct (by rw [zfo (by omega),dt (by omega)]; rfl)]
 simp only [Z4,Z5,Z6,Z7,Z8]
 have hz:∀ x,(List.replicate m.1.toNat (0:Int)).getD x 0 = 0:=fun x=>by
  rw [List.getD_eq_getElem?_getD,List.getElem?_replicate]
  split <;> rfl
 obtain ⟨d,⟨h1,h2,h3⟩,h4⟩:=outer (ρ:=Unit × List Int × Bool × Unit) hN hs (fun a b c d=>Z39 N a b c d (fun t2 t3=>some ((),(t2,(t3,()))))) N 0 (List.replicate m.1.toNat 0) (by omega) (by omega) (by simp) (fun j hj=>by
  show 0≤(List.replicate m.1.toNat (0:Int)).getD j 0∧(List.replicate m.1.toNat (0:Int)).getD j 0≤_∧(0 < (List.replicate m.1.toNat (0:Int)).getD j 0→_)
  rw [hz]
  exact ⟨by omega,by omega,fun hc=>by omega⟩) (fun x hx=>by omega)
 rw [show ((0:Nat):Int) = 0 from rfl] at h4
 rw [h4]
 simp only [Z39,Z40,Z41,Z42,Z43]
 have hc:=check2 (ρ:=Unit × List Int × Bool × Unit) hN hs h1 h2 (fun d4=>Z54 N d4 (fun t2 t3=>some ((),(t2,(t3,()))))) (fun t2 t3=>some ((),(t2,(t3,())))) N 0 (by omega) (by omega)
 rw [show ((0:Nat):Int) = 0 from rfl] at hc
 rcases hc with ⟨hc,i',j',h5,h6,h7⟩ | ⟨hc,h5⟩
 ·rw [hc,g,zxf hs h2 h3 h5 h6 h7]
  rfl
 ·have h6:=zt1 h1 h2 h3 (fun i hi j hj=>h5 i (by omega) hi j hj)
  rw [hc,g,h6]
  simp only [Z54]
  rw [df (fun e=>by rw [e] at h1; simp at h1; omega)]
  rfl⟩
theorem fac_ex {m:Int × Int × List Int} (hs:z2c m = true) (h:∃ e,zb3 m.1.toNat (ent m) e):z6h m≠[]:=by
 have hdim:=z28 (z1w hs)
 obtain ⟨n,r,hn,hr,hn1,hn5,hnr,hr8,hl⟩:=z17 hdim
 have hz:∀ x,(List.replicate m.1.toNat (0:Int)).getD x 0 = 0:=fun x=>by
  rw [List.getD_eq_getElem?_getD,List.getElem?_replicate]
  split <;> rfl
 obtain ⟨d,⟨h1,h2,h3⟩,h4⟩:=outer (ρ:=Unit) (N:=10) (Nat.le_refl _) hs (fun _ _ _ _=>none) 10 0 (List.replicate m.1.toNat 0) (by omega) (by omega) (by simp) (fun j hj=>by
  show 0≤(List.replicate m.1.toNat (0:Int)).getD j 0∧(List.replicate m.1.toNat (0:Int)).getD j 0≤_∧(0 < (List.replicate m.1.toNat (0:Int)).getD j 0→_)
  rw [hz]
  exact ⟨by omega,by omega,fun hc=>by omega⟩) (fun x hx=>by omega)
 obtain ⟨e,he⟩:=h
 rw [zt1 h1 h2 h3 (fun i hi j hj=>zxg hs h2 h3 he hi hj)]
 intro hc
 rw [hc] at h1
 simp at h1
 omega
end z03
end
end Go.Fw
namespace Go.Fw
theorem zdb (m:Int × Int × List Int):(z1l m && !decide (z6h m = [])) = (z2c m && !decide (z6h m = [])):=by
 by_cases h:z6h m = []
 ·rw [dt h]; simp
 ·cases hs:z1l m
  ·simp [z2c,hs]
  ·rw [zyl hs h]
theorem zxw {m:Int × Int × List Int} {k:Nat} (h:(z2c m && !decide (z6h m = [])) = true) (hk:k < m.1.toNat):(z1l (z6q m k) && !decide (z6h (z6q m k) = [])) = z2c (z6q m k):=by
 simp only [Bool.and_eq_true,Bool.not_eq_true',decide_eq_false_iff_not] at h
 cases hs:z2c (z6q m k)
 ·rw [zdb,hs]; rfl
 ·have hd:=z28 (z1w h.1)
  have:=z03.fac_ex hs ⟨_,zaz hd hk (zgg h.2).2.1⟩
  rw [zdb,hs,df this]; rfl
end Go.Fw
namespace Go.Fw
theorem zlf {a b:Int × Int × List Int} (ha:z40 a = true) (h1:a.1 = b.1) (h2:a.2.1 = b.2.1) (hl:a.2.2.length = b.2.2.length) (h:∀ i j,i < a.2.1.toNat→j < a.1.toNat→ent a i j = ent b i j):a = b:=by
 obtain ⟨n,r,hn,hr,hn1,hn5,hnr,hr8,hla⟩:=z17 ha
 obtain ⟨a1,a2,a3⟩:=a
 obtain ⟨b1,b2,b3⟩:=b
 simp only at h1 h2 hn hr
 subst h1 h2
 have:a3 = b3:=by
  apply List.ext_getElem hl
  intro p p1 p2
  have hla':a3.length = r * n:=hla
  have hp:p < r * n:=by omega
  have hi:p / n < r:=Nat.div_lt_of_lt_mul (by rw [Nat.mul_comm]; exact hp)
  have hj:p % n < n:=Nat.mod_lt _ (by omega)
  have:=h (p / n) (p % n) (by show p / n < a2.toNat; omega) (by show p % n < a1.toNat; omega)
  have e:p / n * a1.toNat + p % n = p:=by
   rw [show a1.toNat = n by omega,Nat.mul_comm]
   exact Nat.div_add_mod p n
  unfold ent at this
  rw [e] at this
  simp only [List.getD_eq_getElem?_getD,List.getElem?_eq_getElem p1,List.getElem?_eq_getElem p2,Option.getD_some] at this
  exact this
 rw [this]
theorem zdj (m:Int × Int × List Int) (k:Int):((z1l m && !decide (z6h m = [])) && (inK k 0 (m.1 - 1) && (z1l (z6q m k.toNat) && !decide (z6h (z6q m k.toNat) = [])))) = ((z2c m && !decide (z6h m = [])) && (inK k 0 (m.1 - 1) && z2c (z6q m k.toNat))):=by
 rw [zdb]
 cases h:(z2c m && !decide (z6h m = []))
 ·rfl
 ·cases hk:inK k 0 (m.1 - 1)
  ·rfl
  ·have:=z3d.1 hk
   rw [zxw h (by omega)]
end Go.Fw
namespace Go.Fw
section
variable {ρ:Type}
namespace z0f
def P (b:List Int) (r:Int × Int):Bool:=z2l b r
def zno (h:Int):Int:=w64 (w64 (h * 6364136223846793005) + 1442695040888963407)
def xOf (h:Int):Int:=za3 .and .i64 (za3 .xor .i64 (Int.fdiv h (2 ^ (min (33:Int).toNat (IntKind.bits .i64)))) (Int.fdiv h (2 ^ (min (45:Int).toNat (IntKind.bits .i64))))) 255
def g (b:List Int) (r:Int × Int):(Int × Int) × Int :=
 if r.1 < (b.length:Int) then ((r.1 + 1,zno r.2),za3 .and .i64 (w64 (xOf (zno r.2) + w64 (b.getD r.1.toNat 0))) 255) else ((r.1,zno r.2),xOf (zno r.2))
end z0f
namespace z0f
def Z0 {ρ:Type} (N:Nat) (b0:List Int) (r0:Int × Int) (kr:Int→List Int→I2 (Option ρ)):Option ρ :=
 cond (lk N (decide (0≤(33:Int)))) (
  cond (lk N (decide (0≤(45:Int)))) (
   cond (lk N (decide (r0.1 < (b0.length:Int))))
   (
    cond (lk N (inB r0.1 b0.length)) (
     kr (za3 .and .i64 (w64 ((za3 .and .i64 (za3 .xor .i64 (Int.fdiv (w64 ((w64 (r0.2 * 6364136223846793005)) + 1442695040888963407)) (2 ^ (min (33:Int).toNat (IntKind.bits .i64)))) (Int.fdiv (w64 ((w64 (r0.2 * 6364136223846793005)) + 1442695040888963407)) (2 ^ (min (45:Int).toNat (IntKind.bits .i64))))) 255) + (w64 ((b0.getD r0.1.toNat 0))))) 255) b0 (w64 (r0.1 + 1)) (w64 ((w64 (r0.2 * 6364136223846793005)) + 1442695040888963407))) none)
   (
    kr (za3 .and .i64 (za3 .xor .i64 (Int.fdiv (w64 ((w64 (r0.2 * 6364136223846793005)) + 1442695040888963407)) (2 ^ (min (33:Int).toNat (IntKind.bits .i64)))) (Int.fdiv (w64 ((w64 (r0.2 * 6364136223846793005)) + 1442695040888963407)) (2 ^ (min (45:Int).toNat (IntKind.bits .i64))))) 255) b0 r0.1 (w64 ((w64 (r0.2 * 6364136223846793005)) + 1442695040888963407)))) none) none
def Spec:Prop:=∀ {U:Type} (u:U) (b0:List Int) (r0:Int × Int),Ty.bd (.sl 0 (.int .u8)) b0→P b0 r0 = true→∃ N0,∀ N,N0≤N→Z0 N b0 r0 (fun v2 w0_0 w0_1 w0_2=>some (u,((w0_1,w0_2),((),(v2,()))))) = some (u,((g b0 r0).1,((),((g b0 r0).2,()))))
theorem keep {b:List Int} {r:Int × Int} (h:z2l b r = true):z2l b (g b r).1 = true:=by
 rw [zii] at h ⊢
 unfold g
 split <;> simp only <;> omega
theorem range (b:List Int) (r:Int × Int):0≤(g b r).2∧(g b r).2≤255:=by
 unfold g
 split
 ·exact zq2 _ 255 255 rfl (by omega)
 ·exact zq2 _ 255 255 rfl (by omega)
theorem ok:Spec:=fun u b r hb hp=>⟨0,fun N hN=>by
 have h:=zii.1 hp
 simp only [Z0]
 rw [ct (dt (by omega)),ct (dt (by omega))]
 by_cases hl:r.1 < (b.length:Int)
 ·obtain ⟨i,hi⟩:=Int.eq_ofNat_of_zero_le h.1
  have e1:g b r = ((r.1 + 1,zno r.2),za3 .and .i64 (w64 (xOf (zno r.2) + w64 (b.getD r.1.toNat 0))) 255):=if_pos hl
  have e2:w64 (r.1 + 1) = r.1 + 1:=by
   have:=h.2.2
   rw [z0z] at this
   exact z1g (by omega) (by omega)
  rw [ct (dt hl),ct (by rw [hi]; exact z1b (by omega)),e1,e2]
  rfl
 ·have e1:g b r = ((r.1,zno r.2),xOf (zno r.2)):=if_neg hl
  rw [cf (df hl),e1]
  rfl⟩
end z0f
end
end Go.Fw
namespace Go.Fw
section
variable {ρ:Type}
namespace z01
def P (b:List Int) (r:Int × Int) (n:Int):Bool:=z2l b r
def four (b:List Int) (r:Int × Int) (n:Int):(Int × Int) × Int :=
 ((z0f.g b (z0f.g b (z0f.g b (z0f.g b r).1).1).1).1,
  Int.tmod (w64 (w64 (w64 (w64 ((z0f.g b r).2 * 16777216) + w64 ((z0f.g b (z0f.g b r).1).2 * 65536)) + w64 ((z0f.g b (z0f.g b (z0f.g b r).1).1).2 * 256)) + (z0f.g b (z0f.g b (z0f.g b (z0f.g b r).1).1).1).2)) n)
def g (b:List Int) (r:Int × Int) (n:Int):(Int × Int) × Int :=
 if n≤0 then (r,0) else if n≤256 then ((z0f.g b r).1,Int.tmod (z0f.g b r).2 n) else four b r n
end z01
namespace z01
def Z0 {ρ:Type} (N:Nat) (b0:List Int) (r0:Int × Int) (a:Int) (kr:Int→List Int→I2 (Option ρ)):Option ρ :=
 cond (lk N (decide (a≤0)))
 (
  kr 0 b0 r0.1 r0.2)
 (
  cond (lk N (decide (a≤256)))
  (
   cond (lk N (z0f.P b0 r0)) (
    cond (lk N (!(decide (a = 0)))) (
     kr (Int.tmod (z0f.g b0 r0).2 a) b0 (z0f.g b0 r0).1.1 (z0f.g b0 r0).1.2) none) none)
  (
   cond (lk N (z0f.P b0 r0)) (
    cond (lk N (z0f.P b0 (z0f.g b0 r0).1)) (
     cond (lk N (z0f.P b0 (z0f.g b0 (z0f.g b0 r0).1).1)) (
      cond (lk N (z0f.P b0 (z0f.g b0 (z0f.g b0 (z0f.g b0 r0).1).1).1)) (
       cond (lk N (!(decide (a = 0)))) (
        kr (Int.tmod (w64 ((w64 ((w64 ((w64 ((z0f.g b0 r0).2 * 16777216)) + (w64 ((z0f.g b0 (z0f.g b0 r0).1).2 * 65536)))) + (w64 ((z0f.g b0 (z0f.g b0 (z0f.g b0 r0).1).1).2 * 256)))) + (z0f.g b0 (z0f.g b0 (z0f.g b0 (z0f.g b0 r0).1).1).1).2)) a) b0 (z0f.g b0 (z0f.g b0 (z0f.g b0 (z0f.g b0 r0).1).1).1).1.1 (z0f.g b0 (z0f.g b0 (z0f.g b0 (z0f.g b0 r0).1).1).1).1.2) none) none) none) none) none))
def Spec:Prop:=∀ {U:Type} (u:U) (b0:List Int) (r0:Int × Int) (v1:Int),Ty.bd (.sl 0 (.int .u8)) b0→P b0 r0 v1 = true→∃ N0,∀ N,N0≤N→Z0 N b0 r0 v1 (fun v4 w0_0 w0_1 w0_2=>some (u,((w0_1,w0_2),((),(v4,()))))) = some (u,((g b0 r0 v1).1,((),((g b0 r0 v1).2,()))))
theorem keep {b:List Int} {r:Int × Int} {n:Int} (h:z2l b r = true):z2l b (g b r n).1 = true:=by
 unfold g
 split
 ·exact h
 ·split
  ·exact z0f.keep h
  ·exact z0f.keep (z0f.keep (z0f.keep (z0f.keep h)))
theorem range {b:List Int} {r:Int × Int} {n:Int} (h1:1≤n) (h2:n≤256):0≤(g b r n).2∧(g b r n).2 < n:=by
 have h:=z0f.range b r
 unfold g
 rw [if_neg (by omega),if_pos h2]
 exact ⟨Int.tmod_nonneg _ h.1,Int.tmod_lt_of_pos _ (by omega)⟩
theorem ok:Spec:=fun u b r n hb hp=>⟨0,fun N hN=>by
 have k1:=z0f.keep hp
 have k2:=z0f.keep k1
 have k3:=z0f.keep k2
 have p0:z0f.P b r = true:=hp
 have p1:z0f.P b (z0f.g b r).1 = true:=k1
 have p2:z0f.P b (z0f.g b (z0f.g b r).1).1 = true:=k2
 have p3:z0f.P b (z0f.g b (z0f.g b (z0f.g b r).1).1).1 = true:=k3
 simp only [Z0]
 by_cases h1:n≤0
 ·rw [ct (dt h1),show g b r n = (r,0) from if_pos h1]
 ·rw [cf (df h1)]
  have hz:(!(decide (n = 0))) = true:=by rw [df (by omega)]; rfl
  by_cases h2:n≤256
  ·rw [ct (dt h2),show g b r n = ((z0f.g b r).1,Int.tmod (z0f.g b r).2 n) from (if_neg h1).trans (if_pos h2)]
   simp only [z1x,p0,hz,cond_true]
  ·rw [cf (df h2),show g b r n = four b r n from (if_neg h1).trans (if_neg h2)]
   simp only [z1x,p0,p1,p2,p3,hz,cond_true]
   rfl⟩
end z01
end
end Go.Fw
namespace Go.Fw
section
variable {ρ:Type}
namespace z0w
def P (b:List Int) (r:Int × Int) (n:Int):Bool:=z2l b r
def g (b:List Int) (r:Int × Int) (n:Int):(Int × Int) × Bool:=((z01.g b r n).1,decide ((z01.g b r n).2 = 0))
end z0w
namespace z0w
def Z0 {ρ:Type} (N:Nat) (b0:List Int) (r0:Int × Int) (a:Int) (kr:Bool→List Int→I2 (Option ρ)):Option ρ :=
 cond (lk N (z01.P b0 r0 a)) (
  kr (lk N (decide ((z01.g b0 r0 a).2 = 0))) b0 (z01.g b0 r0 a).1.1 (z01.g b0 r0 a).1.2) none
def Spec:Prop:=∀ {U:Type} (u:U) (b0:List Int) (r0:Int × Int) (v1:Int),Ty.bd (.sl 0 (.int .u8)) b0→P b0 r0 v1 = true→∃ N0,∀ N,N0≤N→Z0 N b0 r0 v1 (fun v4 w0_0 w0_1 w0_2=>some (u,((w0_1,w0_2),((),(v4,()))))) = some (u,((g b0 r0 v1).1,((),((g b0 r0 v1).2,()))))
theorem keep {b:List Int} {r:Int × Int} {n:Int} (h:z2l b r = true):z2l b (g b r n).1 = true:=z01.keep h
theorem ok:Spec:=fun u b r n hb hp=>⟨0,fun N hN=>by
 simp only [Z0,z1x,show z01.P b r n = true from hp,cond_true]
 rfl⟩
end z0w
end
end Go.Fw
namespace Go.Fw
section
variable {ρ:Type}
namespace z0a
def P (b:List Int) (r:Int × Int) (m:Int × Int × List Int) (i j a c:Int):Bool :=
 z2l b r && (z40 m && (inK i 0 (m.1 - 1) && (inK j 0 (m.1 - 1) && (inK a 0 1000 && inK c 0 1000))))
def joinM (s:Bool) (m:Int × Int × List Int) (i j a c:Int):Int × Int × List Int :=
 (m.1,m.2.1,(m.2.2.set (i * m.1 + j).toNat (if s = true then -a else a)).set (j * m.1 + i).toNat (if s = true then c else -c))
def g (b:List Int) (r:Int × Int) (m:Int × Int × List Int) (i j a c:Int):(Int × Int) × (Int × Int × List Int) :=
 ((z0w.g b r 2).1,joinM (z0w.g b r 2).2 m i j a c)
end z0a
namespace z0a
def Z0 {ρ:Type} (N:Nat) (b0:List Int) (r0:Int × Int) (a:MT) (b c d e:Int) (kn:LI→I2 (List Int→I2 (Option ρ))):Option ρ :=
 cond (lk N (z0w.P b0 r0 2)) (
  cond (lk N ((z0w.g b0 r0 2).2))
  (
   cond (lk N (inB (w64 ((w64 (b * a.1)) + c)) a.2.2.length)) (
    cond (lk N (inB (w64 ((w64 (c * a.1)) + b)) (a.2.2.set (w64 ((w64 (b * a.1)) + c)).toNat (w64 (0 - d))).length)) (
     kn ((a.2.2.set (w64 ((w64 (b * a.1)) + c)).toNat (w64 (0 - d))).set (w64 ((w64 (c * a.1)) + b)).toNat (w64 (0 - (w64 (0 - e))))) a.1 a.2.1 b0 (z0w.g b0 r0 2).1.1 (z0w.g b0 r0 2).1.2) none) none)
  (
   cond (lk N (inB (w64 ((w64 (b * a.1)) + c)) a.2.2.length)) (
    cond (lk N (inB (w64 ((w64 (c * a.1)) + b)) (a.2.2.set (w64 ((w64 (b * a.1)) + c)).toNat d).length)) (
     kn ((a.2.2.set (w64 ((w64 (b * a.1)) + c)).toNat d).set (w64 ((w64 (c * a.1)) + b)).toNat (w64 (0 - e))) a.1 a.2.1 b0 (z0w.g b0 r0 2).1.1 (z0w.g b0 r0 2).1.2) none) none)) none
def Spec:Prop:=∀ {U:Type} (u:U) (b0:List Int) (r0:Int × Int) (v1:MT) (v2 v3 v4 v5:Int),Ty.bd (.sl 0 (.int .u8)) b0→Ty.bd (.pair (.int .i64) (.pair (.int .i64) (.sl 0 (.int .i64)))) v1→P b0 r0 v1 v2 v3 v4 v5 = true→∃ N0,∀ N,N0≤N→Z0 N b0 r0 v1 v2 v3 v4 v5 (fun w1_2 w1_0 w1_1 w0_0 w0_1 w0_2=>some (u,((w0_1,w0_2),((w1_0,(w1_1,w1_2)),())))) = some (u,((g b0 r0 v1 v2 v3 v4 v5).1,((g b0 r0 v1 v2 v3 v4 v5).2,())))
theorem keep {b:List Int} {r:Int × Int} {m:Int × Int × List Int} {i j a c:Int} (h:z2l b r = true):z2l b (g b r m i j a c).1 = true:=z0w.keep h
theorem dim_join {s:Bool} {m:Int × Int × List Int} {i j a c:Int} (h:z40 m = true):z40 (joinM s m i j a c) = true:=by
 simpa [z40,joinM] using h
theorem ok:Spec:=fun u b r m i j a c hb hbm hp=>⟨0,fun N hN=>by
 simp only [P,Bool.and_eq_true,z3d] at hp
 obtain ⟨h1,h2,hi,hj,ha,hc⟩:=hp
 obtain ⟨n,q,hn,hr,hn1,hn5,hnr,hr8,hl⟩:=z17 h2
 obtain ⟨x,rfl⟩:=Int.eq_ofNat_of_zero_le hi.1
 obtain ⟨y,rfl⟩:=Int.eq_ofNat_of_zero_le hj.1
 have lx:x < n:=by omega
 have ly:y < n:=by omega
 have b1:=z87 (n:=n) (r:=q) (i:=x) (j:=y) (by omega) ly
 have b2:=z87 (n:=n) (r:=q) (i:=y) (j:=x) (by omega) lx
 have hq:q * n≤8 * 5:=Nat.mul_le_mul hr8 hn5
 have e1:(x:Int) * m.1 + (y:Int) = ((x * n + y:Nat):Int):=by rw [hn]; simp
 have e2:(y:Int) * m.1 + (x:Int) = ((y * n + x:Nat):Int):=by rw [hn]; simp
 have e1':(x:Int) * m.1 = ((x * n:Nat):Int):=by rw [hn]; simp
 have e2':(y:Int) * m.1 = ((y * n:Nat):Int):=by rw [hn]; simp
 have a1:w64 ((x:Int) * m.1) = (x:Int) * m.1:=by rw [e1']; exact z1g (by omega) (by omega)
 have a2:w64 ((y:Int) * m.1) = (y:Int) * m.1:=by rw [e2']; exact z1g (by omega) (by omega)
 have w1:w64 (w64 ((x:Int) * m.1) + (y:Int)) = (x:Int) * m.1 + (y:Int):=by rw [a1,e1]; exact z1g (by omega) (by omega)
 have w2:w64 (w64 ((y:Int) * m.1) + (x:Int)) = (y:Int) * m.1 + (x:Int):=by rw [a2,e2]; exact z1g (by omega) (by omega)
 have wa:w64 (0 - a) = -a:=by rw [z1g (by omega) (by omega)]; omega
 have wc:w64 (0 - c) = -c:=by rw [z1g (by omega) (by omega)]; omega
 have wc2:w64 (0 - (-c)) = c:=by rw [z1g (by omega) (by omega)]; omega
 have i1:inB ((x:Int) * m.1 + (y:Int)) m.2.2.length = true:=by rw [e1]; exact z1b (by omega)
 have i2:∀ z:Int,inB ((y:Int) * m.1 + (x:Int)) (m.2.2.set ((x:Int) * m.1 + (y:Int)).toNat z).length = true:=fun z=>by rw [e2,List.length_set]; exact z1b (by omega)
 have hP:z0w.P b r 2 = true:=h1
 simp only [Z0,z1x,hP,w1,w2,wa,wc,wc2,i1,i2,cond_true,g,joinM]
 cases (z0w.g b r 2).2 <;> rfl⟩
end z0a
end
end Go.Fw
namespace Go.Fw
section
variable {ρ:Type}
namespace z07
def P (n:Int):Bool:=inK n 0 5
def g (n:Int):Int × Int × List Int:=(n,n,List.replicate (n * n).toNat 0)
end z07
namespace z07
def Z0 {ρ:Type} (N:Nat) (a:Int) (kr:LI→I2 (Option ρ)):Option ρ :=
 cond (lk N (leB 0 (w64 (a * a)) && decide ((w64 (a * a)) < 1099511627776))) (
  kr (List.replicate (w64 (a * a)).toNat (0:Int)) a a) none
def Spec:Prop:=∀  (v0:Int),P v0 = true→∃ N0,∀ N,N0≤N→Z0 N v0 (fun v2_2 v2_0 v2_1=>some ((),((v2_0,(v2_1,v2_2)),()))) = some ((),((g v0),()))
theorem ok:Spec:=fun n hp=>⟨0,fun N hN=>by
 have h:=z3d.1 hp
 obtain ⟨j,rfl⟩:=Int.eq_ofNat_of_zero_le h.1
 have hj:j * j≤5 * 5:=Nat.mul_le_mul (by omega) (by omega)
 have e:(j:Int) * (j:Int) = ((j * j:Nat):Int):=by simp
 have hw:w64 ((j:Int) * (j:Int)) = (j:Int) * (j:Int):=by
  rw [e]
  exact z1g (by omega) (by omega)
 simp only [Z0]
 rw [hw,ct (by rw [e,zfo (by omega),dt (by omega)]; rfl)]
 rfl⟩
end z07
end
end Go.Fw
namespace Go.Fw
structure z2k (m:Int × Int × List Int) (d:Nat→Int):Prop where
 shaped:z1l m = true
 good:zb3 m.1.toNat (ent m) d
theorem z2k.sizes {m:Int × Int × List Int} {d:Nat→Int} (h:z2k m d):z2c m = true:=by
 rw [z2c,h.shaped,Bool.true_and,List.all_eq_true]
 intro i hi
 rw [List.all_eq_true]
 intro j hj
 exact zad h.good (List.mem_range.1 hi) (List.mem_range.1 hj)
theorem z2k.fac {m:Int × Int × List Int} {d:Nat→Int} (h:z2k m d):z6h m≠[]:=z03.fac_ex h.sizes ⟨d,h.good⟩
theorem z2k.ok {m:Int × Int × List Int} {d:Nat→Int} (h:z2k m d):(z2c m && !decide (z6h m = [])) = true:=by
 rw [h.sizes,df h.fac]; rfl
theorem z2k.dim {m:Int × Int × List Int} {d:Nat→Int} (h:z2k m d):z40 m = true:=z28 h.shaped
theorem z43 {m:Int × Int × List Int}:z1l m = true↔z40 m = true∧∀ x ∈ m.2.2,-99≤x∧x≤99:=by
 simp only [z1l,entK,Bool.and_eq_true,List.all_eq_true,z3d]
theorem z2k.mut {m:Int × Int × List Int} {d:Nat→Int} (h:z2k m d) {k:Nat} (hk:k < m.1.toNat) (hs:z2c (z6q m k) = true):z2k (z6q m k) d:=⟨z1w hs,zaz h.dim hk h.good⟩
theorem y68 {m:Int × Int × List Int} {n r:Nat} (hn:m.1 = (n:Int)) (hl:m.2.2.length = r * n) {i j:Nat} (hi:i < r) (hj:j < n) (x:Int) {u v:Nat} (hv:v < n) :
  (m.2.2.set (i * n + j) x).getD (u * n + v) 0 = if u = i∧v = j then x else m.2.2.getD (u * n + v) 0:=by
 have hlt:=z87 (n:=n) (r:=r) hi hj
 rw [z2a (by omega)]
 by_cases e:i * n + j = u * n + v
 ·rw [if_pos e]
  have h1:i = u:=by
   have:=congrArg (· / n) e
   simpa [zma hj,zma hv] using this
  subst h1
  rw [if_pos ⟨rfl,by omega⟩]
 ·rw [if_neg e,if_neg]
  rintro ⟨rfl,rfl⟩
  exact e rfl
theorem zgh {s:Bool} {m:Int × Int × List Int} (hd:z40 m = true) {i j:Nat} {x y a c:Int} (hx:x = (i:Int)) (hy:y = (j:Int)) (hi:i < m.1.toNat) (hj:j < m.1.toNat) {u v:Nat} (hv:v < m.1.toNat) :
  ent (z0a.joinM s m x y a c) u v = if u = j∧v = i then (if s = true then c else -c) else if u = i∧v = j then (if s = true then -a else a) else ent m u v:=by
 subst hx hy
 obtain ⟨n,r,hn,hr,hn1,hn5,hnr,hr8,hl⟩:=z17 hd
 have e0:m.1.toNat = n:=by omega
 rw [e0] at hi hj hv
 unfold ent z0a.joinM
 show ((m.2.2.set ((i:Int) * m.1 + (j:Int)).toNat _).set ((j:Int) * m.1 + (i:Int)).toNat _).getD (u * m.1.toNat + v) 0 = _
 have e1:((i:Int) * m.1 + (j:Int)).toNat = i * n + j:=by rw [hn]; norm_cast
 have e2:((j:Int) * m.1 + (i:Int)).toNat = j * n + i:=by rw [hn]; norm_cast
 rw [e1,e2,e0]
 have h2:=y68 (m:=(m.1,m.2.1,m.2.2.set (i * n + j) (if s = true then -a else a))) (n:=n) (r:=r) hn (by simpa using hl) (i:=j) (j:=i) (by omega) hi (if s = true then c else -c) (u:=u) hv
 have h1:=y68 (m:=m) (n:=n) (r:=r) hn hl (i:=i) (j:=j) (by omega) hj (if s = true then -a else a) (u:=u) hv
 refine h2.trans ?_
 show (if u = j∧v = i then _ else (m.2.2.set (i * n + j) (if s = true then -a else a)).getD (u * n + v) 0) = _
 rw [h1]
theorem z3p {s:Bool} {m:Int × Int × List Int} {d:Nat→Int} (h:z2k m d) {i j:Nat} {x y a c:Int} (hx:x = (i:Int)) (hy:y = (j:Int)) (hi:i < m.1.toNat) (hj:j < m.1.toNat) (hne:i≠j) (ha:-99≤a∧a≤99) (hc:-99≤c∧c≤99) (hdd:d i * a = d j * c) :
  z2k (z0a.joinM s m x y a c) d:=by
 have hd:=h.dim
 refine ⟨z43.2 ⟨z0a.dim_join hd,fun z hz=>?_⟩,fun u hu=>⟨(h.good u hu).1,fun v hv=>?_⟩⟩
 ·have h0:=(z43.1 h.shaped).2
  have hz:z ∈ (m.2.2.set (x * m.1 + y).toNat (if s = true then -a else a)).set (y * m.1 + x).toNat (if s = true then c else -c):=hz
  rcases List.mem_or_eq_of_mem_set hz with hz | rfl
  ·rcases List.mem_or_eq_of_mem_set hz with hz | rfl
   ·exact h0 z hz
   ·split <;> omega
  ·split <;> omega
 ·have hu:u < m.1.toNat:=hu
  have hv:v < m.1.toNat:=hv
  have hg:=(h.good u hu).2 v hv
  have E1:=zgh (s:=s) (a:=a) (c:=c) hd hx hy hi hj (u:=i) hj
  have E2:=zgh (s:=s) (a:=a) (c:=c) hd hx hy hi hj (u:=j) hi
  rw [if_neg (fun e=>hne e.1),if_pos ⟨rfl,rfl⟩] at E1
  rw [if_pos ⟨rfl,rfl⟩] at E2
  by_cases e1:u = j∧v = i
  ·rw [e1.1,e1.2,E1,E2]
   cases s
   ·simp only [Bool.false_eq_true,if_false,Int.mul_neg]; omega
   ·simp only [if_true,Int.mul_neg]; omega
  by_cases e2:u = i∧v = j
  ·rw [e2.1,e2.2,E1,E2]
   cases s
   ·simp only [Bool.false_eq_true,if_false,Int.mul_neg]; omega
   ·simp only [if_true,Int.mul_neg]; omega
  rw [zgh hd hx hy hi hj hv,zgh hd hx hy hi hj hu,if_neg e1,if_neg e2,if_neg (fun e=>e2 ⟨e.2,e.1⟩),if_neg (fun e=>e1 ⟨e.2,e.1⟩)]
  exact hg
theorem zup (n:Int) (u v:Nat):ent (z07.g n) u v = 0:=by
 unfold ent z07.g
 rw [List.getD_eq_getElem?_getD,List.getElem?_replicate]
 split <;> rfl
theorem z4y {n:Int} (h1:1≤n) (h5:n≤5) {d:Nat→Int} (hd:∀ i,0 < d i):z2k (z07.g n) d:=by
 refine ⟨z43.2 ⟨?_,fun x hx=>?_⟩,fun u hu=>⟨hd u,fun v hv=>?_⟩⟩
 ·have:n = 1∨n = 2∨n = 3∨n = 4∨n = 5:=by omega
  rcases this with rfl | rfl | rfl | rfl | rfl <;> rfl
 ·have:=(List.mem_replicate.1 hx).2
  omega
 ·rw [zup,zup]; simp
end Go.Fw
namespace Go.Fw
theorem z6f {m:Int × Int × List Int} (hd:z40 m = true) (names:List Int) {p q:Nat} (hp:p < m.2.1.toNat) (hq:q < m.1.toNat) :
  ent (z6j m names) p q = ent m (ziy m.1.toNat (names.map Int.toNat) p) (zb8 (names.map Int.toNat) q):=by
 obtain ⟨n,r,hn,hr,hn1,hn5,hnr,hr8,hl⟩:=z17 hd
 have e0:m.1.toNat = n:=by omega
 have hlt:=z87 (n:=n) (r:=r) (i:=p) (j:=q) (by omega) (by omega)
 unfold ent z6j
 show ((List.range m.2.2.length).map fun p=>m.2.2.getD (z9h m.1.toNat (names.map Int.toNat) p) 0).getD (p * m.1.toNat + q) 0 = _
 rw [List.getD_eq_getElem?_getD,List.getElem?_map,List.getElem?_range (by rw [e0]; omega)]
 show m.2.2.getD (z9h m.1.toNat (names.map Int.toNat) (p * m.1.toNat + q)) 0 = _
 unfold z9h
 rw [zma hq,zxy hq]
theorem zcu {m:Int × Int × List Int} (names:List Int) (h:z40 m = true):z40 (z6j m names) = true:=by
 simpa [z40,z6j] using h
theorem z2k.ren {m:Int × Int × List Int} {d:Nat→Int} (h:z2k m d) {names:List Int} (hn:z49 names m.1 = true):z2k (z6j m names) fun p=>d (zb8 (names.map Int.toNat) p):=by
 obtain ⟨L,rfl,h1,h2,h3⟩:=z6d hn
 have hd:=h.dim
 obtain ⟨n,r,en,hr,hn1,hn5,hnr,hr8,hl⟩:=z17 hd
 refine ⟨z43.2 ⟨zcu _ hd,fun x hx=>?_⟩,fun u hu=>?_⟩
 ·have h0:=(z43.1 h.shaped).2
  obtain ⟨p,_,rfl⟩:=List.mem_map.1 hx
  rw [List.getD_eq_getElem?_getD]
  cases hq:m.2.2[z9h m.1.toNat ((z33 L).map Int.toNat) p]? with
  | none=>exact ⟨by decide,by decide⟩
  | some y=>exact h0 y (List.mem_of_getElem? hq)
 ·have hu:u < m.1.toNat:=hu
  rw [z42]
  have pu:=(z3j (z37 h1 h2 h3 hu)).1
  refine ⟨(h.good _ (by omega)).1,fun v hv=>?_⟩
  have hv:v < m.1.toNat:=hv
  have pv:=(z3j (z37 h1 h2 h3 hv)).1
  rw [z6f hd _ (by omega) hv,z6f hd _ (by omega) hu,z42]
  unfold ziy
  rw [if_pos hu,if_pos hv]
  exact (h.good _ (by omega)).2 _ (by omega)
end Go.Fw
namespace Go.Fw
section
variable {ρ:Type}
namespace z0g
def P (b:List Int) (r:Int × Int):Bool:=z2l b r
def markov:Int × Int × List Int:=(3,3,[0,2,-2,-2,0,2,2,-2,0])
def step4 (b:List Int) (i:Nat) (s:(Int × Int) × List Int) (j:Nat):(Int × Int) × List Int :=
 ((z01.g b s.1 5).1,(s.2.set (i * 4 + j) ((z01.g b s.1 5).2 - 2)).set (j * 4 + i) (2 - (z01.g b s.1 5).2))
def row4 (b:List Int) (s:(Int × Int) × List Int) (i:Nat):(Int × Int) × List Int:=(List.range i).foldl (step4 b i) s
def zv9 (b:List Int) (r:Int × Int):(Int × Int) × List Int:=(List.range 4).foldl (row4 b) (r,List.replicate 16 0)
def two (b:List Int) (r:Int × Int):(Int × Int) × (Int × Int × List Int) :=
 z0a.g b (z01.g b (z01.g b r 4).1 4).1 (z07.g 2) 0 1 (1 + (z01.g b r 4).2) (1 + (z01.g b (z01.g b r 4).1 4).2)
def j1 (b:List Int) (r:Int × Int):(Int × Int) × (Int × Int × List Int):=z0a.g b r (z07.g 3) 0 1 1 1
def j2 (b:List Int) (r:Int × Int):(Int × Int) × (Int × Int × List Int):=z0a.g b (j1 b r).1 (j1 b r).2 1 2 1 1
def j3 (b:List Int) (r:Int × Int):(Int × Int) × (Int × Int × List Int):=z0a.g b (z01.g b (j2 b r).1 2).1 (j2 b r).2 0 2 (1 + (z01.g b (j2 b r).1 2).2) 1
def three (b:List Int) (r:Int × Int):(Int × Int) × (Int × Int × List Int):=((j3 b r).1,((j3 b r).2.1,(j3 b r).2.2.1,(j3 b r).2.2.2.set 6 (w64 (0 - (j3 b r).2.2.2.getD 2 0))))
def g (b:List Int) (r:Int × Int):(Int × Int) × (Int × Int × List Int) :=
 if (z01.g b r 4).2 = 0 then ((z01.g b r 4).1,markov) else
 if (z01.g b r 4).2 = 1 then two b (z01.g b r 4).1 else
 if (z01.g b r 4).2 = 2 then three b (z01.g b r 4).1 else
 ((zv9 b (z01.g b r 4).1).1,(4,4,(zv9 b (z01.g b r 4).1).2))
end z0g
namespace z0g
def Z1 {ρ:Type} (N:Nat) (b0:List Int) (r0:Int × Int) (kn:List Int→I4 (Option ρ)):Option ρ :=
 kn b0 r0.1 r0.2 0 0
def Z3 {ρ:Type} (N:Nat) (a:List Int) (b c d e:Int) (kn:List Int→I4 (Option ρ)) (kr:LI→I2 (List Int→I2 (Option ρ))):Option ρ :=
 let x2_:=(z01.g a (b,c) 4)
 let x5_:=(z01.g a x2_.1 4)
 let x6_:=(z0a.g a x2_.1 (z07.g 3) 0 1 1 1)
 let x9_:=(z01.g a x5_.1 4)
 let x0_:=(z0a.g a x6_.1 ((z07.g 3).1,((z07.g 3).2.1,x6_.2.2.2)) 1 2 1 1)
 let x4_:=(z0a.g a x9_.1 (z07.g 2) 0 1 (w64 (1 + x5_.2)) (w64 (1 + x9_.2)))
 let x8_:=(z01.g a x0_.1 2)
 let x1_:=(
   cond (lk N (z0a.P a x9_.1 (z07.g 2) 0 1 (w64 (1 + x5_.2)) (w64 (1 + x9_.2)))) (
   kr x4_.2.2.2 (z07.g 2).1 (z07.g 2).2.1 a x4_.1.1 x4_.1.2) none)
 let x3_:=(z0a.g a x8_.1 ((z07.g 3).1,((z07.g 3).2.1,x0_.2.2.2)) 0 2 (w64 (1 + x8_.2)) 1)
 let x7_:=(
   bo (
   cond (lk N (z01.P a x5_.1 4)) x1_ none))
 cond (lk N (z01.P a (b,c) 4)) (
 cond (lk N (decide (x2_.2 = 0)))
 (
 kr ([0,2,(-2),(-2),0,2,2,(-2),0]:List Int) 3 3 a x2_.1.1 x2_.1.2)
 (
 cond (lk N (decide (x2_.2 = 1)))
 (
 cond (lk N (z07.P 2)) (
 z7e (
 cond (lk N (z01.P a x2_.1 4)) x7_ none)
 (
 cond (lk N (z01.P a x2_.1 4)) (
 z7e x7_
 (
 z7e x7_
 (
 cond (lk N (z01.P a x5_.1 4)) (
 bo x1_) none))) none)) none)
 (
 cond (lk N (decide (x2_.2 = 2)))
 (
 cond (lk N (z07.P 3)) (
 cond (lk N (z0a.P a x2_.1 (z07.g 3) 0 1 1 1)) (
 cond (lk N (z0a.P a x6_.1 ((z07.g 3).1,((z07.g 3).2.1,x6_.2.2.2)) 1 2 1 1)) (
 bo (
 cond (lk N (z01.P a x0_.1 2)) (
 cond (lk N (z0a.P a x8_.1 ((z07.g 3).1,((z07.g 3).2.1,x0_.2.2.2)) 0 2 (w64 (1 + x8_.2)) 1)) (
 cond (lk N (inB 2 x3_.2.2.2.length)) (
 cond (lk N (inB 6 x3_.2.2.2.length)) (
 kr (x3_.2.2.2.set 6 (w64 (0 - (x3_.2.2.2.getD 2 0)))) (z07.g 3).1 (z07.g 3).2.1 a x3_.1.1 x3_.1.2) none) none) none) none)) none) none) none)
 (
 kn a x2_.1.1 x2_.1.2 d e)))) none
def Z5 {ρ:Type} (N:Nat) (a:List Int) (b c d e:Int) (kn:LI→List Int→I6 (Option ρ)):Option ρ :=
 cond (lk N (z07.P 4)) (
  kn (z07.g 4).2.2 a b c d e (z07.g 4).1 (z07.g 4).2.1) none
def Z8 {ρ:Type} (N:Nat) (a:LI) (b:List Int) (c d e f g h:Int) (kn:LI→Int→List Int→I6 (Option ρ)):Option ρ :=
 kn a 0 b c d e f g h
def Z12 {ρ:Type} (N:Nat) (a:LI) (b:Int) (c:List Int) (d e f g h i:Int) (kn:LI→Int→List Int→I6 (Option ρ)) (k1:LI→I4 (List Int→I2 (Option ρ))):Option ρ :=
 cond (lk N (decide (b < 4)))
 (
  kn a b c d e f g h i)
 (
  k1 a f g h i c d e)
def Z16 {ρ:Type} (N:Nat) (a:LI) (b:Int) (c:List Int) (d e f g h i:Int) (kn:LI→I2 (List Int→I6 (Option ρ))):Option ρ :=
 kn a b 0 c d e f g h i
def Z19 {ρ:Type} (N:Nat) (f:LI) (a c:Int) (b:List Int) (d e h i j l:Int) (kn:LI→I2 (List Int→I6 (Option ρ))) (k3:LI→Int→List Int→I6 (Option ρ)):Option ρ :=
 cond (lk N (decide (c < a)))
 (
  cond (lk N (z01.P b (d,e) 5)) (
   cond (lk N (inB (w64 ((w64 (a * 4)) + c)) f.length)) (
    cond (lk N (inB (w64 ((w64 (c * 4)) + a)) (f.set (w64 ((w64 (a * 4)) + c)).toNat (w64 ((z01.g b (d,e) 5).2 - 2))).length)) (
     kn ((f.set (w64 ((w64 (a * 4)) + c)).toNat (w64 ((z01.g b (d,e) 5).2 - 2))).set (w64 ((w64 (c * 4)) + a)).toNat (w64 (0 - (w64 ((z01.g b (d,e) 5).2 - 2))))) a (w64 (c + 1)) b (z01.g b (d,e) 5).1.1 (z01.g b (d,e) 5).1.2 h i j l) none) none) none)
 (
  k3 f a b d e h i j l)
def Z18L {ρ:Type} (N:Nat) (k3:LI→Int→List Int→I6 (Option ρ)):Nat→LI→Int→Int→List Int→Int→Int→Int→Int→Int→Int→Option ρ
 | 0,_,_,_,_,_,_,_,_,_,_=>none
 | M + 1,a,b,c,d,e,f,g,h,i,j=>Z19 N a b c d e f g h i j (fun a b c d e f g h i j=>Z18L N k3 M a b c d e f g h i j) k3
def Z18 N a b c d e f g h i j k3:=(Z18L N k3 N a b c d e f g h i j:Option ρ)
def Z17 N a b c d e f g h i j kn:=(Z18 N a b c d e f g h i j kn:Option ρ)
def Z15 N a b c d e f g h i kn:=(Z16 N a b c d e f g h i (fun a b j c d e f g h i=>Z17 N a b j c d e f g h i kn):Option ρ)
def Z14 N a b c d e f g h i kn:=(Z15 N a b c d e f g h i kn:Option ρ)
def Z20 {ρ:Type} (N:Nat) (a:LI) (b:Int) (c:List Int) (d e f g h i:Int) (kn:LI→Int→List Int→I6 (Option ρ)):Option ρ :=
 kn a (w64 (b + 1)) c d e f g h i
def Z13 N a b c d e f g h i kn:=(Z14 N a b c d e f g h i (fun a b c d e f g h i=>Z20 N a b c d e f g h i kn):Option ρ)
def Z11 N a b c d e f g h i kn k1:=(Z12 N a b c d e f g h i (fun a b c d e f g h i=>Z13 N a b c d e f g h i kn) k1:Option ρ)
def Z10L {ρ:Type} (N:Nat) (k1:LI→I4 (List Int→I2 (Option ρ))):Nat→LI→Int→List Int→Int→Int→Int→Int→Int→Int→Option ρ
 | 0,_,_,_,_,_,_,_,_,_=>none
 | M + 1,a,b,c,d,e,f,g,h,i=>Z11 N a b c d e f g h i (fun a b c d e f g h i=>Z10L N k1 M a b c d e f g h i) k1
def Z10 N a b c d e f g h i k1:=(Z10L N k1 N a b c d e f g h i:Option ρ)
def Z9 N a b c d e f g h i kn:=(Z10 N a b c d e f g h i kn:Option ρ)
def Z7 N a b c d e f g h kn:=(Z8 N a b c d e f g h (fun a i b c d e f g h=>Z9 N a i b c d e f g h kn):Option ρ)
def Z21 {ρ:Type} (N:Nat) (a:LI) (g h b c:Int) (d:List Int) (e f:Int) (kr:LI→I2 (List Int→I2 (Option ρ))):Option ρ :=
 kr a b c d e f
def Z6 N a b c d e f g h kr:=(Z7 N a b c d e f g h (fun a e f g h b c d=>Z21 N a e f g h b c d kr):Option ρ)
def Z4 N a b c d e kr:=(Z5 N a b c d e (fun f a b c d e g h=>Z6 N f a b c d e g h kr):Option ρ)
def Z2 N a b c d e kr:=(Z3 N a b c d e (fun a b c d e=>Z4 N a b c d e kr) kr:Option ρ)
def Z0 N b0 r0 kr:=(Z1 N b0 r0 (fun a b c d e=>Z2 N a b c d e kr):Option ρ)
def Spec:Prop:=∀ {U:Type} (u:U) (b0:List Int) (r0:Int × Int),Ty.bd (.sl 0 (.int .u8)) b0→P b0 r0 = true→∃ N0,∀ N,N0≤N→Z0 N b0 r0 (fun v2_2 v2_0 v2_1 w0_0 w0_1 w0_2=>some (u,((w0_1,w0_2),((),((v2_0,(v2_1,v2_2)),()))))) = some (u,((g b0 r0).1,((),((g b0 r0).2,()))))
theorem zx3 {b:List Int} {i j:Nat} {s:(Int × Int) × List Int} (h:z2l b s.1 = true∧s.2.length = 16):z2l b (step4 b i s j).1 = true∧(step4 b i s j).2.length = 16 :=
 ⟨z01.keep h.1,by simpa [step4] using h.2⟩
theorem zl0 {b:List Int} {i:Nat}:∀ (l:List Nat) {s:(Int × Int) × List Int},(z2l b s.1 = true∧s.2.length = 16)→z2l b (l.foldl (step4 b i) s).1 = true∧(l.foldl (step4 b i) s).2.length = 16
 | [],_,h=>h
 | _ :: l,_,h=>zl0 l (zx3 h)
theorem rows_ok {b:List Int}:∀ (l:List Nat) {s:(Int × Int) × List Int},(z2l b s.1 = true∧s.2.length = 16)→z2l b (l.foldl (row4 b) s).1 = true∧(l.foldl (row4 b) s).2.length = 16
 | [],_,h=>h
 | i :: l,_,h=>rows_ok l (zl0 (i:=i) (List.range i) h)
theorem inner {ρ:Type} {N:Nat} {b:List Int} (k3:List Int→Int→List Int→Int→Int→Int→Int→Int→Int→Option ρ) (t0 t1 m0 m1:Int) {i:Nat} (hi:i < 4):∀ (M j:Nat) (s:(Int × Int) × List Int),j≤i→(z2l b s.1 = true∧s.2.length = 16)→i - j < M →
  Z18L N k3 M s.2 (i:Int) (j:Int) b s.1.1 s.1.2 t0 t1 m0 m1 = k3 (((List.range i).drop j).foldl (step4 b i) s).2 (i:Int) b (((List.range i).drop j).foldl (step4 b i) s).1.1 (((List.range i).drop j).foldl (step4 b i) s).1.2 t0 t1 m0 m1:=by
 intro M
 induction M with
 | zero=>intro j s _ _ h; omega
 | succ M ih =>
  intro j s hj hs hM
  simp only [Z18L,Z19]
  by_cases h:j < i
  ·have e1:w64 (w64 ((i:Int) * 4) + (j:Int)) = ((i * 4 + j:Nat):Int):=by
    rw [z1g (n:=(i:Int) * 4) (by omega) (by omega),z1g (by omega) (by omega)]
    simp
   have e2:w64 (w64 ((j:Int) * 4) + (i:Int)) = ((j * 4 + i:Nat):Int):=by
    rw [z1g (n:=(j:Int) * 4) (by omega) (by omega),z1g (by omega) (by omega)]
    simp
   have hr:=z01.range (b:=b) (r:=s.1) (n:=5) (by omega) (by omega)
   have hP:z01.P b s.1 5 = true:=hs.1
   have es:((s.1.1,s.1.2):Int × Int) = s.1:=rfl
   have e3:w64 ((z01.g b s.1 5).2 - 2) = (z01.g b s.1 5).2 - 2:=z1g (by omega) (by omega)
   have e4:w64 (0 - ((z01.g b s.1 5).2 - 2)) = 2 - (z01.g b s.1 5).2:=by
    rw [z1g (by omega) (by omega)]
    omega
   rw [ct (dt (by omega)),es,ct hP,e1,e2,e3,e4,ct (z1b (by rw [hs.2]; omega)),ct (z1b (by rw [List.length_set,hs.2]; omega)),Int.toNat_natCast,Int.toNat_natCast,z1c (by rw [z0z]; omega),z3q h,List.foldl_cons]
   exact ih (j + 1) (step4 b i s j) h (zx3 hs) (by omega)
  ·rw [cf (df (by omega)),List.drop_of_length_le (by rw [List.length_range]; omega)]
   rfl
theorem outer {ρ:Type} {N:Nat} (hN:10≤N) {b:List Int} (k1:List Int→Int→Int→Int→Int→List Int→Int→Int→Option ρ) (t0 t1 m0 m1:Int):∀ (M i:Nat) (s:(Int × Int) × List Int),i≤4→(z2l b s.1 = true∧s.2.length = 16)→4 - i < M →
  Z10L N k1 M s.2 (i:Int) b s.1.1 s.1.2 t0 t1 m0 m1 = k1 (((List.range 4).drop i).foldl (row4 b) s).2 t0 t1 m0 m1 b (((List.range 4).drop i).foldl (row4 b) s).1.1 (((List.range 4).drop i).foldl (row4 b) s).1.2:=by
 intro M
 induction M with
 | zero=>intro i s _ _ h; omega
 | succ M ih =>
  intro i s hi hs hM
  simp only [Z10L,Z11,Z12]
  by_cases h:i < 4
  ·rw [ct (dt (by omega))]
   simp only [Z13,Z14,Z15,Z16,Z17,Z18]
   refine (inner _ t0 t1 m0 m1 h N 0 s (Nat.zero_le _) hs (by omega)).trans ?_
   simp only [Z20]
   rw [List.drop_zero,z1c (by rw [z0z]; omega),z3q h,List.foldl_cons]
   exact ih (i + 1) (row4 b s i) h (zl0 _ hs) (by omega)
  ·rw [cf (df (by omega)),List.drop_of_length_le (by rw [List.length_range]; omega)]
   rfl
theorem dim_zero {n:Int} (h1:1≤n) (h5:n≤5):z40 (z07.g n) = true:=by
 have:n = 1∨n = 2∨n = 3∨n = 4∨n = 5:=by omega
 rcases this with rfl | rfl | rfl | rfl | rfl <;> rfl
theorem joinP {b:List Int} {r:Int × Int} {m:Int × Int × List Int} {i j a c:Int} (h1:z2l b r = true) (h2:z40 m = true) (hi:0≤i∧i < m.1) (hj:0≤j∧j < m.1) (ha:0≤a∧a≤1000) (hc:0≤c∧c≤1000):z0a.P b r m i j a c = true:=by
 simp only [z0a.P,Bool.and_eq_true,z3d]
 exact ⟨h1,h2,by omega,by omega,by omega,by omega⟩
theorem keep {b:List Int} {r:Int × Int} (h:z2l b r = true):z2l b (g b r).1 = true:=by
 have h0:=z01.keep (n:=4) h
 unfold g
 split
 ·exact h0
 split
 ·exact z0a.keep (z01.keep (z01.keep h0))
 split
 ·have k1:z2l b (j1 b (z01.g b r 4).1).1 = true:=z0a.keep h0
  have k2:z2l b (j2 b (z01.g b r 4).1).1 = true:=z0a.keep k1
  have k3:z2l b (j3 b (z01.g b r 4).1).1 = true:=z0a.keep (z01.keep k2)
  exact k3
 ·exact (rows_ok (List.range 4) ⟨h0,by simp⟩).1
theorem dim {b:List Int} {r:Int × Int} (h:z2l b r = true):z40 (g b r).2 = true∧(g b r).2.1 = (g b r).2.2.1:=by
 have h0:=z01.keep (n:=4) h
 unfold g
 split
 ·exact ⟨rfl,rfl⟩
 split
 ·exact ⟨z0a.dim_join (dim_zero (by omega) (by omega)),rfl⟩
 split
 ·have:z40 (j3 b (z01.g b r 4).1).2 = true:=z0a.dim_join (z0a.dim_join (z0a.dim_join (dim_zero (by omega) (by omega))))
  exact ⟨by simpa [z40,three] using this,rfl⟩
 ·have:=(rows_ok (List.range 4) (s:=((z01.g b r 4).1,List.replicate 16 0)) ⟨h0,by simp⟩).2
  refine ⟨?_,rfl⟩
  simp only [z40,Bool.and_eq_true,decide_eq_true_eq,z3d]
  refine ⟨by omega,by omega, ?_⟩
  show ((zv9 b (z01.g b r 4).1).2.length:Int) = 4 * 4
  unfold zv9
  omega
theorem ok:Spec:=fun u b r hb hp=>⟨20,fun N hN=>by
 have h0:=z01.keep (n:=4) hp
 have hP:z01.P b r 4 = true:=hp
 have er:((r.1,r.2):Int × Int) = r:=rfl
 simp only [Z0,Z1,Z2,Z3,er]
 rw [ct hP]
 by_cases c0:(z01.g b r 4).2 = 0
 ·rw [ct (dt c0),show g b r = ((z01.g b r 4).1,markov) from if_pos c0]
  rfl
 rw [cf (df c0)]
 by_cases c1:(z01.g b r 4).2 = 1
 ·rw [ct (dt c1),show g b r = two b (z01.g b r 4).1 from (if_neg c0).trans (if_pos c1)]
  have h1:=z01.keep (n:=4) h0
  have h2:=z01.keep (n:=4) h1
  have r1:=z01.range (b:=b) (r:=(z01.g b r 4).1) (n:=4) (by omega) (by omega)
  have r2:=z01.range (b:=b) (r:=(z01.g b (z01.g b r 4).1 4).1) (n:=4) (by omega) (by omega)
  have p1:z01.P b (z01.g b r 4).1 4 = true:=h0
  have p2:z01.P b (z01.g b (z01.g b r 4).1 4).1 4 = true:=h1
  have w1:w64 (1 + (z01.g b (z01.g b r 4).1 4).2) = 1 + (z01.g b (z01.g b r 4).1 4).2:=z1g (by omega) (by omega)
  have w2:w64 (1 + (z01.g b (z01.g b (z01.g b r 4).1 4).1 4).2) = 1 + (z01.g b (z01.g b (z01.g b r 4).1 4).1 4).2:=z1g (by omega) (by omega)
  have pz:z07.P 2 = true:=rfl
  have pj:=joinP (m:=z07.g 2) (i:=0) (j:=1) (a:=1 + (z01.g b (z01.g b r 4).1 4).2) (c:=1 + (z01.g b (z01.g b (z01.g b r 4).1 4).1 4).2) h2 (dim_zero (by omega) (by omega)) (show (0:Int)≤0∧(0:Int) < 2 by omega) (show (0:Int)≤1∧(1:Int) < 2 by omega) (by omega) (by omega)
  simp only [z1x,p1,p2,w1,w2,pz,pj,cond_true,z3h]
  rfl
 rw [cf (df c1)]
 by_cases c2:(z01.g b r 4).2 = 2
 ·rw [ct (dt c2),show g b r = three b (z01.g b r 4).1 from (if_neg c0).trans ((if_neg c1).trans (if_pos c2))]
  generalize (z01.g b r 4).1 = r1 at h0
  have pz:z07.P 3 = true:=rfl
  have d0:z40 (z07.g 3) = true:=dim_zero (by omega) (by omega)
  have k1:z2l b (j1 b r1).1 = true:=z0a.keep h0
  have k2:z2l b (j2 b r1).1 = true:=z0a.keep k1
  have k3:=z01.keep (n:=2) k2
  have d1:z40 (j1 b r1).2 = true:=z0a.dim_join d0
  have d2:z40 (j2 b r1).2 = true:=z0a.dim_join d1
  have q1:z0a.P b r1 (z07.g 3) 0 1 1 1 = true:=joinP h0 d0 (show (0:Int)≤0∧(0:Int) < 3 by omega) (show (0:Int)≤1∧(1:Int) < 3 by omega) (by omega) (by omega)
  have q2:z0a.P b (j1 b r1).1 (j1 b r1).2 1 2 1 1 = true:=joinP k1 d1 (show (0:Int)≤1∧(1:Int) < 3 by omega) (show (0:Int)≤2∧(2:Int) < 3 by omega) (by omega) (by omega)
  have rr:=z01.range (b:=b) (r:=(j2 b r1).1) (n:=2) (by omega) (by omega)
  have w1:w64 (1 + (z01.g b (j2 b r1).1 2).2) = 1 + (z01.g b (j2 b r1).1 2).2:=z1g (by omega) (by omega)
  have q3:z0a.P b (z01.g b (j2 b r1).1 2).1 (j2 b r1).2 0 2 (1 + (z01.g b (j2 b r1).1 2).2) 1 = true:=joinP k3 d2 (show (0:Int)≤0∧(0:Int) < 3 by omega) (show (0:Int)≤2∧(2:Int) < 3 by omega) (by omega) (by omega)
  have p2:z01.P b (j2 b r1).1 2 = true:=k2
  have len:(j3 b r1).2.2.2.length = 9:=by simp [j3,j2,j1,z0a.g,z0a.joinM,z07.g]
  have i2:inB 2 (j3 b r1).2.2.2.length = true:=by rw [len]; rfl
  have i6:inB 6 (j3 b r1).2.2.2.length = true:=by rw [len]; rfl
  have f1:z0a.g b r1 (z07.g 3) 0 1 1 1 = j1 b r1:=rfl
  have f2:z0a.g b (j1 b r1).1 (j1 b r1).2 1 2 1 1 = j2 b r1:=rfl
  have f3:z0a.g b (z01.g b (j2 b r1).1 2).1 (j2 b r1).2 0 2 (1 + (z01.g b (j2 b r1).1 2).2) 1 = j3 b r1:=rfl
  have s1:(((z07.g 3).1,((z07.g 3).2.1,(j1 b r1).2.2.2)):Int × Int × List Int) = (j1 b r1).2:=rfl
  have s1':(((z07.g 3).1,((z07.g 3).2.1,(j2 b r1).2.2.2)):Int × Int × List Int) = (j2 b r1).2:=rfl
  simp only [z1x,pz,q1,f1,s1,q2,f2,p2,s1',w1,q3,f3,i2,i6,cond_true,z3h]
  rfl
 rw [cf (df c2),show g b r = ((zv9 b (z01.g b r 4).1).1,(4,4,(zv9 b (z01.g b r 4).1).2)) from (if_neg c0).trans ((if_neg c1).trans (if_neg c2))]
 simp only [Z4,Z5]
 rw [ct (show z07.P 4 = true from rfl)]
 simp only [Z6,Z7,Z8,Z9,Z10]
 have ez:(z07.g 4).2.2 = List.replicate 16 0:=rfl
 rw [ez]
 refine (outer (by omega) (fun m5_2 t2_0 t2_1 m5_0 m5_1 io100000_0 io100000_1 io100000_2=>Z21 N m5_2 t2_0 t2_1 m5_0 m5_1 io100000_0 io100000_1 io100000_2 _) 0 0 4 4 N 0 ((z01.g b r 4).1,List.replicate 16 0) (Nat.zero_le _) ⟨h0,by simp⟩ (by omega)).trans ?_
 rw [List.drop_zero]
 simp only [Z21]
 rfl⟩
end z0g
end
end Go.Fw
namespace Go.Fw
section
variable {ρ:Type}
namespace z0d
def g (n:Int):ByteArray:=zb4 n
def P (n:Int):Bool:=i64P n
end z0d
namespace z0d
def Z1 {ρ:Type} (N:Nat) (a:Int) (kn:Int→Option ρ):Option ρ :=
 kn a
def Z3 {ρ:Type} (N:Nat) (a:Int) (kn:List Int→Int→Option ρ):Option ρ :=
 kn ([]:List Int) a
def Z5 {ρ:Type} (N:Nat) (b:List Int) (a:Int) (kn:List Int→I2 (Option ρ)):Option ρ :=
 kn b a a
def Z9 {ρ:Type} (N:Nat) (b:List Int) (c a:Int) (kn:List Int→I2 (Option ρ)) (k0:List Int→Int→Option ρ):Option ρ :=
 cond (lk N (!(decide (a = 0))))
 (
  cond (lk N (true)) (
   cond (lk N (decide ((Int.tmod a 10) < 0)))
   (
    cond (lk N (Nat.blt (b.length + ([(w8 ((w64 (48 + (w64 (0 - (Int.tmod a 10)))))))]:List Int).length) 1099511627776)) (
     cond (lk N (true)) (
      kn (b ++ ([(w8 ((w64 (48 + (w64 (0 - (Int.tmod a 10)))))))]:List Int)) c (w64 (Int.tdiv a 10))) none) none)
   (
    cond (lk N (Nat.blt (b.length + ([(w8 ((w64 (48 + (Int.tmod a 10)))))]:List Int).length) 1099511627776)) (
     cond (lk N (true)) (
      kn (b ++ ([(w8 ((w64 (48 + (Int.tmod a 10)))))]:List Int)) c (w64 (Int.tdiv a 10))) none) none)) none)
 (
  cond (lk N (decide ((b.length:Int) = 0)))
  (
   cond (lk N (true)) (
    cond (lk N (decide ((Int.tmod a 10) < 0)))
    (
     cond (lk N (Nat.blt (b.length + ([(w8 ((w64 (48 + (w64 (0 - (Int.tmod a 10)))))))]:List Int).length) 1099511627776)) (
      cond (lk N (true)) (
       kn (b ++ ([(w8 ((w64 (48 + (w64 (0 - (Int.tmod a 10)))))))]:List Int)) c (w64 (Int.tdiv a 10))) none) none)
    (
     cond (lk N (Nat.blt (b.length + ([(w8 ((w64 (48 + (Int.tmod a 10)))))]:List Int).length) 1099511627776)) (
      cond (lk N (true)) (
       kn (b ++ ([(w8 ((w64 (48 + (Int.tmod a 10)))))]:List Int)) c (w64 (Int.tdiv a 10))) none) none)) none)
  (
   k0 b c))
def Z8L {ρ:Type} (N:Nat) (k0:List Int→Int→Option ρ):Nat→List Int→Int→Int→Option ρ
 | 0,_,_,_=>none
 | M + 1,a,b,c=>Z9 N a b c (fun a b c=>Z8L N k0 M a b c) k0
def Z8 N a b c k0:=(Z8L N k0 N a b c:Option ρ)
def Z7 N a b c kn:=(Z8 N a b c kn:Option ρ)
def Z11 {ρ:Type} (N:Nat) (a:List Int) (b:Int) (kn:List Int→List Int→Int→Option ρ):Option ρ :=
 kn a ([]:List Int) b
def Z13 {ρ:Type} (N:Nat) (b a:List Int) (c:Int) (kn:List Int→List Int→Option ρ):Option ρ :=
 cond (lk N (decide (c < 0)))
 (
  cond (lk N (Nat.blt (a.length + ([45]:List Int).length) 1099511627776)) (
   kn b (a ++ ([45]:List Int))) none)
 (
  kn b a)
def Z16 {ρ:Type} (N:Nat) (a b:List Int) (kn:List Int→List Int→Int→Option ρ):Option ρ :=
 kn a b (w64 ((a.length:Int) - 1))
def Z19 {ρ:Type} (N:Nat) (b c:List Int) (a:Int) (kn:List Int→List Int→Int→Option ρ) (k2:List Int→Option ρ):Option ρ :=
 cond (lk N (decide (0≤a)))
 (
  cond (lk N (inB a b.length)) (
   cond (lk N (Nat.blt (c.length + ([(b.getD a.toNat 0)]:List Int).length) 1099511627776)) (
    kn b (c ++ ([(b.getD a.toNat 0)]:List Int)) (w64 (a - 1))) none) none)
 (
  k2 c)
def Z18L {ρ:Type} (N:Nat) (k2:List Int→Option ρ):Nat→List Int→List Int→Int→Option ρ
 | 0,_,_,_=>none
 | M + 1,a,b,c=>Z19 N a b c (fun a b c=>Z18L N k2 M a b c) k2
def Z18 N a b c k2:=(Z18L N k2 N a b c:Option ρ)
def Z17 N a b c kn:=(Z18 N a b c kn:Option ρ)
def Z15 N a b kn:=(Z16 N a b (fun a b c=>Z17 N a b c kn):Option ρ)
def Z20 {ρ:Type} (N:Nat) (a:List Int) (kr:ByteArray→Option ρ):Option ρ :=
 kr (strOfNums a)
def Z14 N b a kr:=(Z15 N b a (fun a=>Z20 N a kr):Option ρ)
def Z12 N a b c kr:=(Z13 N a b c (fun a b=>Z14 N a b kr):Option ρ)
def Z10 N a b kr:=(Z11 N a b (fun a c b=>Z12 N a c b kr):Option ρ)
def Z6 N a b c kr:=(Z7 N a b c (fun a b=>Z10 N a b kr):Option ρ)
def Z4 N a b kr:=(Z5 N a b (fun a b c=>Z6 N a b c kr):Option ρ)
def Z2 N a kr:=(Z3 N a (fun b a=>Z4 N b a kr):Option ρ)
def Z0 N a kr:=(Z1 N a (fun a=>Z2 N a kr):Option ρ)
def Spec:Prop:=∀  (v0:Int),P v0 = true→∃ N0,∀ N,N0≤N→Z0 N v0 (fun v2=>some ((),(v2,()))) = some ((),((g v0),()))
theorem done {ρ:Type} {N M:Nat} (k0:List Int→Int→Option ρ) {ds:List Int} (hd:ds≠[]) (n:Int):Z8L N k0 (M + 1) ds n 0 = k0 ds n:=by
 have hl:ds.length≠0:=fun h=>hd (List.length_eq_zero_iff.1 h)
 simp only [Z8L,Z9]
 rw [cf (show (!decide True) = false from rfl),cf (df (by omega))]
theorem loop {ρ:Type} {N:Nat} (k0:List Int→Int→Option ρ) (n:Int):∀ (c M:Nat) (ds:List Int) (k:Int),k.natAbs < 10 ^ c→k.natAbs < 9223372036854775809→1≤c→c < M→ds.length + c≤100→(k≠0∨ds = []) →
  Z8L N k0 M ds n k = k0 (ds ++ lsd k.natAbs) n:=by
 intro c
 induction c with
 | zero=>intro M ds k _ _ h; omega
 | succ c ih =>
  intro M ds k hk hk2 _ hM hd hor
  obtain ⟨M,rfl⟩:∃ m,M = m + 1:=⟨M - 1,by omega⟩
  have hq:w64 (Int.tdiv k 10) = Int.tdiv k 10:=by
   have:=zc6 k
   exact z1g (by omega) (by omega)
  have hstep:Z8L N k0 (M + 1) ds n k = Z8L N k0 M (ds ++ [48 + ((k.natAbs % 10:Nat):Int)]) n (Int.tdiv k 10):=by
   have hb:∀ x:Int,Nat.blt (ds.length + ([x]:List Int).length) 1099511627776 = true:=fun x=>Nat.ble_eq_true_of_le (by simp; omega)
   simp only [Z8L,Z9,hq,hb,z1x,cond_true]
   by_cases hk0:k = 0
   ·subst hk0
    have hds:ds = []:=hor.resolve_left (by simp)
    subst hds
    rfl
   ·rw [nt hk0,cond_true]
    by_cases hneg:Int.tmod k 10 < 0
    ·rw [dt hneg,cond_true,dig_neg hneg]
    ·rw [df hneg,cond_false,dig_pos hneg]
  rw [hstep]
  by_cases hsm:k.natAbs < 10
  ·have e0:Int.tdiv k 10 = 0:=by
    have:=zc6 k
    omega
   obtain ⟨M,rfl⟩:∃ m,M = m + 1:=⟨M - 1,by omega⟩
   rw [e0,done k0 (by simp) n,znr hsm,Nat.mod_eq_of_lt hsm]
  ·have hc:1≤c:=by
    rcases Nat.eq_zero_or_pos c with h | h
    ·subst h
     omega
    ·exact h
   have hd2:=zc6 k
   rw [ih M _ (Int.tdiv k 10) (by rw [hd2,Nat.div_lt_iff_lt_mul (by omega),← Nat.pow_succ]; exact hk) (by omega) hc (by omega) (by simp; omega) (.inl (by omega)),hd2,zy0 hsm,List.append_assoc]
   rfl
theorem back {ρ:Type} {N:Nat} (k2:List Int→Option ρ) {ds:List Int} (hd:ds.length≤100):∀ (j M:Nat) (out:List Int),j≤ds.length→j < M→out.length + j≤1000→Z18L N k2 M ds out ((j:Int) - 1) = k2 (out ++ (ds.take j).reverse):=by
 intro j
 induction j with
 | zero =>
  intro M out _ hM _
  obtain ⟨M,rfl⟩:∃ m,M = m + 1:=⟨M - 1,by omega⟩
  simp only [Z18L,Z19]
  rw [cf (df (by omega)),List.take_zero,List.reverse_nil,List.append_nil]
 | succ j ih =>
  intro M out hj hM ho
  obtain ⟨M,rfl⟩:∃ m,M = m + 1:=⟨M - 1,by omega⟩
  have e:((j + 1:Nat):Int) - 1 = (j:Int):=by omega
  have hb:∀ x:Int,Nat.blt (out.length + ([x]:List Int).length) 1099511627776 = true:=fun x=>Nat.ble_eq_true_of_le (by simp; omega)
  simp only [Z18L,Z19,e]
  rw [ct (dt (by omega)),ct (z1b hj),ct (hb _),Int.toNat_natCast,z1g (by omega) (by omega),ih M _ (by omega) (by omega) (by simp; omega),← zn1 0 hj,List.reverse_append,List.append_assoc]
  rfl
theorem lsd_len {u:Nat}:∀ (c:Nat),u < 10 ^ c→1≤c→(lsd u).length≤c:=by
 intro c
 induction c generalizing u with
 | zero=>intro _ h; omega
 | succ c ih =>
  intro h _
  by_cases hs:u < 10
  ·rw [znr hs]
   simp
  ·rw [zy0 hs,List.length_cons]
   have hc:1≤c:=by
    rcases Nat.eq_zero_or_pos c with h' | h'
    ·subst h'
     omega
    ·exact h'
   have:=ih (u:=u / 10) (by rw [Nat.div_lt_iff_lt_mul (by omega),← Nat.pow_succ]; exact h) hc
   omega
theorem ok:Spec:=fun n hp=>⟨200,fun N hN=>by
 simp only [P,i64P,Bool.and_eq_true,decide_eq_true_eq] at hp
 have h19:n.natAbs < 10 ^ 19:=by
  have:(10:Nat) ^ 19 = 10000000000000000000:=by decide
  omega
 have hlen:=lsd_len 19 h19 (by omega)
 simp only [Z0,Z1,Z2,Z3,Z4,Z5,Z6,Z7,Z8]
 refine (loop _ n 19 N [] n h19 (by omega) (by omega) (by omega) (by simp) (.inr rfl)).trans ?_
 rw [List.nil_append]
 have hl0:lsd n.natAbs = (lsd n.natAbs).take (lsd n.natAbs).length:=by rw [List.take_length]
 have fin:∀ out:List Int,out.length≤10→Z18L N (fun out6=>some ((),(strOfNums out6,()))) N (lsd n.natAbs) out (((lsd n.natAbs).length:Int) - 1) = some ((),(strOfNums (out ++ (lsd n.natAbs).reverse),())):=fun out ho=>by
  rw [back _ (by omega) _ N out (Nat.le_refl _) (by omega) (by omega),List.take_length]
 simp only [Z10,Z11,Z12,Z13]
 by_cases hneg:n < 0
 ·rw [ct (dt hneg),ct (show Nat.blt (([]:List Int).length + ([45]:List Int).length) 1099511627776 = true from rfl)]
  simp only [Z14,Z15,Z16,Z17,Z18,Z20]
  rw [z1g (by omega) (by omega),fin _ (by simp),g,zb4,Lib.itoa,if_pos hneg]
  have:=nums_neg n.natAbs
  simp only [List.nil_append,List.singleton_append]
  rw [this]
 ·rw [cf (df hneg)]
  simp only [Z14,Z15,Z16,Z17,Z18,Z20]
  rw [z1g (by omega) (by omega),fin _ (by simp),g,zb4,Lib.itoa,if_neg hneg,List.nil_append,nums_lsd,show n.natAbs = n.toNat by omega]⟩
end z0d
end
end Go.Fw
namespace Go.Fw
section
variable {ρ:Type}
namespace spec_dTree
def P (b:List Int) (r:Int × Int) (most:Int):Bool:=z2l b r && inK most 1 4
abbrev S:=(Int × Int) × (Int × Int × List Int)
def chainS (b:List Int) (s:S) (i:Nat):S:=z0a.g b s.1 s.2 (i:Int) ((i:Int) + 1) 1 1
def starS (b:List Int) (s:S) (i:Nat):S:=z0a.g b s.1 s.2 0 (i:Int) 1 1
def chainG (b:List Int) (r:Int × Int) (n c:Nat):S:=(List.range c).foldl (chainS b) (r,z07.g (n:Int))
def starG (b:List Int) (r:Int × Int):S:=((List.range 4).drop 1).foldl (starS b) (r,z07.g 4)
def f1 (b:List Int) (r:Int × Int):S:=z0a.g b r (z07.g 4) 0 1 1 1
def f2 (b:List Int) (r:Int × Int):S:=z0a.g b (f1 b r).1 (f1 b r).2 1 2 2 1
def f3 (b:List Int) (r:Int × Int):S:=z0a.g b (f2 b r).1 (f2 b r).2 2 3 1 1
def endB (b:List Int) (s:S) (n:Nat) (x y:Int):S:=z0a.g b s.1 s.2 ((n:Int) - 2) ((n:Int) - 1) x y
def ones:List ByteArray:=[ByteArray.empty,⟨#[65,49]⟩,⟨#[65,49,32,65,49]⟩,⟨#[65,49,32,65,49,32,65,49]⟩,⟨#[65,49,32,65,49,32,65,49,32,65,49]⟩,⟨#[65,49,32,65,49,32,65,49,32,65,49,32,65,49]⟩]
def k1 (k n most:Int):Int:=cond ((decide (4≤k) && (decide (k≤6) && decide (n < 2))) || (decide (k = 7) && decide (most < 2))) 0 k
def k2 (k most:Int):Int:=cond ((decide (k = 8) && decide (most < 4)) || ((decide (k = 9) && decide (most < 4)) || (decide (k = 10) && decide (most < 3)))) 1 k
def tree (b:List Int) (r:Int × Int) (k:Int) (n:Nat):S × ByteArray :=
 if k = 4 then (endB b (chainG b r n (n - 2)) n 2 1,⟨#[66]⟩ ++ zb4 n) else
 if k = 5 then (if n = 2 then (endB b (chainG b r n (n - 2)) n 2 1,⟨#[66]⟩ ++ zb4 n) else (endB b (chainG b r n (n - 2)) n 1 2,⟨#[67]⟩ ++ zb4 n)) else
 if k = 6 then ((r,z07.g n),ones.getD n ByteArray.empty) else
 if k = 7 then (z0a.g b r (z07.g 2) 0 1 3 1,⟨#[71,50]⟩) else
 if k = 8 then (starG b r,⟨#[68,52]⟩) else
 if k = 9 then (f3 b r,⟨#[70,52]⟩) else
 if k = 10 then (z0a.g b r (z07.g 3) 0 1 1 1,⟨#[65,49,32,65,50]⟩) else
 (chainG b r n (n - 1),⟨#[65]⟩ ++ zb4 n)
def g (b:List Int) (r:Int × Int) (most:Int):(Int × Int) × (Int × Int × List Int) × ByteArray :=
 let k:=z01.g b r 11
 let n:=z01.g b k.1 most
 let t:=tree b n.1 (k2 (k1 k.2 (1 + n.2) most) most) (1 + n.2).toNat
 (t.1.1,t.1.2,t.2)
end spec_dTree
namespace spec_dTree
def Z1 {ρ:Type} (N:Nat) (b0:List Int) (r0:Int × Int) (a:Int) (kn:Int→List Int→I4 (Option ρ)):Option ρ :=
 kn a b0 r0.1 r0.2 0 0
def Z3 {ρ:Type} (N:Nat) (d:Int) (a:List Int) (b c e f:Int) (kn:I2 (List Int→I4 (Option ρ))):Option ρ :=
 cond (lk N (z01.P a (b,c) 11)) (
  kn d (z01.g a (b,c) 11).2 a (z01.g a (b,c) 11).1.1 (z01.g a (b,c) 11).1.2 e f) none
def Z5 {ρ:Type} (N:Nat) (a e:Int) (b:List Int) (c d f h:Int) (kn:I3 (List Int→I4 (Option ρ))):Option ρ :=
 cond (lk N (z01.P b (c,d) a)) (
  kn a e (w64 (1 + (z01.g b (c,d) a).2)) b (z01.g b (c,d) a).1.1 (z01.g b (c,d) a).1.2 f h) none
def Z7 {ρ:Type} (N:Nat) (a b c:Int) (d:List Int) (e f g h:Int) (kn:I3 (List Int→I4 (Option ρ))):Option ρ :=
 cond (lk N (decide (4≤b)))
 (
  cond (lk N (decide (b≤6)))
  (
   cond (lk N (decide (c < 2)))
   (
    kn a 0 c d e f g h)
   (
    cond (lk N (decide (b = 7)))
    (
     cond (lk N (decide (a < 2)))
     (
      kn a 0 c d e f g h)
     (
      kn a b c d e f g h))
    (
     kn a b c d e f g h)))
  (
   cond (lk N (decide (b = 7)))
   (
    cond (lk N (decide (a < 2)))
    (
     kn a 0 c d e f g h)
    (
     kn a b c d e f g h))
   (
    kn a b c d e f g h)))
 (
  cond (lk N (decide (b = 7)))
  (
   cond (lk N (decide (a < 2)))
   (
    kn a 0 c d e f g h)
   (
    kn a b c d e f g h))
  (
   kn a b c d e f g h))
def Z9 {ρ:Type} (N:Nat) (h a b:Int) (c:List Int) (d e f g:Int) (kn:I2 (List Int→I4 (Option ρ))):Option ρ :=
 cond (lk N (decide (a = 8)))
 (
  cond (lk N (decide (h < 4)))
  (
   kn 1 b c d e f g)
  (
   cond (lk N (decide (a = 9)))
   (
    cond (lk N (decide (h < 4)))
    (
     kn 1 b c d e f g)
    (
     cond (lk N (decide (a = 10)))
     (
      cond (lk N (decide (h < 3)))
      (
       kn 1 b c d e f g)
      (
       kn a b c d e f g))
     (
      kn a b c d e f g)))
   (
    cond (lk N (decide (a = 10)))
    (
     cond (lk N (decide (h < 3)))
     (
      kn 1 b c d e f g)
     (
      kn a b c d e f g))
    (
     kn a b c d e f g))))
 (
  cond (lk N (decide (a = 9)))
  (
   cond (lk N (decide (h < 4)))
   (
    kn 1 b c d e f g)
   (
    cond (lk N (decide (a = 10)))
    (
     cond (lk N (decide (h < 3)))
     (
      kn 1 b c d e f g)
     (
      kn a b c d e f g))
    (
     kn a b c d e f g)))
  (
   cond (lk N (decide (a = 10)))
   (
    cond (lk N (decide (h < 3)))
    (
     kn 1 b c d e f g)
    (
     kn a b c d e f g))
   (
    kn a b c d e f g)))
def Z12 {ρ:Type} (N:Nat) (a b:Int) (c:List Int) (d e f g:Int) (kn:I3 (List Int→I4 (Option ρ))):Option ρ :=
 kn a b a c d e f g
def Z15 {ρ:Type} (N:Nat) (b c a:Int) (d:List Int) (e f g h:Int) (kn:I3 (Bool→List Int→I4 (Option ρ))):Option ρ :=
 cond (lk N (decide (a = 4)))
 (
  kn b c a (lk N (decide (a = 4))) d e f g h)
 (
  kn b c a (lk N (decide (a = 5))) d e f g h)
def Z18 {ρ:Type} (N:Nat) (b a i:Int) (j:Bool) (c:List Int) (d e f h:Int) (kn:LI→I2 (List Int→I6 (Option ρ))):Option ρ :=
 cond (lk N (z07.P a)) (
  kn (z07.g a).2.2 b a c d e f h (z07.g a).1 (z07.g a).2.1) none
def Z21 {ρ:Type} (N:Nat) (a:LI) (b c:Int) (d:List Int) (e f g h i j:Int) (kn:LI→I3 (List Int→I6 (Option ρ))):Option ρ :=
 kn a b c 0 d e f g h i j
def Z24 {ρ:Type} (N:Nat) (e:LI) (j i a:Int) (b:List Int) (f h l m c d:Int) (kn:LI→I3 (List Int→I6 (Option ρ))) (k1:LI→I2 (List Int→I6 (Option ρ))):Option ρ :=
 cond (lk N (decide ((w64 (a + 2)) < i)))
 (
  cond (lk N (z0a.P b (f,h) (c,(d,e)) a (w64 (a + 1)) 1 1)) (
   kn (z0a.g b (f,h) (c,(d,e)) a (w64 (a + 1)) 1 1).2.2.2 j i (w64 (a + 1)) b (z0a.g b (f,h) (c,(d,e)) a (w64 (a + 1)) 1 1).1.1 (z0a.g b (f,h) (c,(d,e)) a (w64 (a + 1)) 1 1).1.2 l m c d) none)
 (
  k1 e j i b f h l m c d)
def Z23L {ρ:Type} (N:Nat) (k1:LI→I2 (List Int→I6 (Option ρ))):Nat→LI→Int→Int→Int→List Int→Int→Int→Int→Int→Int→Int→Option ρ
 | 0,_,_,_,_,_,_,_,_,_,_,_=>none
 | M + 1,a,b,c,d,e,f,g,h,i,j,l=>Z24 N a b c d e f g h i j l (fun a b c d e f g h i j l=>Z23L N k1 M a b c d e f g h i j l) k1
def Z23 N a b c d e f g h i j l k1:=(Z23L N k1 N a b c d e f g h i j l:Option ρ)
def Z22 N a b c d e f g h i j l kn:=(Z23 N a b c d e f g h i j l kn:Option ρ)
def Z20 N a b c d e f g h i j kn:=(Z21 N a b c d e f g h i j (fun a b c l d e f g h i j=>Z22 N a b c l d e f g h i j kn):Option ρ)
def Z25 {ρ:Type} (N:Nat) (e:LI) (i a:Int) (b:List Int) (f h j l c d:Int) (kr:LI→ByteArray→I2 (List Int→I2 (Option ρ))):Option ρ :=
 cond (lk N (decide (i = 4)))
 (
  cond (lk N (z0a.P b (f,h) (c,(d,e)) (w64 (a - 2)) (w64 (a - 1)) 2 1)) (
   cond (lk N (z0d.P a)) (
    bo (
     cond (Nat.blt ((⟨#[66]⟩:ByteArray).size + (z0d.g a).size) 4611686018427387904) (
      kr (z0a.g b (f,h) (c,(d,e)) (w64 (a - 2)) (w64 (a - 1)) 2 1).2.2.2 ((⟨#[66]⟩:ByteArray) ++ (z0d.g a)) c d b (z0a.g b (f,h) (c,(d,e)) (w64 (a - 2)) (w64 (a - 1)) 2 1).1.1 (z0a.g b (f,h) (c,(d,e)) (w64 (a - 2)) (w64 (a - 1)) 2 1).1.2) none)) none) none)
 (
  cond (lk N (decide (a = 2)))
  (
   cond (lk N (z0a.P b (f,h) (c,(d,e)) (w64 (a - 2)) (w64 (a - 1)) 2 1)) (
    cond (lk N (z0d.P a)) (
     bo (
      cond (Nat.blt ((⟨#[66]⟩:ByteArray).size + (z0d.g a).size) 4611686018427387904) (
       kr (z0a.g b (f,h) (c,(d,e)) (w64 (a - 2)) (w64 (a - 1)) 2 1).2.2.2 ((⟨#[66]⟩:ByteArray) ++ (z0d.g a)) c d b (z0a.g b (f,h) (c,(d,e)) (w64 (a - 2)) (w64 (a - 1)) 2 1).1.1 (z0a.g b (f,h) (c,(d,e)) (w64 (a - 2)) (w64 (a - 1)) 2 1).1.2) none)) none) none)
  (
   cond (lk N (z0a.P b (f,h) (c,(d,e)) (w64 (a - 2)) (w64 (a - 1)) 1 2)) (
    cond (lk N (z0d.P a)) (
     bo (
      cond (Nat.blt ((⟨#[67]⟩:ByteArray).size + (z0d.g a).size) 4611686018427387904) (
       kr (z0a.g b (f,h) (c,(d,e)) (w64 (a - 2)) (w64 (a - 1)) 1 2).2.2.2 ((⟨#[67]⟩:ByteArray) ++ (z0d.g a)) c d b (z0a.g b (f,h) (c,(d,e)) (w64 (a - 2)) (w64 (a - 1)) 1 2).1.1 (z0a.g b (f,h) (c,(d,e)) (w64 (a - 2)) (w64 (a - 1)) 1 2).1.2) none)) none) none))
def Z19 N a b c d e f g h i j kr:=(Z20 N a b c d e f g h i j (fun a b c d e f g h i j=>Z25 N a b c d e f g h i j kr):Option ρ)
def Z17 N a b h i c d e f g kr:=(Z18 N a b h i c d e f g (fun j a b c d e f g l m=>Z19 N j a b c d e f g l m kr):Option ρ)
def Z27 {ρ:Type} (N:Nat) (h b a:Int) (i:Bool) (c:List Int) (d e f g:Int) (kn:I2 (Bool→List Int→I4 (Option ρ))):Option ρ :=
 kn b a (lk N (decide (a = 6))) c d e f g
def Z29 {ρ:Type} (N:Nat) (a e:Int) (f:Bool) (b:List Int) (c d h i:Int) (kr:LI→ByteArray→I2 (List Int→I2 (Option ρ))):Option ρ :=
 cond (lk N (z07.P a)) (
  z7e (
   cond (lk N (inB a ([ByteArray.empty,(⟨#[65,49]⟩:ByteArray),(⟨#[65,49,32,65,49]⟩:ByteArray),(⟨#[65,49,32,65,49,32,65,49]⟩:ByteArray),(⟨#[65,49,32,65,49,32,65,49,32,65,49]⟩:ByteArray),(⟨#[65,49,32,65,49,32,65,49,32,65,49,32,65,49]⟩:ByteArray)]:List ByteArray).length)) (
    bo (
     kr (z07.g a).2.2 (([ByteArray.empty,(⟨#[65,49]⟩:ByteArray),(⟨#[65,49,32,65,49]⟩:ByteArray),(⟨#[65,49,32,65,49,32,65,49]⟩:ByteArray),(⟨#[65,49,32,65,49,32,65,49,32,65,49]⟩:ByteArray),(⟨#[65,49,32,65,49,32,65,49,32,65,49,32,65,49]⟩:ByteArray)]:List ByteArray).getD a.toNat ByteArray.empty) (z07.g a).1 (z07.g a).2.1 b c d)) none)
  (
   cond (lk N (inB a ([ByteArray.empty,(⟨#[65,49]⟩:ByteArray),(⟨#[65,49,32,65,49]⟩:ByteArray),(⟨#[65,49,32,65,49,32,65,49]⟩:ByteArray),(⟨#[65,49,32,65,49,32,65,49,32,65,49]⟩:ByteArray),(⟨#[65,49,32,65,49,32,65,49,32,65,49,32,65,49]⟩:ByteArray)]:List ByteArray).length)) (
    kr (z07.g a).2.2 (([ByteArray.empty,(⟨#[65,49]⟩:ByteArray),(⟨#[65,49,32,65,49]⟩:ByteArray),(⟨#[65,49,32,65,49,32,65,49]⟩:ByteArray),(⟨#[65,49,32,65,49,32,65,49,32,65,49]⟩:ByteArray),(⟨#[65,49,32,65,49,32,65,49,32,65,49,32,65,49]⟩:ByteArray)]:List ByteArray).getD a.toNat ByteArray.empty) (z07.g a).1 (z07.g a).2.1 b c d) none)) none
def Z31 {ρ:Type} (N:Nat) (b a:Int) (h:Bool) (c:List Int) (d e f g:Int) (kn:I2 (Bool→List Int→I4 (Option ρ))):Option ρ :=
 kn b a (lk N (decide (a = 7))) c d e f g
def Z33 {ρ:Type} (N:Nat) (d e:Int) (f:Bool) (a:List Int) (b c h i:Int) (kr:LI→ByteArray→I2 (List Int→I2 (Option ρ))):Option ρ :=
 cond (lk N (z07.P 2)) (
  cond (lk N (z0a.P a (b,c) (z07.g 2) 0 1 3 1)) (
   kr (z0a.g a (b,c) (z07.g 2) 0 1 3 1).2.2.2 (⟨#[71,50]⟩:ByteArray) (z07.g 2).1 (z07.g 2).2.1 a (z0a.g a (b,c) (z07.g 2) 0 1 3 1).1.1 (z0a.g a (b,c) (z07.g 2) 0 1 3 1).1.2) none) none
def Z35 {ρ:Type} (N:Nat) (b a:Int) (h:Bool) (c:List Int) (d e f g:Int) (kn:I2 (Bool→List Int→I4 (Option ρ))):Option ρ :=
 kn b a (lk N (decide (a = 8))) c d e f g
def Z38 {ρ:Type} (N:Nat) (f h:Int) (i:Bool) (a:List Int) (b c d e:Int) (kn:LI→List Int→I6 (Option ρ)):Option ρ :=
 cond (lk N (z07.P 4)) (
  kn (z07.g 4).2.2 a b c d e (z07.g 4).1 (z07.g 4).2.1) none
def Z41 {ρ:Type} (N:Nat) (a:LI) (b:List Int) (c d e f g h:Int) (kn:LI→Int→List Int→I6 (Option ρ)):Option ρ :=
 kn a 1 b c d e f g h
def Z44 {ρ:Type} (N:Nat) (e:LI) (a:Int) (b:List Int) (f h i j c d:Int) (kn:LI→Int→List Int→I6 (Option ρ)) (k3:LI→I4 (List Int→I2 (Option ρ))):Option ρ :=
 cond (lk N (decide (a < 4)))
 (
  cond (lk N (z0a.P b (f,h) (c,(d,e)) 0 a 1 1)) (
   kn (z0a.g b (f,h) (c,(d,e)) 0 a 1 1).2.2.2 (w64 (a + 1)) b (z0a.g b (f,h) (c,(d,e)) 0 a 1 1).1.1 (z0a.g b (f,h) (c,(d,e)) 0 a 1 1).1.2 i j c d) none)
 (
  k3 e i j c d b f h)
def Z43L {ρ:Type} (N:Nat) (k3:LI→I4 (List Int→I2 (Option ρ))):Nat→LI→Int→List Int→Int→Int→Int→Int→Int→Int→Option ρ
 | 0,_,_,_,_,_,_,_,_,_=>none
 | M + 1,a,b,c,d,e,f,g,h,i=>Z44 N a b c d e f g h i (fun a b c d e f g h i=>Z43L N k3 M a b c d e f g h i) k3
def Z43 N a b c d e f g h i k3:=(Z43L N k3 N a b c d e f g h i:Option ρ)
def Z42 N a b c d e f g h i kn:=(Z43 N a b c d e f g h i kn:Option ρ)
def Z40 N a b c d e f g h kn:=(Z41 N a b c d e f g h (fun a i b c d e f g h=>Z42 N a i b c d e f g h kn):Option ρ)
def Z45 {ρ:Type} (N:Nat) (a:LI) (g h b c:Int) (d:List Int) (e f:Int) (kr:LI→ByteArray→I2 (List Int→I2 (Option ρ))):Option ρ :=
 kr a (⟨#[68,52]⟩:ByteArray) b c d e f
def Z39 N a b c d e f g h kr:=(Z40 N a b c d e f g h (fun a e f g h b c d=>Z45 N a e f g h b c d kr):Option ρ)
def Z37 N f g h a b c d e kr:=(Z38 N f g h a b c d e (fun i a b c d e j l=>Z39 N i a b c d e j l kr):Option ρ)
def Z46 {ρ:Type} (N:Nat) (e d:Int) (i:Bool) (a:List Int) (b c f h:Int) (kn:Int→List Int→I4 (Option ρ)) (kr:LI→ByteArray→I2 (List Int→I2 (Option ρ))):Option ρ :=
 let x2_:=(z0a.g a (b,c) (z07.g 4) 0 1 1 1)
 let x3_:=(z0a.g a (b,c) (z07.g 3) 0 1 1 1)
 let x0_:=(z0a.g a x2_.1 ((z07.g 4).1,((z07.g 4).2.1,x2_.2.2.2)) 1 2 2 1)
 let x1_:=(z0a.g a x0_.1 ((z07.g 4).1,((z07.g 4).2.1,x0_.2.2.2)) 2 3 1 1)
 cond (lk N (decide (d = 9)))
 (
 cond (lk N (z07.P 4)) (
 cond (lk N (z0a.P a (b,c) (z07.g 4) 0 1 1 1)) (
 cond (lk N (z0a.P a x2_.1 ((z07.g 4).1,((z07.g 4).2.1,x2_.2.2.2)) 1 2 2 1)) (
 cond (lk N (z0a.P a x0_.1 ((z07.g 4).1,((z07.g 4).2.1,x0_.2.2.2)) 2 3 1 1)) (
 kr x1_.2.2.2 (⟨#[70,52]⟩:ByteArray) (z07.g 4).1 (z07.g 4).2.1 a x1_.1.1 x1_.1.2) none) none) none) none)
 (
 cond (lk N (decide (d = 10)))
 (
 cond (lk N (z07.P 3)) (
 cond (lk N (z0a.P a (b,c) (z07.g 3) 0 1 1 1)) (
 kr x3_.2.2.2 (⟨#[65,49,32,65,50]⟩:ByteArray) (z07.g 3).1 (z07.g 3).2.1 a x3_.1.1 x3_.1.2) none) none)
 (
 kn e a b c f h))
def Z36 N b c a d e f g h kn kr:=(cond (a) (Z37 N b c a d e f g h kr) (Z46 N b c a d e f g h kn kr):Option ρ)
def Z34 N a b h c d e f g kn kr:=(Z35 N a b h c d e f g (fun a b i c d e f g=>Z36 N a b i c d e f g kn kr):Option ρ)
def Z32 N b c a d e f g h kn kr:=(cond (a) (Z33 N b c a d e f g h kr) (Z34 N b c a d e f g h kn kr):Option ρ)
def Z30 N a b h c d e f g kn kr:=(Z31 N a b h c d e f g (fun a b i c d e f g=>Z32 N a b i c d e f g kn kr):Option ρ)
def Z28 N b c a d e f g h kn kr:=(cond (a) (Z29 N b c a d e f g h kr) (Z30 N b c a d e f g h kn kr):Option ρ)
def Z26 N h a b i c d e f g kn kr:=(Z27 N h a b i c d e f g (fun a b j c d e f g=>Z28 N a b j c d e f g kn kr):Option ρ)
def Z16 N b c d a e f g h i kn kr:=(cond (a) (Z17 N b c d a e f g h i kr) (Z26 N b c d a e f g h i kn kr):Option ρ)
def Z14 N a b c d e f g h kn kr:=(Z15 N a b c d e f g h (fun a b c i d e f g h=>Z16 N a b c i d e f g h kn kr):Option ρ)
def Z13 N a b c d e f g h kn kr:=(Z14 N a b c d e f g h kn kr:Option ρ)
def Z11 N a b c d e f g kn kr:=(Z12 N a b c d e f g (fun a b h c d e f g=>Z13 N a b h c d e f g kn kr):Option ρ)
def Z48 {ρ:Type} (N:Nat) (a:Int) (b:List Int) (c d e f:Int) (kn:LI→Int→List Int→I6 (Option ρ)):Option ρ :=
 cond (lk N (z07.P a)) (
  kn (z07.g a).2.2 a b c d e f (z07.g a).1 (z07.g a).2.1) none
def Z51 {ρ:Type} (N:Nat) (a:LI) (b:Int) (c:List Int) (d e f g h i:Int) (kn:LI→I2 (List Int→I6 (Option ρ))):Option ρ :=
 kn a b 0 c d e f g h i
def Z54 {ρ:Type} (N:Nat) (e:LI) (i a:Int) (b:List Int) (f h j l c d:Int) (kn:LI→I2 (List Int→I6 (Option ρ))) (k5:LI→I5 (List Int→I2 (Option ρ))):Option ρ :=
 cond (lk N (decide ((w64 (a + 1)) < i)))
 (
  cond (lk N (z0a.P b (f,h) (c,(d,e)) a (w64 (a + 1)) 1 1)) (
   kn (z0a.g b (f,h) (c,(d,e)) a (w64 (a + 1)) 1 1).2.2.2 i (w64 (a + 1)) b (z0a.g b (f,h) (c,(d,e)) a (w64 (a + 1)) 1 1).1.1 (z0a.g b (f,h) (c,(d,e)) a (w64 (a + 1)) 1 1).1.2 j l c d) none)
 (
  k5 e i j l c d b f h)
def Z53L {ρ:Type} (N:Nat) (k5:LI→I5 (List Int→I2 (Option ρ))):Nat→LI→Int→Int→List Int→Int→Int→Int→Int→Int→Int→Option ρ
 | 0,_,_,_,_,_,_,_,_,_,_=>none
 | M + 1,a,b,c,d,e,f,g,h,i,j=>Z54 N a b c d e f g h i j (fun a b c d e f g h i j=>Z53L N k5 M a b c d e f g h i j) k5
def Z53 N a b c d e f g h i j k5:=(Z53L N k5 N a b c d e f g h i j:Option ρ)
def Z52 N a b c d e f g h i j kn:=(Z53 N a b c d e f g h i j kn:Option ρ)
def Z50 N a b c d e f g h i kn:=(Z51 N a b c d e f g h i (fun a b j c d e f g h i=>Z52 N a b j c d e f g h i kn):Option ρ)
def Z55 {ρ:Type} (N:Nat) (b:LI) (a i j c d:Int) (e:List Int) (f h:Int) (kr:LI→ByteArray→I2 (List Int→I2 (Option ρ))):Option ρ :=
 cond (lk N (z0d.P a)) (
  bo (
   cond (Nat.blt ((⟨#[65]⟩:ByteArray).size + (z0d.g a).size) 4611686018427387904) (
    kr b ((⟨#[65]⟩:ByteArray) ++ (z0d.g a)) c d e f h) none)) none
def Z49 N a b c d e f g h i kr:=(Z50 N a b c d e f g h i (fun a b f g h i c d e=>Z55 N a b f g h i c d e kr):Option ρ)
def Z47 N a b c d e f kr:=(Z48 N a b c d e f (fun g a b c d e f h i=>Z49 N g a b c d e f h i kr):Option ρ)
def Z10 N g a b c d e f kr:=(Z11 N g a b c d e f (fun a b c d e f=>Z47 N a b c d e f kr) kr:Option ρ)
def Z8 N h a b c d e f g kr:=(Z9 N h a b c d e f g (fun a b c d e f g=>Z10 N a b c d e f g kr):Option ρ)
def Z6 N a b c d e f g h kr:=(Z7 N a b c d e f g h (fun a b c d e f g h=>Z8 N a b c d e f g h kr):Option ρ)
def Z4 N a b c d e f g kr:=(Z5 N a b c d e f g (fun a b h c d e f g=>Z6 N a b h c d e f g kr):Option ρ)
def Z2 N a b c d e f kr:=(Z3 N a b c d e f (fun a g b c d e f=>Z4 N a g b c d e f kr):Option ρ)
def Z0 N b0 r0 a kr:=(Z1 N b0 r0 a (fun a b c d e f=>Z2 N a b c d e f kr):Option ρ)
def Spec:Prop:=∀ {U:Type} (u:U) (b0:List Int) (r0:Int × Int) (v1:Int),Ty.bd (.sl 0 (.int .u8)) b0→P b0 r0 v1 = true→∃ N0,∀ N,N0≤N→Z0 N b0 r0 v1 (fun v4_2 v5 v4_0 v4_1 w0_0 w0_1 w0_2=>some (u,((w0_1,w0_2),((),((v4_0,(v4_1,v4_2)),(v5,())))))) = some (u,((g b0 r0 v1).1,((),((g b0 r0 v1).2.1,((g b0 r0 v1).2.2,())))))
structure J (b:List Int) (n:Int) (s:S):Prop where
 cur:z2l b s.1 = true
 dim:z40 s.2 = true
 hn:s.2.1 = n
 hr:s.2.2.1 = n
theorem J.join {b:List Int} {n:Int} {s:S} (h:J b n s) (i j x y:Int):J b n (z0a.g b s.1 s.2 i j x y) :=
 ⟨z0a.keep h.cur,z0a.dim_join h.dim,h.hn,h.hr⟩
theorem dim_zero {n:Int} (h1:1≤n) (h5:n≤5):z40 (z07.g n) = true:=by
 have:n = 1∨n = 2∨n = 3∨n = 4∨n = 5:=by omega
 rcases this with rfl | rfl | rfl | rfl | rfl <;> rfl
theorem J.zero {b:List Int} {r:Int × Int} {n:Int} (h:z2l b r = true) (h1:1≤n) (h5:n≤5):J b n (r,z07.g n):=⟨h,dim_zero h1 h5,rfl,rfl⟩
theorem J.P {b:List Int} {n:Int} {s:S} (h:J b n s) {i j x y:Int} (hi:0≤i∧i < n) (hj:0≤j∧j < n) (ha:0≤x∧x≤1000) (hc:0≤y∧y≤1000):z0a.P b s.1 s.2 i j x y = true:=by
 have:=h.hn
 simp only [z0a.P,Bool.and_eq_true,z3d]
 exact ⟨h.cur,h.dim,by omega,by omega,by omega,by omega⟩
theorem J.chain {b:List Int} {n:Int}:∀ (l:List Nat) {s:S},J b n s→J b n (l.foldl (chainS b) s)
 | [],_,h=>h
 | i :: l,s,h=>J.chain l (s:=chainS b s i) (h.join _ _ _ _)
theorem J.star {b:List Int} {n:Int}:∀ (l:List Nat) {s:S},J b n s→J b n (l.foldl (starS b) s)
 | [],_,h=>h
 | i :: l,s,h=>J.star l (s:=starS b s i) (h.join _ _ _ _)
theorem loopB {ρ:Type} {N:Nat} {b:List Int} (kk:List Int→Int→Int→List Int→Int→Int→Int→Int→Int→Int→Option ρ) (t0 t1 kd:Int) {c:Nat} (hc:c≤4):∀ (M i:Nat) (s:S),i≤c→J b ((c:Int) + 2) s→c - i < M →
  Z23L N kk M s.2.2.2 kd ((c:Int) + 2) (i:Int) b s.1.1 s.1.2 t0 t1 s.2.1 s.2.2.1 = kk (((List.range c).drop i).foldl (chainS b) s).2.2.2 kd ((c:Int) + 2) b (((List.range c).drop i).foldl (chainS b) s).1.1 (((List.range c).drop i).foldl (chainS b) s).1.2 t0 t1 s.2.1 s.2.2.1:=by
 intro M
 induction M with
 | zero=>intro i s _ _ h; omega
 | succ M ih =>
  intro i s hi hs hM
  simp only [Z23L,Z24]
  have w2:w64 ((i:Int) + 2) = (i:Int) + 2:=z1g (by omega) (by omega)
  have w1:w64 ((i:Int) + 1) = (i:Int) + 1:=z1g (by omega) (by omega)
  rw [w2]
  by_cases h:i < c
  ·have hP:=hs.P (i:=(i:Int)) (j:=(i:Int) + 1) (x:=1) (y:=1) (by omega) (by omega) (by omega) (by omega)
   have es:((s.1.1,s.1.2):Int × Int) = s.1:=rfl
   have em:((s.2.1,(s.2.2.1,s.2.2.2)):Int × Int × List Int) = s.2:=rfl
   rw [ct (dt (by omega)),es,em,w1,ct hP,z3q h,List.foldl_cons]
   exact ih (i + 1) (chainS b s i) h (hs.join _ _ _ _) (by omega)
  ·rw [cf (df (by omega)),List.drop_of_length_le (by rw [List.length_range]; omega)]
   rfl
theorem loopA {ρ:Type} {N:Nat} {b:List Int} (kk:List Int→Int→Int→Int→Int→Int→List Int→Int→Int→Option ρ) (t0 t1:Int) {c:Nat} (hc:c≤4):∀ (M i:Nat) (s:S),i≤c→J b ((c:Int) + 1) s→c - i < M →
  Z53L N kk M s.2.2.2 ((c:Int) + 1) (i:Int) b s.1.1 s.1.2 t0 t1 s.2.1 s.2.2.1 = kk (((List.range c).drop i).foldl (chainS b) s).2.2.2 ((c:Int) + 1) t0 t1 s.2.1 s.2.2.1 b (((List.range c).drop i).foldl (chainS b) s).1.1 (((List.range c).drop i).foldl (chainS b) s).1.2:=by
 intro M
 induction M with
 | zero=>intro i s _ _ h; omega
 | succ M ih =>
  intro i s hi hs hM
  simp only [Z53L,Z54]
  have w1:w64 ((i:Int) + 1) = (i:Int) + 1:=z1g (by omega) (by omega)
  rw [w1]
  by_cases h:i < c
  ·have hP:=hs.P (i:=(i:Int)) (j:=(i:Int) + 1) (x:=1) (y:=1) (by omega) (by omega) (by omega) (by omega)
   have es:((s.1.1,s.1.2):Int × Int) = s.1:=rfl
   have em:((s.2.1,(s.2.2.1,s.2.2.2)):Int × Int × List Int) = s.2:=rfl
   rw [ct (dt (by omega)),es,em,ct hP,z3q h,List.foldl_cons]
   exact ih (i + 1) (chainS b s i) h (hs.join _ _ _ _) (by omega)
  ·rw [cf (df (by omega)),List.drop_of_length_le (by rw [List.length_range]; omega)]
   rfl
theorem loopD {ρ:Type} {N:Nat} {b:List Int} (kk:List Int→Int→Int→Int→Int→List Int→Int→Int→Option ρ) (t0 t1:Int):∀ (M i:Nat) (s:S),i≤4→J b 4 s→4 - i < M →
  Z43L N kk M s.2.2.2 (i:Int) b s.1.1 s.1.2 t0 t1 s.2.1 s.2.2.1 = kk (((List.range 4).drop i).foldl (starS b) s).2.2.2 t0 t1 s.2.1 s.2.2.1 b (((List.range 4).drop i).foldl (starS b) s).1.1 (((List.range 4).drop i).foldl (starS b) s).1.2:=by
 intro M
 induction M with
 | zero=>intro i s _ _ h; omega
 | succ M ih =>
  intro i s hi hs hM
  simp only [Z43L,Z44]
  have w1:w64 ((i:Int) + 1) = ((i + 1:Nat):Int):=z1c (by rw [z0z]; omega)
  by_cases h:i < 4
  ·have hP:=hs.P (i:=0) (j:=(i:Int)) (x:=1) (y:=1) (by omega) (by omega) (by omega) (by omega)
   have es:((s.1.1,s.1.2):Int × Int) = s.1:=rfl
   have em:((s.2.1,(s.2.2.1,s.2.2.2)):Int × Int × List Int) = s.2:=rfl
   rw [ct (dt (by omega)),es,em,w1,ct hP,z3q h,List.foldl_cons]
   exact ih (i + 1) (starS b s i) h (hs.join _ _ _ _) (by omega)
  ·rw [cf (df (by omega)),List.drop_of_length_le (by rw [List.length_range]; omega)]
   rfl
theorem tree_J {b:List Int} {r:Int × Int} (h:z2l b r = true) (k:Int) {n:Nat} (h1:1≤n) (h4:n≤4):∃ q:Int,1≤q∧q≤4∧J b q (tree b r k n).1:=by
 have z:J b (n:Int) (r,z07.g (n:Int)):=J.zero h (by omega) (by omega)
 have c:∀ c,J b (n:Int) (chainG b r n c):=fun c=>J.chain (List.range c) z
 unfold tree
 split
 ·exact ⟨n,by omega,by omega,(c _).join _ _ _ _⟩
 split
 ·split
  ·exact ⟨n,by omega,by omega,(c _).join _ _ _ _⟩
  ·exact ⟨n,by omega,by omega,(c _).join _ _ _ _⟩
 split
 ·exact ⟨n,by omega,by omega,z⟩
 split
 ·exact ⟨2,by omega,by omega,(J.zero h (by omega) (by omega)).join _ _ _ _⟩
 split
 ·exact ⟨4,by omega,by omega,J.star _ (J.zero h (by omega) (by omega))⟩
 split
 ·exact ⟨4,by omega,by omega,(((J.zero h (by omega) (by omega):J b 4 (r,z07.g 4)).join 0 1 1 1).join 1 2 2 1).join 2 3 1 1⟩
 split
 ·exact ⟨3,by omega,by omega,(J.zero h (by omega) (by omega)).join _ _ _ _⟩
 ·exact ⟨n,by omega,by omega,c _⟩
theorem facts {b:List Int} {r:Int × Int} {most:Int} (h:z2l b r = true) (h1:1≤most) (h4:most≤4):∃ q:Int,1≤q∧q≤4∧J b q ((g b r most).1,(g b r most).2.1):=by
 have k0:=z01.keep (n:=11) h
 have k1:=z01.keep (n:=most) k0
 have rn:=z01.range (b:=b) (r:=(z01.g b r 11).1) (n:=most) h1 (by omega)
 obtain ⟨q,h1,h2,h3⟩:=tree_J k1 (Fw.spec_dTree.k2 (Fw.spec_dTree.k1 (z01.g b r 11).2 (1 + (z01.g b (z01.g b r 11).1 most).2) most) most) (n:=(1 + (z01.g b (z01.g b r 11).1 most).2).toNat) (by omega) (by omega)
 exact ⟨q,h1,h2,h3⟩
theorem z7 {ρ:Type} {N:Nat} (most k n:Int) (b:List Int) (r1 r2 t0 t1:Int) (kn:Int→Int→Int→List Int→Int→Int→Int→Int→Option ρ):Z7 N most k n b r1 r2 t0 t1 kn = kn most (k1 k n most) n b r1 r2 t0 t1:=by
 simp only [Z7,z1x,k1]
 cases decide (4≤k) <;> cases decide (k≤6) <;> cases decide (n < 2) <;> cases decide (k = 7) <;> cases decide (most < 2) <;> rfl
theorem z9 {ρ:Type} {N:Nat} (most k n:Int) (b:List Int) (r1 r2 t0 t1:Int) (kn:Int→Int→List Int→Int→Int→Int→Int→Option ρ):Z9 N most k n b r1 r2 t0 t1 kn = kn (k2 k most) n b r1 r2 t0 t1:=by
 simp only [Z9,z1x,k2]
 cases decide (k = 8) <;> cases decide (most < 4) <;> cases decide (k = 9) <;> cases decide (k = 10) <;> cases decide (most < 3) <;> rfl
theorem zlb {c:UInt8} {n:Nat} (h:n≤4):Nat.blt ((⟨#[c]⟩:ByteArray).size + (z0d.g (n:Int)).size) 4611686018427387904 = true:=by
 have e:(z0d.g (n:Int)).size = (Lib.itoa (n:Int)).length:=by
  show (txt (Lib.itoa (n:Int))).size = _
  exact txt_size _
 have h2:=Lib.itoa_length_le (n:Int) (by omega) (by omega)
 refine Nat.ble_eq_true_of_le ?_
 rw [e]
 show 1 + _ + 1≤_
 omega
theorem fmtP {n:Nat} (h:n≤4):z0d.P (n:Int) = true:=by
 show i64P (n:Int) = true
 simp only [i64P,Bool.and_eq_true,decide_eq_true_eq]
 omega
theorem dzP {n:Nat} (h:n≤4):z07.P (n:Int) = true:=by
 simp only [z07.P,inK,Bool.and_eq_true,decide_eq_true_eq]
 omega
theorem main {ρ:Type} {N:Nat} (hN:20≤N) {b:List Int} {r:Int × Int} (h:z2l b r = true) (kd:Int) {n:Nat} (h1:1≤n) (h4:n≤4) (hk:kd = 4∨kd = 5→2≤n) (t0 t1:Int) (kr:List Int→ByteArray→Int→Int→List Int→Int→Int→Option ρ) :
  Z10 N kd (n:Int) b r.1 r.2 t0 t1 kr = kr (tree b r kd n).1.2.2.2 (tree b r kd n).2 (tree b r kd n).1.2.1 (tree b r kd n).1.2.2.1 b (tree b r kd n).1.1.1 (tree b r kd n).1.1.2:=by
 have fm:z0d.P (n:Int) = true:=fmtP h4
 have fg:z0d.g (n:Int) = zb4 n:=rfl
 have zP:=dzP h4
 have zJ:J b (n:Int) (r,z07.g (n:Int)):=J.zero h (by omega) (by omega)
 have w2:w64 ((n:Int) - 2) = (n:Int) - 2:=z1g (by omega) (by omega)
 have w1:w64 ((n:Int) - 1) = (n:Int) - 1:=z1g (by omega) (by omega)
 have er:((r.1,r.2):Int × Int) = r:=rfl
 have big:∀ {σ:Type} (hn:2≤n) (kn:List Int→Int→Int→List Int→Int→Int→Int→Int→Int→Int→Option σ),Z20 N (z07.g (n:Int)).2.2 kd (n:Int) b r.1 r.2 t0 t1 (z07.g (n:Int)).1 (z07.g (n:Int)).2.1 kn =
   kn (chainG b r n (n - 2)).2.2.2 kd (n:Int) b (chainG b r n (n - 2)).1.1 (chainG b r n (n - 2)).1.2 t0 t1 (n:Int) (n:Int):=by
  intro σ hn kn
  obtain ⟨c,rfl⟩:∃ c,n = c + 2:=⟨n - 2,by omega⟩
  simp only [Z20,Z21,Z22,Z23]
  have e:((c + 2:Nat):Int) = (c:Int) + 2:=by omega
  rw [e] at zJ ⊢
  refine (loopB kn t0 t1 kd (by omega) N 0 (r,z07.g ((c:Int) + 2)) (Nat.zero_le _) zJ (by omega)).trans ?_
  rw [List.drop_zero]
  unfold chainG
  rw [e]
  rfl
 by_cases c4:kd = 4
 ·have hn:=hk (.inl c4)
  have jc:J b (n:Int) (chainG b r n (n - 2)):=J.chain _ zJ
  have pj:=jc.P (i:=(n:Int) - 2) (j:=(n:Int) - 1) (x:=2) (y:=1) (by omega) (by omega) (by omega) (by omega)
  have em:(((n:Int),((n:Int),(chainG b r n (n - 2)).2.2.2)):Int × Int × List Int) = (chainG b r n (n - 2)).2:=by
   rw [show (chainG b r n (n - 2)).2 = ((chainG b r n (n - 2)).2.1,(chainG b r n (n - 2)).2.2.1,(chainG b r n (n - 2)).2.2.2) from rfl,jc.hn,jc.hr]
  have es:(((chainG b r n (n - 2)).1.1,(chainG b r n (n - 2)).1.2):Int × Int) = (chainG b r n (n - 2)).1:=rfl
  have et:tree b r kd n = (endB b (chainG b r n (n - 2)) n 2 1,⟨#[66]⟩ ++ zb4 n):=if_pos c4
  have e1:(endB b (chainG b r n (n - 2)) n 2 1).2.1 = (n:Int):=jc.hn
  have e2:(endB b (chainG b r n (n - 2)) n 2 1).2.2.1 = (n:Int):=jc.hr
  have sz:=zlb (c:=66) h4
  rw [fg] at sz
  simp only [Z10,Z11,Z12,Z13,Z14,Z15,Z16,Z17,Z18,Z19,z1x,dt c4,zP,cond_true]
  rw [big hn]
  simp only [Z25,z1x,dt c4,w1,w2,em,es,pj,fm,fg,sz,cond_true,z3h,et,e1,e2]
  rfl
 by_cases c5:kd = 5
 ·have hn:=hk (.inr c5)
  have jc:J b (n:Int) (chainG b r n (n - 2)):=J.chain _ zJ
  have pj:=jc.P (i:=(n:Int) - 2) (j:=(n:Int) - 1) (x:=2) (y:=1) (by omega) (by omega) (by omega) (by omega)
  have pj':=jc.P (i:=(n:Int) - 2) (j:=(n:Int) - 1) (x:=1) (y:=2) (by omega) (by omega) (by omega) (by omega)
  have em:(((n:Int),((n:Int),(chainG b r n (n - 2)).2.2.2)):Int × Int × List Int) = (chainG b r n (n - 2)).2:=by
   rw [show (chainG b r n (n - 2)).2 = ((chainG b r n (n - 2)).2.1,(chainG b r n (n - 2)).2.2.1,(chainG b r n (n - 2)).2.2.2) from rfl,jc.hn,jc.hr]
  have es:(((chainG b r n (n - 2)).1.1,(chainG b r n (n - 2)).1.2):Int × Int) = (chainG b r n (n - 2)).1:=rfl
  have e1:∀ x y,(endB b (chainG b r n (n - 2)) n x y).2.1 = (n:Int):=fun _ _=>jc.hn
  have e2:∀ x y,(endB b (chainG b r n (n - 2)) n x y).2.2.1 = (n:Int):=fun _ _=>jc.hr
  have sz:=zlb (c:=66) h4
  have sz':=zlb (c:=67) h4
  rw [fg] at sz sz'
  simp only [Z10,Z11,Z12,Z13,Z14,Z15,Z16,Z17,Z18,Z19,z1x,df c4,dt c5,zP,cond_true,cond_false]
  rw [big hn]
  by_cases c2:n = 2
  ·have et:tree b r kd n = (endB b (chainG b r n (n - 2)) n 2 1,⟨#[66]⟩ ++ zb4 n):=(if_neg c4).trans ((if_pos c5).trans (if_pos c2))
   have c2':(n:Int) = 2:=by omega
   simp only [Z25,z1x,df c4,dt c2',w1,w2,em,es,pj,fm,fg,sz,cond_true,cond_false,z3h,et,e1,e2]
   rfl
  ·have et:tree b r kd n = (endB b (chainG b r n (n - 2)) n 1 2,⟨#[67]⟩ ++ zb4 n):=(if_neg c4).trans ((if_pos c5).trans (if_neg c2))
   have c2':¬ (n:Int) = 2:=by omega
   simp only [Z25,z1x,df c4,df c2',w1,w2,em,es,pj',fm,fg,sz',cond_true,cond_false,z3h,et,e1,e2]
   rfl
 simp only [Z10,Z11,Z12,Z13,Z14,Z15,Z16,Z26,Z27,Z28,z1x,df c4,df c5,cond_false]
 by_cases c6:kd = 6
 ·have et:tree b r kd n = ((r,z07.g (n:Int)),ones.getD n ByteArray.empty):=(if_neg c4).trans ((if_neg c5).trans (if_pos c6))
  have ib:inB (n:Int) ones.length = true:=z1b (by show n < 6; omega)
  simp only [ones] at ib
  simp only [Z29,z1x,dt c6,zP,ib,cond_true,z3h,et,Int.toNat_natCast]
  rfl
 simp only [df c6,cond_false,Z30,Z31,Z32,z1x]
 by_cases c7:kd = 7
 ·have et:tree b r kd n = (z0a.g b r (z07.g 2) 0 1 3 1,⟨#[71,50]⟩):=(if_neg c4).trans ((if_neg c5).trans ((if_neg c6).trans (if_pos c7)))
  have z2:J b 2 (r,z07.g 2):=J.zero h (by omega) (by omega)
  have pj:=z2.P (i:=0) (j:=1) (x:=3) (y:=1) (by omega) (by omega) (by omega) (by omega)
  have pz:z07.P 2 = true:=rfl
  simp only [Z33,z1x,dt c7,pz,er,pj,cond_true,et]
  rfl
 simp only [df c7,cond_false,Z34,Z35,Z36,z1x]
 have z4:J b 4 (r,z07.g 4):=J.zero h (by omega) (by omega)
 have pz4:z07.P 4 = true:=rfl
 by_cases c8:kd = 8
 ·have et:tree b r kd n = (starG b r,⟨#[68,52]⟩):=(if_neg c4).trans ((if_neg c5).trans ((if_neg c6).trans ((if_neg c7).trans (if_pos c8))))
  have js:J b 4 (starG b r):=J.star _ z4
  simp only [Z37,Z38,Z39,Z40,Z41,Z42,Z43,z1x,dt c8,pz4,cond_true,et]
  refine (loopD _ t0 t1 N 1 (r,z07.g 4) (by omega) z4 (by omega)).trans ?_
  simp only [Z45]
  rw [js.hn,js.hr]
  rfl
 simp only [df c8,cond_false,Z46,z1x]
 by_cases c9:kd = 9
 ·have et:tree b r kd n = (f3 b r,⟨#[70,52]⟩):=(if_neg c4).trans ((if_neg c5).trans ((if_neg c6).trans ((if_neg c7).trans ((if_neg c8).trans (if_pos c9)))))
  have ja:J b 4 (f1 b r):=z4.join _ _ _ _
  have jb:J b 4 (f2 b r):=ja.join _ _ _ _
  have p1:=z4.P (i:=0) (j:=1) (x:=1) (y:=1) (by omega) (by omega) (by omega) (by omega)
  have p2:=ja.P (i:=1) (j:=2) (x:=2) (y:=1) (by omega) (by omega) (by omega) (by omega)
  have p3:=jb.P (i:=2) (j:=3) (x:=1) (y:=1) (by omega) (by omega) (by omega) (by omega)
  have g1:z0a.g b r (z07.g 4) 0 1 1 1 = f1 b r:=rfl
  have g2:z0a.g b (f1 b r).1 (f1 b r).2 1 2 2 1 = f2 b r:=rfl
  have g3:z0a.g b (f2 b r).1 (f2 b r).2 2 3 1 1 = f3 b r:=rfl
  have s1:(((z07.g 4).1,((z07.g 4).2.1,(f1 b r).2.2.2)):Int × Int × List Int) = (f1 b r).2:=rfl
  have s2:(((z07.g 4).1,((z07.g 4).2.1,(f2 b r).2.2.2)):Int × Int × List Int) = (f2 b r).2:=rfl
  simp only [z1x,dt c9,pz4,er,p1,g1,s1,p2,g2,s2,p3,g3,cond_true,et]
  rfl
 simp only [df c9,cond_false]
 by_cases c10:kd = 10
 ·have et:tree b r kd n = (z0a.g b r (z07.g 3) 0 1 1 1,⟨#[65,49,32,65,50]⟩):=(if_neg c4).trans ((if_neg c5).trans ((if_neg c6).trans ((if_neg c7).trans ((if_neg c8).trans ((if_neg c9).trans (if_pos c10))))))
  have z3:J b 3 (r,z07.g 3):=J.zero h (by omega) (by omega)
  have pj:=z3.P (i:=0) (j:=1) (x:=1) (y:=1) (by omega) (by omega) (by omega) (by omega)
  have pz:z07.P 3 = true:=rfl
  simp only [z1x,dt c10,pz,er,pj,cond_true,et]
  rfl
 have et:tree b r kd n = (chainG b r n (n - 1),⟨#[65]⟩ ++ zb4 n):=(if_neg c4).trans ((if_neg c5).trans ((if_neg c6).trans ((if_neg c7).trans ((if_neg c8).trans ((if_neg c9).trans (if_neg c10))))))
 have jc:J b (n:Int) (chainG b r n (n - 1)):=J.chain _ zJ
 have sz:=zlb (c:=65) h4
 rw [fg] at sz
 simp only [df c10,cond_false,Z47,Z48,Z49,z1x,zP,cond_true,et]
 obtain ⟨c,rfl⟩:∃ c,n = c + 1:=⟨n - 1,by omega⟩
 simp only [Z50,Z51,Z52,Z53]
 have e:((c + 1:Nat):Int) = (c:Int) + 1:=by omega
 have hc:∀ {σ:Type} (kn:List Int→Int→Int→Int→Int→Int→List Int→Int→Int→Option σ),Z53L N kn N (z07.g ((c + 1:Nat):Int)).2.2 ((c + 1:Nat):Int) 0 b r.1 r.2 t0 t1 (z07.g ((c + 1:Nat):Int)).1 (z07.g ((c + 1:Nat):Int)).2.1 =
   kn (chainG b r (c + 1) c).2.2.2 ((c + 1:Nat):Int) t0 t1 ((c + 1:Nat):Int) ((c + 1:Nat):Int) b (chainG b r (c + 1) c).1.1 (chainG b r (c + 1) c).1.2:=by
  intro σ kn
  rw [e] at zJ ⊢
  refine (loopA kn t0 t1 (by omega) N 0 (r,z07.g ((c:Int) + 1)) (Nat.zero_le _) zJ (by omega)).trans ?_
  rw [List.drop_zero]
  unfold chainG
  rw [e]
  rfl
 rw [hc]
 have hn1:(chainG b r (c + 1) (c + 1 - 1)).2.1 = ((c + 1:Nat):Int):=jc.hn
 have hr1:(chainG b r (c + 1) (c + 1 - 1)).2.2.1 = ((c + 1:Nat):Int):=jc.hr
 simp only [Z55,z1x,fm,fg,sz,cond_true,z3h,hn1,hr1]
 rfl
theorem ok:Spec:=fun u b r most hb hp=>⟨20,fun N hN=>by
 simp only [P,Bool.and_eq_true,z3d] at hp
 obtain ⟨h,hm1,hm4⟩:=hp
 have h0:=z01.keep (n:=11) h
 have hh:=z01.keep (n:=most) h0
 have p0:z01.P b r 11 = true:=h
 have p1:z01.P b (z01.g b r 11).1 most = true:=h0
 have rk:=z01.range (b:=b) (r:=r) (n:=11) (by omega) (by omega)
 have rn:=z01.range (b:=b) (r:=(z01.g b r 11).1) (n:=most) hm1 (by omega)
 have er:((r.1,r.2):Int × Int) = r:=rfl
 have e1:(((z01.g b r 11).1.1,(z01.g b r 11).1.2):Int × Int) = (z01.g b r 11).1:=rfl
 have w1:w64 (1 + (z01.g b (z01.g b r 11).1 most).2) = 1 + (z01.g b (z01.g b r 11).1 most).2:=z1g (by omega) (by omega)
 simp only [Z0,Z1,Z2,Z3,Z4,Z5,z1x,er,p0,e1,p1,w1,cond_true,Z6,z7,Z8,z9]
 have eg:g b r most = ((tree b (z01.g b (z01.g b r 11).1 most).1 (Fw.spec_dTree.k2 (Fw.spec_dTree.k1 (z01.g b r 11).2 (1 + (z01.g b (z01.g b r 11).1 most).2) most) most) (1 + (z01.g b (z01.g b r 11).1 most).2).toNat).1.1,
   (tree b (z01.g b (z01.g b r 11).1 most).1 (Fw.spec_dTree.k2 (Fw.spec_dTree.k1 (z01.g b r 11).2 (1 + (z01.g b (z01.g b r 11).1 most).2) most) most) (1 + (z01.g b (z01.g b r 11).1 most).2).toNat).1.2,
   (tree b (z01.g b (z01.g b r 11).1 most).1 (Fw.spec_dTree.k2 (Fw.spec_dTree.k1 (z01.g b r 11).2 (1 + (z01.g b (z01.g b r 11).1 most).2) most) most) (1 + (z01.g b (z01.g b r 11).1 most).2).toNat).2):=rfl
 rw [eg]
 generalize (z01.g b (z01.g b r 11).1 most).1 = r2 at hh
 generalize hq:1 + (z01.g b (z01.g b r 11).1 most).2 = q
 obtain ⟨n,rfl⟩:=Int.eq_ofNat_of_zero_le (show 0≤q by omega)
 have hk:Fw.spec_dTree.k2 (Fw.spec_dTree.k1 (z01.g b r 11).2 (n:Int) most) most = 4∨Fw.spec_dTree.k2 (Fw.spec_dTree.k1 (z01.g b r 11).2 (n:Int) most) most = 5→2≤n:=by
  intro hx
  by_cases h2:2≤n
  ·exact h2
  ·exfalso
   generalize (z01.g b r 11).2 = k at rk hx
   have:¬ ((decide (4≤k) && (decide (k≤6) && decide ((n:Int) < 2))) || (decide (k = 7) && decide (most < 2))) = true→¬ (4≤k∧k≤6):=by
    simp
    omega
   unfold Fw.spec_dTree.k2 Fw.spec_dTree.k1 at hx
   by_cases hb:((decide (4≤k) && (decide (k≤6) && decide ((n:Int) < 2))) || (decide (k = 7) && decide (most < 2))) = true
   ·rw [hb] at hx
    simp at hx
   ·have hb':=this hb
    simp only [Bool.not_eq_true] at hb
    rw [hb] at hx
    simp only [cond_false] at hx
    cases hc:((decide (k = 8) && decide (most < 4)) || ((decide (k = 9) && decide (most < 4)) || (decide (k = 10) && decide (most < 3)))) <;> rw [hc] at hx <;> simp at hx <;> omega
 rw [main (by omega) hh _ (by omega) (by omega) hk]
 rw [Int.toNat_natCast]⟩
end spec_dTree
end
end Go.Fw
namespace Go.Fw
section
variable {ρ:Type}
namespace z3t
def g (n low high:Int):Bool:=inK n low high
end z3t
namespace z3t
def Z0 {ρ:Type} (N:Nat) (a b c:Int) (kr:Bool→Option ρ):Option ρ :=
 cond (lk N (decide (b≤a)))
 (
  kr (lk N (decide (a≤c))))
 (
  kr false)
def Spec:Prop:=∀  (v0 v1 v2:Int),∃ N0,∀ N,N0≤N→Z0 N v0 v1 v2 (fun v6=>some ((),(v6,()))) = some ((),((g v0 v1 v2),()))
theorem ok:Spec:=fun n low high=>⟨0,fun N hN=>by
 simp only [Z0,z1x,g,inK]
 cases decide (low≤n) <;> rfl⟩
end z3t
end
end Go.Fw
namespace Go.Fw
section
variable {ρ:Type}
namespace z0l
def g (m:Int × Int × List Int):Bool:=z2c m
end z0l
namespace z0l
def Z1 {ρ:Type} (N:Nat) (a:MT) (kn:I2 (LI→Option ρ)):Option ρ :=
 kn a.1 a.2.1 a.2.2
def Z3 {ρ:Type} (N:Nat) (a b:Int) (c:LI) (kn:I2 (LI→Option ρ)) (kr:Bool→Option ρ):Option ρ :=
 cond (!(lk N ((z3t.g a 1 5))))
 (
  kr false)
 (
  cond (!(lk N ((z3t.g b a 8))))
  (
   kr false)
  (
   cond (lk N (!(decide ((c.length:Int) = (w64 (a * b))))))
   (
    kr false)
   (
    kn a b c)))
def Z6 {ρ:Type} (N:Nat) (a b:Int) (c:LI) (kn:I3 (LI→Option ρ)):Option ρ :=
 kn 0 a b c
def Z9 {ρ:Type} (N:Nat) (b c d:Int) (a:LI) (kn:I3 (LI→Option ρ)) (k0:I2 (LI→Option ρ)) (kr:Bool→Option ρ):Option ρ :=
 cond (lk N (decide (b < (a.length:Int))))
 (
  cond (lk N (inB b a.length)) (
   cond (!(lk N ((z3t.g (a.getD b.toNat 0) (-99) 99))))
   (
    kr false)
   (
    kn (w64 (b + 1)) c d a)) none)
 (
  k0 c d a)
def Z8L {ρ:Type} (N:Nat) (k0:I2 (LI→Option ρ)) (kr:Bool→Option ρ):Nat→Int→Int→Int→LI→Option ρ
 | 0,_,_,_,_=>none
 | M + 1,a,b,c,d=>Z9 N a b c d (fun a b c d=>Z8L N k0 kr M a b c d) k0 kr
def Z8 N a b c d k0 kr:=(Z8L N k0 kr N a b c d:Option ρ)
def Z7 N a b c d kn kr:=(Z8 N a b c d kn kr:Option ρ)
def Z5 N a b c kn kr:=(Z6 N a b c (fun d a b c=>Z7 N d a b c kn kr):Option ρ)
def Z12 {ρ:Type} (N:Nat) (a b:Int) (c:LI) (kn:I3 (LI→Option ρ)):Option ρ :=
 kn 0 a b c
def Z16 {ρ:Type} (N:Nat) (a b c:Int) (d:LI) (kn:I3 (LI→Option ρ)) (k2:Option ρ):Option ρ :=
 cond (lk N (decide (a < b)))
 (
  kn a b c d)
 (
  k2)
def Z20 {ρ:Type} (N:Nat) (a b c:Int) (d:LI) (kn:I4 (LI→Option ρ)):Option ρ :=
 kn a 0 b c d
def Z23 {ρ:Type} (N:Nat) (b c a d:Int) (e:LI) (kn:I4 (LI→Option ρ)) (k4:I3 (LI→Option ρ)) (kr:Bool→Option ρ):Option ρ :=
 cond (lk N (decide (c < a)))
 (
  cond (lk N (z11.P (a,(d,e)) b c)) (
   cond (lk N (z11.P (a,(d,e)) c b)) (
    cond (lk N (!(((lk N (decide (0 < (z11.g (a,(d,e)) b c)))) == (lk N (decide ((z11.g (a,(d,e)) c b) < 0)))))))
    (
     kr false)
    (
     cond (lk N (!(((lk N (decide ((z11.g (a,(d,e)) b c) = 0))) == (lk N (decide ((z11.g (a,(d,e)) c b) = 0)))))))
     (
      kr false)
     (
      kn b (w64 (c + 1)) a d e))) none) none)
 (
  k4 b a d e)
def Z22L {ρ:Type} (N:Nat) (k4:I3 (LI→Option ρ)) (kr:Bool→Option ρ):Nat→Int→Int→Int→Int→LI→Option ρ
 | 0,_,_,_,_,_=>none
 | M + 1,a,b,c,d,e=>Z23 N a b c d e (fun a b c d e=>Z22L N k4 kr M a b c d e) k4 kr
def Z22 N a b c d e k4 kr:=(Z22L N k4 kr N a b c d e:Option ρ)
def Z21 N a b c d e kn kr:=(Z22 N a b c d e kn kr:Option ρ)
def Z19 N a b c d kn kr:=(Z20 N a b c d (fun a e b c d=>Z21 N a e b c d kn kr):Option ρ)
def Z18 N a b c d kn kr:=(Z19 N a b c d kn kr:Option ρ)
def Z24 {ρ:Type} (N:Nat) (a b c:Int) (d:LI) (kn:I3 (LI→Option ρ)):Option ρ :=
 kn (w64 (a + 1)) b c d
def Z17 N a b c d kn kr:=(Z18 N a b c d (fun a b c d=>Z24 N a b c d kn) kr:Option ρ)
def Z15 N a b c d kn k2 kr:=(Z16 N a b c d (fun a b c d=>Z17 N a b c d kn kr) k2:Option ρ)
def Z14L {ρ:Type} (N:Nat) (k2:Option ρ) (kr:Bool→Option ρ):Nat→Int→Int→Int→LI→Option ρ
 | 0,_,_,_,_=>none
 | M + 1,a,b,c,d=>Z15 N a b c d (fun a b c d=>Z14L N k2 kr M a b c d) k2 kr
def Z14 N a b c d k2 kr:=(Z14L N k2 kr N a b c d:Option ρ)
def Z13 N a b c d kn kr:=(Z14 N a b c d kn kr:Option ρ)
def Z11 N a b c kn kr:=(Z12 N a b c (fun d a b c=>Z13 N d a b c kn kr):Option ρ)
def Z25 {ρ:Type} (N:Nat)  (kr:Bool→Option ρ):Option ρ :=
 kr true
def Z10 N a b c kr:=(Z11 N a b c (Z25 N kr) kr:Option ρ)
def Z4 N a b c kr:=(Z5 N a b c (fun a b c=>Z10 N a b c kr) kr:Option ρ)
def Z2 N a b c kr:=(Z3 N a b c (fun a b c=>Z4 N a b c kr) kr:Option ρ)
def Z0 N a kr:=(Z1 N a (fun b c d=>Z2 N b c d kr):Option ρ)
def Spec:Prop:=∀  (v0:MT),Ty.bd (.pair (.int .i64) (.pair (.int .i64) (.sl 0 (.int .i64)))) v0→∃ N0,∀ N,N0≤N→Z0 N v0 (fun v2=>some ((),(v2,()))) = some ((),((g v0),()))
section
variable {ρ:Type} {N:Nat} {m:Int × Int × List Int}
theorem at_g (hd:0≤m.1) (a b:Nat):z11.g (m.1,(m.2.1,m.2.2)) (a:Int) (b:Int) = ent m a b:=z9i hd a b
theorem at_p (hd:z40 m = true) {a b:Nat} (ha:a < m.1.toNat) (hb:b < m.1.toNat):z11.P (m.1,(m.2.1,m.2.2)) (a:Int) (b:Int) = true:=by
 obtain ⟨n,r,hn,hr,hn1,hn5,hnr,hr8,hl⟩:=z17 hd
 exact zmg hd (by omega) hb
theorem loop1 (hl:m.2.2.length≤maxLen) (k0:Int→Int→List Int→Option ρ) (kr:Bool→Option ρ):∀ (M j:Nat),j≤m.2.2.length→m.2.2.length - j < M →
  Z8L N k0 kr M (j:Int) m.1 m.2.1 m.2.2 = cond (entK (m.2.2.drop j)) (k0 m.1 m.2.1 m.2.2) (kr false):=by
 intro M
 induction M with
 | zero=>intro j _ h; omega
 | succ M ih =>
  intro j hj hM
  simp only [Z8L,Z9]
  by_cases h:j < m.2.2.length
  ·rw [ct (dt (by omega)),ct (z1b h),Int.toNat_natCast,z1c (by omega),z3z 0 h,entK,List.all_cons,ih (j + 1) h (by omega)]
   simp only [z1x,z3t.g]
   cases inK (m.2.2.getD j 0) (-99) 99 <;> rfl
  ·rw [cf (df (by omega)),List.drop_of_length_le (by omega)]; rfl
theorem loop3 (hd:z40 m = true) (k4:Int→Int→Int→List Int→Option ρ) (kr:Bool→Option ρ) {i:Nat} (hi:i < m.1.toNat):∀ (M j:Nat),j≤m.1.toNat→m.1.toNat - j < M →
  Z22L N k4 kr M (i:Int) (j:Int) m.1 m.2.1 m.2.2 = cond (((List.range m.1.toNat).drop j).all fun j=>zfn (ent m i j) (ent m j i)) (k4 (i:Int) m.1 m.2.1 m.2.2) (kr false):=by
 obtain ⟨n,r,hn,hr,hn1,hn5,hnr,hr8,hl⟩:=z17 hd
 intro M
 induction M with
 | zero=>intro j _ h; omega
 | succ M ih =>
  intro j hj hM
  simp only [Z22L,Z23]
  by_cases h:j < m.1.toNat
  ·rw [ct (dt (by omega)),ct (at_p hd hi h),ct (at_p hd h hi),z3q h,List.all_cons,z1c (by rw [z0z]; omega),ih (j + 1) h (by omega)]
   have hA:z11.g (m.1,(m.2.1,m.2.2)) (i:Int) (j:Int) = ent m i j:=at_g (by omega) _ _
   have hB:z11.g (m.1,(m.2.1,m.2.2)) (j:Int) (i:Int) = ent m j i:=at_g (by omega) _ _
   simp only [z1x,hA,hB,zfn]
   cases (decide (0 < ent m i j) == decide (ent m j i < 0)) <;> cases (decide (ent m i j = 0) == decide (ent m j i = 0)) <;> rfl
  ·rw [cf (df (by omega)),List.drop_of_length_le (by simp; omega)]; rfl
theorem loop2 (hN:10≤N) (hd:z40 m = true) (k2:Option ρ) (kr:Bool→Option ρ):∀ (M i:Nat),i≤m.1.toNat→m.1.toNat - i < M →
  Z14L N k2 kr M (i:Int) m.1 m.2.1 m.2.2 = cond (((List.range m.1.toNat).drop i).all fun i=>(List.range m.1.toNat).all fun j=>zfn (ent m i j) (ent m j i)) k2 (kr false):=by
 obtain ⟨n,r,hn,hr,hn1,hn5,hnr,hr8,hl⟩:=z17 hd
 intro M
 induction M with
 | zero=>intro i _ h; omega
 | succ M ih =>
  intro i hi hM
  simp only [Z14L,Z15,Z16]
  by_cases h:i < m.1.toNat
  ·rw [ct (dt (by omega))]
   simp only [Z17,Z18,Z19,Z20,Z21,Z22]
   have h3:=loop3 (ρ:=ρ) (N:=N) hd (fun a b c d=>Z24 N a b c d (fun a b c d=>Z14L N k2 kr M a b c d)) kr h N 0 (by omega) (by omega)
   rw [show ((0:Nat):Int) = 0 from rfl] at h3
   rw [h3,z3q h,List.all_cons,List.drop_zero]
   simp only [Z24]
   rw [z1c (by rw [z0z]; omega),ih (i + 1) h (by omega)]
   cases ((List.range m.1.toNat).all fun j=>zfn (ent m i j) (ent m j i)) <;> rfl
  ·rw [cf (df (by omega)),List.drop_of_length_le (by simp; omega)]; rfl
end
theorem ok:Spec:=fun m hb=>⟨m.2.2.length + 10,fun N hN=>by
 have hlen:m.2.2.length≤maxLen:=hb.2.2.1
 simp only [Z0,Z1,Z2,Z3,z3t.g,g,z2c,z1l]
 have main:z40 m = true→Z4 N m.1 m.2.1 m.2.2 (fun t=>some ((),(t,()))) = some ((),((entK m.2.2 && (List.range m.1.toNat).all fun i=>(List.range m.1.toNat).all fun j=>zfn (ent m i j) (ent m j i)),())):=by
  intro hd
  obtain ⟨n,r,hn,hr,hn1,hn5,hnr,hr8,hl⟩:=z17 hd
  simp only [Z4,Z5,Z6,Z7,Z8]
  have h1:=loop1 (N:=N) hlen (fun a b c=>Z10 N a b c (fun t=>some ((),(t,())))) (fun t=>some ((),(t,()))) N 0 (by omega) (by omega)
  rw [show ((0:Nat):Int) = 0 from rfl] at h1
  rw [h1,List.drop_zero]
  simp only [Z10,Z11,Z12,Z13,Z14,Z25]
  have h2:=loop2 (N:=N) (by omega) hd (some ((),(true,()))) (fun t=>some ((),(t,()))) N 0 (by omega) (by omega)
  rw [show ((0:Nat):Int) = 0 from rfl] at h2
  rw [h2,List.drop_zero]
  cases entK m.2.2 <;> cases ((List.range m.1.toNat).all fun i=>(List.range m.1.toNat).all fun j=>zfn (ent m i j) (ent m j i)) <;> rfl
 cases h1:inK m.1 1 5
 ·rw [z40,h1]; simp [z1x]
 cases h2:inK m.2.1 m.1 8
 ·rw [z40,h1,h2]; simp [z1x]
 have e1:=z3d.1 h1
 have e2:=z3d.1 h2
 have e3:0≤m.1 * m.2.1:=Int.mul_nonneg (by omega) (by omega)
 have e4:m.1 * m.2.1≤5 * 8:=Int.mul_le_mul (by omega) (by omega) (by omega) (by omega)
 rw [z1g (by omega) (by omega)]
 by_cases h3:(m.2.2.length:Int) = m.1 * m.2.1
 ·have hd:z40 m = true:=by rw [z40,h1,h2,dt h3]; rfl
  rw [cf' (by simp [z1x]),cf' (by simp [z1x]),cf (nf h3),main hd,hd]
  rfl
 ·have hd:z40 m = false:=by rw [z40,h1,h2,df h3]; rfl
  rw [cf' (by simp [z1x]),cf' (by simp [z1x]),ct (nt h3),hd]
  rfl⟩
end z0l
end
end Go.Fw
namespace Go.Fw
section
variable {ρ:Type}
namespace z31
def g (m:Int × Int × List Int):Bool:=z2c m && !decide (z6h m = [])
end z31
namespace z31
def Z0 {ρ:Type} (N:Nat) (a:MT) (kr:Bool→Option ρ):Option ρ :=
 cond (!(lk N ((z0l.g a))))
 (
  kr false)
 (
  cond (lk N (z03.P a)) (
   kr (lk N ((z03.g a).2))) none)
def Spec:Prop:=∀  (v0:MT),Ty.bd (.pair (.int .i64) (.pair (.int .i64) (.sl 0 (.int .i64)))) v0→∃ N0,∀ N,N0≤N→Z0 N v0 (fun v2=>some ((),(v2,()))) = some ((),((g v0),()))
theorem ok:Spec:=fun m hb=>⟨0,fun N hN=>by
 simp only [Z0,z1x,g,z0l.g,z03.P,z03.g]
 cases z2c m <;> rfl⟩
end z31
end
end Go.Fw
