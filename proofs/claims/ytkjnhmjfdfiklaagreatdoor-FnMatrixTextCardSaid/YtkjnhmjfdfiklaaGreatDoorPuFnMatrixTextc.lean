/- The plain part: what the functions compute, in lists and numbers. Nothing is assumed. -/
import Derived.Test.YtkjnhmjfdfiklaaGreatDoorPuFnMatrixTextb
import Derived.Test.YtkjnhmjfdfiklaaGreatDoorPuFnMatrixTexta
import Derived.Test.YtkjnhmjfdfiklaaGreatDoorFwd
noncomputable section
set_option linter.defProp false
set_option linter.unusedVariables false
namespace Go.Fw
def zom{m:Int×Int×List Int}(hd:z3i m=true){k:Nat}(hk:k<m.1.toNat):z3p (z6h m k)=z6h (z3p m) k:=by
 obtain⟨n,r,hn,hr,hn1,hn5,hnr,hr8,hl⟩:=z12 hd
 have dM:=za2 hd k
 have dS:=z71 hd
 refine zdy (z71 dM) rfl rfl (by simp[z3p,z6h]) λi j hi hj=>?_
 have hi:i<m.1.toNat:=hi
 have hj:j<m.1.toNat:=hj
 rw[z4i dM hi hj,z6t hd (by omega) hj]
 have:=z6t dS (k:=k) (i:=i) (j:=j) hi hj
 rw[this,z4i hd hi hj,z4i hd hi hk,z4i hd hk hj]
def zc4{m:Int×Int×List Int}(hd:z3i m=true)(hsq:m.2.1=m.1):z3p (z58 m)=m:=by
 obtain⟨n,r,hn,hr,hn1,hn5,hnr,hr8,hl⟩:=z12 hd
 have e1:(m.1*m.1).toNat=m.2.2.length:=by
  have:r=n:=by omega
  rw[hl,this,hn];norm_cast
 unfold z3p z58
 show(m.1,m.1,(m.2.2++z93 m.1.toNat m.1.toNat).take (m.1*m.1).toNat)=m
 rw[e1,List.take_left]
 obtain⟨a,b,c⟩:=m
 simp only at hsq
 subst hsq
 rfl
def ziq{n:Nat}:∀(k:Nat) {x:Int},x∈z93 n k->0<=x/\x<=1
 | 0,x,h=>by simp[z93]at h
 | k+1,x,h=>by
  have h:x∈z93 n k++zqr n k:=h
  rcases List.mem_append.1 h with h | h
  ·exact ziq k h
  ·obtain⟨j,_,rfl⟩:=List.mem_map.1 h
   split<;>omega
def z2u.princ{m:Int×Int×List Int}{d:Nat->Int}(h:z2u m d)(hsq:m.2.1=m.1)(h4:m.1<=4):z2u (z58 m) d:=by
 obtain⟨n,r,hn,hr,hn1,hn5,hnr,hr8,hl⟩:=z12 h.dim
 have hrn:r=n:=by omega
 have hlen:((z58 m).2.2.length:Int)=m.1*(2*m.1):=by
  show((m.2.2++z93 m.1.toNat m.1.toNat).length:Int)=_
  rw[List.length_append,zir,hl,hrn,show m.1.toNat=n by omega,hn]
  have:(n:Int)*(2*(n:Int))=((n*n+n*n:Nat):Int):=by
   have:n*(2*n)=n*n+n*n:=by rw[Nat.mul_left_comm];omega
   rw[<-this];norm_cast
  rw[this]
 have hd:z3i (z58 m)=true:=by
  simp only[z3i,Bool.and_eq_true,z2b,decide_eq_true_eq]
  exact⟨by show 1<=m.1/\m.1<=5;omega,by show m.1<=2*m.1/\2*m.1<=8;omega,hlen⟩
 have he:∀{u v:Nat},u<m.1.toNat->v<m.1.toNat->ent (z58 m) u v=ent m u v:=λ{u v} hu hv=>by
  rw[<-z4i hd (i:=u) (j:=v) hu hv,zc4 h.dim hsq]
 refine⟨z44.2 ⟨hd,λx hx=>?_⟩,λu hu=>⟨(h.good u hu).1,λv hv=>?_⟩⟩
 ·have hx:x∈m.2.2++z93 m.1.toNat m.1.toNat:=hx
  rcases List.mem_append.1 hx with hx | hx
  ·exact(z44.1 h.shaped).2 x hx
  ·have:=ziq _ hx
   omega
 ·have hu:u<m.1.toNat:=hu
  have hv:v<m.1.toNat:=hv
  rw[he hu hv,he hv hu]
  exact(h.good u hu).2 v hv
def iok{m:Int×Int×List Int}{d:Nat->Int}(h:z2u m d):(z0t m&&!decide (z3u m=[]))=true:=by rw[z6k];exact h.ok
def zrn{m:Int×Int×List Int}{d:Nat->Int}(h:z2u m d){k:Nat}(hk:k<m.1.toNat):z0g.g m (k:Int)=if z23 (z6h m k)=true then(z6h m k,true)else((0,0,[]),false):=by
 obtain⟨n,r,en,hr,hn1,hn5,hnr,hr8,hl⟩:=z12 h.dim
 unfold z0g.g
 rw[zh6,Int.toNat_natCast,h.ok,show inK (k:Int) 0 (m.1-1)=true from z2b.2 ⟨by omega,by omega⟩]
 simp only[Bool.true_and]
def zcm{d:Nat->Int}{n:Nat}:∀(ks:List Int) {p:Int×Int×List Int},z2u p d->p.1.toNat=n->(∀k∈ks,0<=k/\k<(n:Int))->(z3o z0g.g p ks).2=true ->
  z3o z0g.g (z3p p) ks=(z3p (z3o z0g.g p ks).1,true)/\z2u (z3o z0g.g p ks).1 d
 | [],p,h,_,_,_=>⟨rfl,h⟩
 | k::ks,p,h,hn,hks,hok=>by
  obtain⟨h0,h1⟩:=hks k List.mem_cons_self
  obtain⟨k,rfl⟩:=Int.eq_ofNat_of_zero_le h0
  have hk:k<p.1.toNat:=by omega
  have e1:=zrn h hk
  unfold z3o at hok ⊢
  rw[e1]at hok ⊢
  by_cases hs:z23 (z6h p k)=true
  ·rw[if_pos hs]at hok ⊢
   have hR:=h.mut hk hs
   have e2:=zrn h.square (k:=k) hk
   rw[<-zom h.dim hk,if_pos hR.square.sizes]at e2
   rw[e2]
   exact zcm ks hR hn (λx hx=>hks x (List.mem_cons_of_mem _ hx)) (by simpa using hok)
  ·rw[if_neg hs]at hok
   cases hok
def zgf{m:Int×Int×List Int}(ks:List Int):z0k.g m ks=z10.g m ks:=by
 unfold z0k.g z10.g
 rw[z6k,zs6]
end Go.Fw
set_option linter.defProp false
set_option linter.unusedSimpArgs false
set_option maxRecDepth 100000
namespace Go.Fw
section
variable {ρ : Type}
namespace z61
def g(b:List Int):Bool:=decide (1048576<(b.length:Int))
end z61
namespace z61
def Z0{ρ:Type}(N:Nat)(a:List Int)(kr:Bool->Option ρ):Option ρ :=
 kr (lk N (decide (1048576<(a.length:Int))))
def Spec:Prop:=∀ (v0:List Int),Ty.bd (.sl 0 (.int .u8)) v0->∃N0,∀N,N0<=N->Z0 N v0 (λv2=>some ((),(v2,())))=some ((),((g v0),()))
def ok:Spec:=λb hb=>⟨0,λN hN=>by
 simp only[Z0,z1t,g]⟩
end z61
end
end Go.Fw
namespace Go.Fw
section
variable {ρ : Type}
namespace z08
def hstep(h x:Int):Int:=z81 .and .i64 (w64 (w64 (w64 (h*131)+w64 x)+7)) 1073741823
def g(b:List Int):Int×Int:=(0,(b.take 4000).foldl hstep (w64 (124929+(b.length:Int))))
end z08
namespace z08
def Z1{ρ:Type}(N:Nat)(a:List Int)(kn:List Int->Option ρ):Option ρ :=
 kn a
def Z3{ρ:Type}(N:Nat)(a:List Int)(kn:List Int->Int->Option ρ):Option ρ :=
 kn a (w64 (124929+(a.length:Int)))
def Z6{ρ:Type}(N:Nat)(a:List Int)(b:Int)(kn:List Int->I2 (Option ρ)):Option ρ :=
 kn a b 0
def Z9{ρ:Type}(N:Nat)(a:List Int)(c b:Int)(kn:List Int->I2 (Option ρ))(k0:List Int->Int->Option ρ):Option ρ :=
 cond (lk N (decide (b<(a.length:Int))))
 (
  cond (lk N (decide (b<4000)))
  (
   cond (lk N (inB b a.length)) (
    kn a (z81 .and .i64 (w64 ((w64 ((w64 (c*131))+(w64 ((a.getD b.toNat 0)))))+7)) 1073741823) (w64 (b+1))) none)
  (
   k0 a c))
 (
  k0 a c)
def Z8L{ρ:Type}(N:Nat)(k0:List Int->Int->Option ρ):Nat->List Int->Int->Int->Option ρ
 | 0,_,_,_=>none
 | M+1,a,b,c=>Z9 N a b c (λa b c=>Z8L N k0 M a b c) k0
def Z8 N a b c k0:=(Z8L N k0 N a b c:Option ρ)
def Z7 N a b c kn:=(Z8 N a b c kn:Option ρ)
def Z5 N a b kn:=(Z6 N a b (λa b c=>Z7 N a b c kn):Option ρ)
def Z10{ρ:Type}(N:Nat)(a:List Int)(b:Int)(kr:List Int->I2 (Option ρ)):Option ρ :=
 kr a 0 b
def Z4 N a b kr:=(Z5 N a b (λa b=>Z10 N a b kr):Option ρ)
def Z2 N a kr:=(Z3 N a (λa b=>Z4 N a b kr):Option ρ)
def Z0 N a kr:=(Z1 N a (λa=>Z2 N a kr):Option ρ)
def Spec:Prop:=∀{U:Type} (u:U) (v0:List Int),Ty.bd (.sl 0 (.int .u8)) v0->∃N0,∀N,N0<=N->Z0 N v0 (λv31_0 v31_1 v31_2=>some (u,(v31_1,v31_2)))=some (u,(g v0))
def loop{ρ:Type}{N:Nat}(b:List Int)(k0:List Int->Int->Option ρ):∀(M i:Nat) (h:Int),i<=(b.take 4000).length->(b.take 4000).length-i<M ->
  Z8L N k0 M b h (i:Int)=k0 b (((b.take 4000).drop i).foldl hstep h):=by
 intro M
 induction M with
 | zero=>intro i h _ hM;omega
 | succ M ih =>
  intro i h hi hM
  have hL:(b.take 4000).length=min 4000 b.length:=List.length_take
  simp only[Z8L,Z9]
  by_cases hl:i<(b.take 4000).length
  ·have hlt:i<b.length:=by omega
   have hge:(b.take 4000).getD i 0=b.getD i 0:=by
    rw[List.getD_eq_getElem?_getD,List.getD_eq_getElem?_getD,List.getElem?_take,if_pos (by omega)]
   rw[ct (dt (by omega)),ct (dt (by omega)),ct (z1g hlt),Int.toNat_natCast,z4c (l:=b.take 4000) 0 hl,hge,z1d (by rw[z0y];omega)]
   exact ih (i+1) _ hl (by omega)
  ·rw[List.drop_of_length_le (by omega)]
   by_cases hlt:i<b.length
   ·rw[ct (dt (by omega)),cf (df (by omega))]
    rfl
   ·rw[cf (df (by omega))]
    rfl
def ok:Spec:=λu b hb=>⟨5000,λN hN=>by
 simp only[Z0,Z1,Z2,Z3,Z4,Z5,Z6,Z7,Z8]
 refine(loop b _ N 0 _ (Nat.zero_le _) (by rw[List.length_take];omega)).trans ?_
 rw[List.drop_zero]
 rfl⟩
end z08
end
end Go.Fw
namespace Go.Fw
section
variable {ρ : Type}
namespace z0b
def P(b:List Int)(r:Int×Int)(m:Int×Int×List Int):Bool:=z1z b r&&(z3i m&&decide (m.2.1<=6))
abbrev S:=(Int×Int)×List Int
def numF(b:List Int)(s:S):S:=((z00.g b s.1 5).1,s.2++[(z00.g b s.1 5).2-2])
def zgt(b:List Int):Nat->S->S
 | 0,s=>s
 | n+1,s=>zgt b n (numF b s)
def zgl(b:List Int)(n:Nat):Nat->S->S
 | 0,s=>s
 | c+1,s=>zgl b n c (zgt b n s)
def res(b:List Int)(r:Int×Int)(m:Int×Int×List Int):S:=zgl b m.1.toNat (z00.g b r 3).2.toNat ((z00.g b r 3).1,m.2.2)
def g(b:List Int)(r:Int×Int)(m:Int×Int×List Int):(Int×Int)×(Int×Int×List Int):=((res b r m).1,(m.1,m.2.1+(z00.g b r 3).2,(res b r m).2))
end z0b
namespace z0b
def Z1{ρ:Type}(N:Nat)(b0:List Int)(r0:Int×Int)(a:MT)(kn:List Int->I4 (LI->I2 (Option ρ))):Option ρ :=
 kn b0 r0.1 r0.2 a.1 a.2.1 a.2.2 0 0
def Z3{ρ:Type}(N:Nat)(d:List Int)(e f a b:Int)(c:LI)(h i:Int)(kn:LI->List Int->I4 (LI->I4 (Option ρ))):Option ρ :=
 cond (lk N (z0m.P (a,(b,c)))) (
  kn (z0m.g (a,(b,c))).2.2 d e f a b c h i (z0m.g (a,(b,c))).1 (z0m.g (a,(b,c))).2.1) none
def Z5{ρ:Type}(N:Nat)(d:LI)(a:List Int)(b c e f:Int)(h:LI)(i j l m:Int)(kn:LI->Int->List Int->I4 (LI->I4 (Option ρ))):Option ρ :=
 cond (lk N (z00.P a (b,c) 3)) (
  kn d (z00.g a (b,c) 3).2 a (z00.g a (b,c) 3).1.1 (z00.g a (b,c) 3).1.2 e f h i j l m) none
def Z8{ρ:Type}(N:Nat)(a:LI)(b:Int)(c:List Int)(d e f g:Int)(h:LI)(i j l m:Int)(kn:LI->I2 (List Int->I4 (LI->I4 (Option ρ)))):Option ρ :=
 kn a b 0 c d e f g h i j l m
def Z12{ρ:Type}(N:Nat)(a:LI)(b c:Int)(d:List Int)(e f l m:Int)(o:LI)(g h i j:Int)(kn:LI->I2 (List Int->I4 (LI->I4 (Option ρ))))(k0:LI->I4 (List Int->I2 (Option ρ))):Option ρ :=
 cond (lk N (decide (c<b)))
 (
  kn a b c d e f l m o g h i j)
 (
  k0 a g h i j d e f)
def Z17{ρ:Type}(N:Nat)(a:LI)(b c:Int)(d:List Int)(e f g h:Int)(i:LI)(j l m o:Int)(kn:LI->I3 (List Int->I4 (LI->I4 (Option ρ)))):Option ρ :=
 kn a b c 0 d e f g h i j l m o
def Z20{ρ:Type}(N:Nat)(d:LI)(f h i:Int)(a:List Int)(b c e j:Int)(l:LI)(m o p q:Int)(kn:LI->I3 (List Int->I4 (LI->I4 (Option ρ))))(k2:LI->I2 (List Int->I4 (LI->I4 (Option ρ)))):Option ρ :=
 cond (lk N (decide (i<e)))
 (
  z6d (
   cond (lk N (z00.P a (b,c) 5)) (
    cond (lk N (Nat.blt (d.length+([(w64 ((z00.g a (b,c) 5).2-2))]:List Int).length) 1099511627776)) (
     kn (d++([(w64 ((z00.g a (b,c) 5).2-2))]:List Int)) f h (w64 (i+1)) a (z00.g a (b,c) 5).1.1 (z00.g a (b,c) 5).1.2 e j l m o p q) none) none)
  (
   cond (lk N (z00.P a (b,c) 5)) (
    bo (
     cond (lk N (Nat.blt (d.length+([(w64 ((z00.g a (b,c) 5).2-2))]:List Int).length) 1099511627776)) (
      kn (d++([(w64 ((z00.g a (b,c) 5).2-2))]:List Int)) f h (w64 (i+1)) a (z00.g a (b,c) 5).1.1 (z00.g a (b,c) 5).1.2 e j l m o p q) none)) none))
 (
  k2 d f h a b c e j l m o p q)
def Z19L{ρ:Type}(N:Nat)(k2:LI->I2 (List Int->I4 (LI->I4 (Option ρ)))):Nat->LI->Int->Int->Int->List Int->Int->Int->Int->Int->LI->Int->Int->Int->Int->Option ρ
 | 0,_,_,_,_,_,_,_,_,_,_,_,_,_,_=>none
 | M+1,a,b,c,d,e,f,g,h,i,j,l,m,o,p=>Z20 N a b c d e f g h i j l m o p (λa b c d e f g h i j l m o p=>Z19L N k2 M a b c d e f g h i j l m o p) k2
def Z19 N a b c d e f g h i j l m o p k2:=(Z19L N k2 N a b c d e f g h i j l m o p:Option ρ)
def Z18 N a b c d e f g h i j l m o p kn:=(Z19 N a b c d e f g h i j l m o p kn:Option ρ)
def Z16 N a b c d e f g h i j l m o kn:=(Z17 N a b c d e f g h i j l m o (λa b c p d e f g h i j l m o=>Z18 N a b c p d e f g h i j l m o kn):Option ρ)
def Z21{ρ:Type}(N:Nat)(a:LI)(b c:Int)(d:List Int)(e f g h:Int)(i:LI)(j l m o:Int)(kn:LI->I2 (List Int->I4 (LI->I4 (Option ρ)))):Option ρ :=
 kn a b c d e f g h i j l m (w64 (o+1))
def Z15 N a b c d e f g h i j l m o kn:=(Z16 N a b c d e f g h i j l m o (λa b c d e f g h i j l m o=>Z21 N a b c d e f g h i j l m o kn):Option ρ)
def Z14 N a b c d e f g h i j l m o kn:=(Z15 N a b c d e f g h i j l m o kn:Option ρ)
def Z22{ρ:Type}(N:Nat)(a:LI)(b c:Int)(d:List Int)(e f g h:Int)(i:LI)(j l m o:Int)(kn:LI->I2 (List Int->I4 (LI->I4 (Option ρ)))):Option ρ :=
 kn a b (w64 (c+1)) d e f g h i j l m o
def Z13 N a b c d e f g h i j l m o kn:=(Z14 N a b c d e f g h i j l m o (λa b c d e f g h i j l m o=>Z22 N a b c d e f g h i j l m o kn):Option ρ)
def Z11 N a b c d e f g h i j l m o kn k0:=(Z12 N a b c d e f g h i j l m o (λa b c d e f g h i j l m o=>Z13 N a b c d e f g h i j l m o kn) k0:Option ρ)
def Z10L{ρ:Type}(N:Nat)(k0:LI->I4 (List Int->I2 (Option ρ))):Nat->LI->Int->Int->List Int->Int->Int->Int->Int->LI->Int->Int->Int->Int->Option ρ
 | 0,_,_,_,_,_,_,_,_,_,_,_,_,_=>none
 | M+1,a,b,c,d,e,f,g,h,i,j,l,m,o=>Z11 N a b c d e f g h i j l m o (λa b c d e f g h i j l m o=>Z10L N k0 M a b c d e f g h i j l m o) k0
def Z10 N a b c d e f g h i j l m o k0:=(Z10L N k0 N a b c d e f g h i j l m o:Option ρ)
def Z9 N a b c d e f g h i j l m o kn:=(Z10 N a b c d e f g h i j l m o kn:Option ρ)
def Z7 N a b c d e f g h i j l m kn:=(Z8 N a b c d e f g h i j l m (λa b o c d e f g h i j l m=>Z9 N a b o c d e f g h i j l m kn):Option ρ)
def Z23{ρ:Type}(N:Nat)(a:LI)(g h b c:Int)(d:List Int)(e f:Int)(kr:LI->I2 (List Int->I2 (Option ρ))):Option ρ :=
 kr a b c d e f
def Z6 N a i b c d j l m e f g h kr:=(Z7 N a i b c d j l m e f g h (λa e f g h b c d=>Z23 N a e f g h b c d kr):Option ρ)
def Z4 N a b c d e f g h i j l kr:=(Z5 N a b c d e f g h i j l (λa m b c d e f g h i j l=>Z6 N a m b c d e f g h i j l kr):Option ρ)
def Z2 N a b c d e f g h kr:=(Z3 N a b c d e f g h (λi a b c d e f g h j l=>Z4 N i a b c d e f g h j l kr):Option ρ)
def Z0 N b0 r0 a kr:=(Z1 N b0 r0 a (λb c d e f g h i=>Z2 N b c d e f g h i kr):Option ρ)
def Spec:Prop:=∀{U:Type} (u:U) (b0:List Int) (r0:Int×Int) (v1:MT),Ty.bd (.sl 0 (.int .u8)) b0->Ty.bd (.pair (.int .i64) (.pair (.int .i64) (.sl 0 (.int .i64)))) v1->P b0 r0 v1=true->∃N0,∀N,N0<=N->Z0 N b0 r0 v1 (λv4_2 v4_0 v4_1 w0_0 w0_1 w0_2=>some (u,((w0_1,w0_2),((),((v4_0,(v4_1,v4_2)),())))))=some (u,((g b0 r0 v1).1,((),((g b0 r0 v1).2,()))))
def zlk{b:List Int}:∀(n:Nat) {s:S},z1z b s.1=true->z1z b (zgt b n s).1=true/\(zgt b n s).2.length=s.2.length+n
 | 0,_,h=>⟨h,rfl⟩
 | n+1,s,h=>by
  have:=zlk n (s:=numF b s) (z00.keep h)
  refine⟨this.1,this.2.trans ?_⟩
  simp[numF]
  omega
def rows_ok{b:List Int}{n:Nat}:∀(c:Nat) {s:S},z1z b s.1=true->z1z b (zgl b n c s).1=true/\(zgl b n c s).2.length=s.2.length+c*n
 | 0,_,h=>⟨h,by simp[zgl]⟩
 | c+1,s,h=>by
  have h1:=zlk n (s:=s) h
  have:=rows_ok (n:=n) c (s:=zgt b n s) h1.1
  refine⟨this.1,this.2.trans ?_⟩
  rw[h1.2,Nat.succ_mul]
  omega
def keep{b:List Int}{r:Int×Int}{m:Int×Int×List Int}(h:z1z b r=true):z1z b (g b r m).1=true:=(rows_ok (n:=m.1.toNat) _ (z00.keep h)).1
def dim{b:List Int}{r:Int×Int}{m:Int×Int×List Int}(h:z1z b r=true)(hd:z3i m=true)(h6:m.2.1<=6):z3i (g b r m).2=true:=by
 obtain⟨n,q,hn,hq,hn1,hn5,hnq,hq8,hl⟩:=z12 hd
 have hr:=z00.range (b:=b) (r:=r) (n:=3) (by omega) (by omega)
 have hl2:=(rows_ok (b:=b) (n:=m.1.toNat) (z00.g b r 3).2.toNat (s:=((z00.g b r 3).1,m.2.2)) (z00.keep h)).2
 obtain⟨c,hc⟩:=Int.eq_ofNat_of_zero_le hr.1
 simp only[z3i,Bool.and_eq_true,z2b,decide_eq_true_eq]
 refine⟨by show 1<=m.1/\m.1<=5;omega,by show m.1<=m.2.1+_/\m.2.1+_<=8;omega, ?_⟩
 show((res b r m).2.length:Int)=m.1*(m.2.1+(z00.g b r 3).2)
 unfold res
 rw[hl2,hc,hn,hq]
 show((m.2.2.length+(c:Int).toNat*(n:Int).toNat:Nat):Int)=_
 rw[Int.toNat_natCast,Int.toNat_natCast,hl]
 have:(n:Int)*((q:Int)+(c:Int))=((n*(q+c):Nat):Int):=by simp
 rw[this,Nat.mul_add,Nat.mul_comm n q,Nat.mul_comm n c]
def inner{ρ:Type}{N:Nat}{b:List Int}(kk:List Int->Int->Int->List Int->Int->Int->Int->Int->List Int->Int->Int->Int->Int->Option ρ)(cn i m1:Int)(m2:List Int)(t0 t1 o0 o1:Int){n:Nat}(hn:n<=5):∀(M j:Nat) (s:S),j<=n->z1z b s.1=true->s.2.length+(n-j)<=1000->n-j<M ->
  Z19L N kk M s.2 cn i (j:Int) b s.1.1 s.1.2 (n:Int) m1 m2 t0 t1 o0 o1=kk (zgt b (n-j) s).2 cn i b (zgt b (n-j) s).1.1 (zgt b (n-j) s).1.2 (n:Int) m1 m2 t0 t1 o0 o1:=by
 intro M
 induction M with
 | zero=>intro j s _ _ _ h;omega
 | succ M ih =>
  intro j s hj hs hl hM
  simp only[Z19L,Z20]
  by_cases h:j<n
  ·have es:((s.1.1,s.1.2):Int×Int)=s.1:=rfl
   have hP:z00.P b s.1 5=true:=hs
   have hr:=z00.range (b:=b) (r:=s.1) (n:=5) (by omega) (by omega)
   have w0:w64 ((z00.g b s.1 5).2-2)=(z00.g b s.1 5).2-2:=z1c (by omega) (by omega)
   have w1:w64 ((j:Int)+1)=((j+1:Nat):Int):=z1d (by rw[z0y];omega)
   have c1:Nat.blt (s.2.length+([(z00.g b s.1 5).2-2]:List Int).length) 1099511627776=true:=Nat.ble_eq_true_of_le (by rw[List.length_singleton];omega)
   have ec:n-j=(n-(j+1))+1:=by omega
   rw[ct (dt (by omega)),ec]
   simp only[z1t,es,hP,w0,w1,c1,cond_true,z30]
   exact ih (j+1) (numF b s) h (z00.keep hs) (by simp[numF];omega) (by omega)
  ·rw[cf (df (by omega)),show n-j=0 by omega]
   rfl
def outer{ρ:Type}{N:Nat}(hN:10<=N){b:List Int}(kk:List Int->Int->Int->Int->Int->List Int->Int->Int->Option ρ)(m1:Int)(m2:List Int)(t0 t1 o0:Int){n c:Nat}(hn:n<=5)(hc:c<=3):∀(M i:Nat) (o:Int) (s:S),i<=c->z1z b s.1=true->s.2.length+(c-i)*n<=1000->0<=o->o+((c-i:Nat):Int)<=100->c-i<M ->
  Z10L N kk M s.2 (c:Int) (i:Int) b s.1.1 s.1.2 (n:Int) m1 m2 t0 t1 o0 o=kk (zgl b n (c-i) s).2 t0 t1 o0 (o+((c-i:Nat):Int)) b (zgl b n (c-i) s).1.1 (zgl b n (c-i) s).1.2:=by
 intro M
 induction M with
 | zero=>intro i o s _ _ _ _ _ h;omega
 | succ M ih =>
  intro i o s hi hs hl ho1 ho2 hM
  simp only[Z10L,Z11,Z12]
  by_cases h:i<c
  ·have ec:c-i=(c-(i+1))+1:=by omega
   rw[ec,Nat.succ_mul]at hl
   have hn2:=(zlk n (s:=s) hs)
   rw[ct (dt (by omega))]
   simp only[Z13,Z14,Z15,Z16,Z17,Z18,Z19]
   refine(inner _ (c:Int) (i:Int) m1 m2 t0 t1 o0 o hn N 0 s (Nat.zero_le _) hs (by omega) (by omega)).trans ?_
   simp only[Z21,Z22]
   have w1:w64 ((i:Int)+1)=((i+1:Nat):Int):=z1d (by rw[z0y];omega)
   have w2:w64 (o+1)=o+1:=z1c (by omega) (by omega)
   rw[Nat.sub_zero,w1,w2]
   refine(ih (i+1) (o+1) (zgt b n s) h hn2.1 (by rw[hn2.2];omega) (by omega) (by omega) (by omega)).trans ?_
   rw[ec]
   have:o+1+((c-(i+1):Nat):Int)=o+((c-(i+1)+1:Nat):Int):=by omega
   rw[this]
   rfl
  ·rw[cf (df (by omega)),show c-i=0 by omega]
   simp[zgl]
def ok:Spec:=λu b r m hb hbm hp=>⟨10,λN hN=>by
 simp only[P,Bool.and_eq_true,decide_eq_true_eq]at hp
 obtain⟨h,hd,h6⟩:=hp
 obtain⟨n,q,hn,hq,hn1,hn5,hnq,hq8,hl⟩:=z12 hd
 have hnq2:q*n<=8*5:=Nat.mul_le_mul hq8 hn5
 have h0:=z00.keep (n:=3) h
 have p0:z00.P b r 3=true:=h
 have er:((r.1,r.2):Int×Int)=r:=rfl
 have em:((m.1,(m.2.1,m.2.2)):Int×Int×List Int)=m:=rfl
 have hr:=z00.range (b:=b) (r:=r) (n:=3) (by omega) (by omega)
 have pc:z0m.P m=true:=by
  simp only[z0m.P,z2y.P,decide_eq_true_eq]
  omega
 obtain⟨c,hc⟩:=Int.eq_ofNat_of_zero_le hr.1
 have hcn:c*n<=3*5:=Nat.mul_le_mul (by omega) hn5
 simp only[Z0,Z1,Z2,Z3,z1t,em,pc,cond_true,Z4,Z5,er,p0,Z6,Z7,Z8,Z9,Z10]
 have key:=λ{ρ:Type} (kk:List Int->Int->Int->Int->Int->List Int->Int->Int->Option ρ)=>outer (ρ:=ρ) (N:=N) hN kk m.2.1 m.2.2 0 0 (n:Int) hn5 (c:=c) (by omega) N 0 m.2.1 ((z00.g b r 3).1,m.2.2) (Nat.zero_le _) h0 (by rw[Nat.sub_zero];show m.2.2.length+c*n<=_;omega) (by omega) (by omega) (by omega)
 rw[<-hn]at key
 rw[hc]
 refine(key _).trans ?_
 simp only[Z23,g,res]
 rw[hc,hn]
 rfl⟩
end z0b
end
end Go.Fw
namespace Go.Fw
section
variable {ρ : Type}
namespace z26
def P(b:List Int)(r:Int×Int)(l:List Int):Bool:=z1z b r&&(decide (1<=l.length)&&decide (l.length<=256))
def g(b:List Int)(r:Int×Int)(l:List Int):(Int×Int)×Int:=((z00.g b r (l.length:Int)).1,l.getD (z00.g b r (l.length:Int)).2.toNat 0)
end z26
namespace z26
def Z0{ρ:Type}(N:Nat)(b0:List Int)(r0:Int×Int)(a:LI)(kr:Int->List Int->I2 (Option ρ)):Option ρ :=
 cond (lk N (z00.P b0 r0 (a.length:Int))) (
  cond (lk N (inB (z00.g b0 r0 (a.length:Int)).2 a.length)) (
   kr (a.getD (z00.g b0 r0 (a.length:Int)).2.toNat 0) b0 (z00.g b0 r0 (a.length:Int)).1.1 (z00.g b0 r0 (a.length:Int)).1.2) none) none
def Spec:Prop:=∀{U:Type} (u:U) (b0:List Int) (r0:Int×Int) (v1:LI),Ty.bd (.sl 0 (.int .u8)) b0->Ty.bd (.sl 0 (.int .i64)) v1->P b0 r0 v1=true->∃N0,∀N,N0<=N->Z0 N b0 r0 v1 (λv4 w0_0 w0_1 w0_2=>some (u,((w0_1,w0_2),((),(v4,())))))=some (u,((g b0 r0 v1).1,((),((g b0 r0 v1).2,()))))
def ok:Spec:=λu b r l hb hbl hp=>⟨0,λN hN=>by
 simp only[P,Bool.and_eq_true,decide_eq_true_eq]at hp
 obtain⟨h,h1,h2⟩:=hp
 have hr:=z00.range (b:=b) (r:=r) (n:=(l.length:Int)) (by omega) (by omega)
 have hP:z00.P b r (l.length:Int)=true:=h
 simp only[Z0]
 rw[ct hP,ct (ze5 hr.1 hr.2)]
 rfl⟩
end z26
end
end Go.Fw
namespace Go.Fw
section
variable {ρ : Type}
namespace z32
def P(b:List Int)(r:Int×Int)(m:Int×Int×List Int):Bool:=z1z b r&&z3i m
def odd5:List Int:=[1,(-1),99,100,5]
def once(b:List Int)(r:Int×Int):(Int×Int)×Bool:=z0i.g b r 10
def zg0(b:List Int)(r:Int×Int):(Int×Int)×Int:=z00.g b (once b r).1 5
def z9i(b:List Int)(r:Int×Int)(m:Int×Int×List Int):(Int×Int)×Int:=z00.g b (zg0 b r).1 (m.2.2.length:Int)
def g(b:List Int)(r:Int×Int)(m:Int×Int×List Int):(Int×Int)×(Int×Int×List Int) :=
 if(once b r).2=false then((once b r).1,m)else
 if(zg0 b r).2=0 then((zg0 b r).1,(m.1,w64 (m.2.1+1),m.2.2))else
 if(zg0 b r).2=1 then((z00.g b (zg0 b r).1 3).1,(w64 (w64 (m.1+(z00.g b (zg0 b r).1 3).2)-1),m.2.1,m.2.2))else
 if(zg0 b r).2=2 then((zg0 b r).1,(m.1,m.2.1,m.2.2++[0]))else
 if(zg0 b r).2=3 then((z26.g b (z9i b r m).1 odd5).1,(m.1,m.2.1,m.2.2.set (z9i b r m).2.toNat (z26.g b (z9i b r m).1 odd5).2))else
 ((zg0 b r).1,(m.1,m.2.1,m.2.2.set 0 1))
end z32
namespace z32
def Z0{ρ:Type}(N:Nat)(b0:List Int)(r0:Int×Int)(a:MT)(kr:LI->I2 (List Int->I2 (Option ρ))):Option ρ :=
 let x2_:=(z0m.g a)
 let x6_:=(z0i.g b0 r0 10)
 let x1_:=(z00.g b0 x6_.1 5)
 let x3_:=(z00.g b0 x1_.1 (x2_.2.2.length:Int))
 let x4_:=(lk N (z00.P b0 x1_.1 (x2_.2.2.length:Int)))
 let x5_:=(z26.g b0 x3_.1 ([1,(-1),99,100,5]:List Int))
 let x0_:=(
   cond (lk N (z26.P b0 x3_.1 ([1,(-1),99,100,5]:List Int))) (
   cond (lk N (inB x3_.2 x2_.2.2.length)) (
   kr (x2_.2.2.set x3_.2.toNat x5_.2) x2_.1 x2_.2.1 b0 x5_.1.1 x5_.1.2) none) none)
 cond (lk N (z0i.P b0 r0 10)) (
 cond (!(lk N (x6_.2)))
 (
 kr a.2.2 a.1 a.2.1 b0 x6_.1.1 x6_.1.2)
 (
 cond (lk N (z0m.P a)) (
 cond (lk N (z00.P b0 x6_.1 5)) (
 cond (lk N (decide (x1_.2=0)))
 (
 kr x2_.2.2 x2_.1 (w64 (x2_.2.1+1)) b0 x1_.1.1 x1_.1.2)
 (
 cond (lk N (decide (x1_.2=1)))
 (
 bo (
 cond (lk N (z00.P b0 x1_.1 3)) (
 kr x2_.2.2 (w64 ((w64 (x2_.1+(z00.g b0 x1_.1 3).2))-1)) x2_.2.1 b0 (z00.g b0 x1_.1 3).1.1 (z00.g b0 x1_.1 3).1.2) none))
 (
 cond (lk N (decide (x1_.2=2)))
 (
 cond (lk N (Nat.blt (x2_.2.2.length+([0]:List Int).length) 1099511627776)) (
 kr (x2_.2.2++([0]:List Int)) x2_.1 x2_.2.1 b0 x1_.1.1 x1_.1.2) none)
 (
 cond (lk N (decide (x1_.2=3)))
 (
 z6d (
 bo (
 cond x4_ x0_ none))
 (
 z6d (
 cond x4_ (
 z6d x0_
 (
 bo x0_)) none)
 (
 z6d (
 cond x4_ x0_ none)
 (
 cond x4_ (
 bo x0_) none))))
 (
 cond (lk N (inB 0 x2_.2.2.length)) (
 kr (x2_.2.2.set 0 1) x2_.1 x2_.2.1 b0 x1_.1.1 x1_.1.2) none))))) none) none)) none
def Spec:Prop:=∀{U:Type} (u:U) (b0:List Int) (r0:Int×Int) (v1:MT),Ty.bd (.sl 0 (.int .u8)) b0->Ty.bd (.pair (.int .i64) (.pair (.int .i64) (.sl 0 (.int .i64)))) v1->P b0 r0 v1=true->∃N0,∀N,N0<=N->Z0 N b0 r0 v1 (λv4_2 v4_0 v4_1 w0_0 w0_1 w0_2=>some (u,((w0_1,w0_2),((),((v4_0,(v4_1,v4_2)),())))))=some (u,((g b0 r0 v1).1,((),((g b0 r0 v1).2,()))))
def ok:Spec:=λu b r m hb hbm hp=>⟨0,λN hN=>by
 simp only[P,Bool.and_eq_true]at hp
 obtain⟨h,hd⟩:=hp
 obtain⟨n,q,hn,hq,hn1,hn5,hnq,hq8,hl⟩:=z12 hd
 have hq1:1*1<=q*n:=Nat.mul_le_mul (by omega) hn1
 have hq2:q*n<=8*5:=Nat.mul_le_mul hq8 hn5
 have h0:z1z b (once b r).1=true:=z0i.keep h
 have h1:z1z b (zg0 b r).1=true:=z00.keep h0
 have p0:z0i.P b r 10=true:=h
 have pc:z0m.P m=true:=by
  simp only[z0m.P,z2y.P,decide_eq_true_eq]
  omega
 have p1:z00.P b (once b r).1 5=true:=h0
 have p2:z00.P b (zg0 b r).1 3=true:=h1
 have p3:z00.P b (zg0 b r).1 (m.2.2.length:Int)=true:=h1
 have h3:z1z b (z9i b r m).1=true:=z00.keep h1
 have p4:z26.P b (z9i b r m).1 odd5=true:=by
  simp only[z26.P,h3,Bool.true_and]
  rfl
 have hr:=z00.range (b:=b) (r:=(zg0 b r).1) (n:=(m.2.2.length:Int)) (by omega) (by omega)
 have i1:inB (z9i b r m).2 m.2.2.length=true:=ze5 hr.1 hr.2
 have i0:inB 0 m.2.2.length=true:=z1g (j:=0) (by omega)
 have c1:Nat.blt (m.2.2.length+([0]:List Int).length) 1099511627776=true:=Nat.ble_eq_true_of_le (by rw[List.length_singleton];omega)
 have e0:z0i.g b r 10=once b r:=rfl
 have e1:z00.g b (once b r).1 5=zg0 b r:=rfl
 have e2:z00.g b (zg0 b r).1 (m.2.2.length:Int)=z9i b r m:=rfl
 have e3:([1,(-1),99,100,5]:List Int)=odd5:=rfl
 simp only[Z0,z1t,p0,e0,pc,p1,e1,p2,p3,e2,e3,p4,i1,i0,c1,cond_true,bo,z30]
 unfold g
 cases(once b r).2
 ·rw[if_pos rfl];rfl
 rw[if_neg (by simp)]
 by_cases k0:(zg0 b r).2=0
 ·rw[if_pos k0,dt k0];rfl
 rw[if_neg k0,df k0]
 by_cases k1:(zg0 b r).2=1
 ·rw[if_pos k1,dt k1];rfl
 rw[if_neg k1,df k1]
 by_cases k2:(zg0 b r).2=2
 ·rw[if_pos k2,dt k2];rfl
 rw[if_neg k2,df k2]
 by_cases k3:(zg0 b r).2=3
 ·rw[if_pos k3,dt k3];rfl
 rw[if_neg k3,df k3]
 rfl⟩
end z32
end
end Go.Fw
namespace Go.Fw
section
variable {ρ : Type}
namespace z0q
def mat(b:List Int):(Int×Int)×(Int×Int×List Int):=z0b.g b (z05.g b (z08.g b)).1 (z05.g b (z08.g b)).2
def g(b:List Int):Int×Int×List Int:=(z32.g b (mat b).1 (mat b).2).2
end z0q
namespace z0q
def Z0{ρ:Type}(N:Nat)(a:List Int)(kr:LI->I2 (Option ρ)):Option ρ :=
 cond (lk N (z05.P a (z08.g a))) (
  cond (lk N (z0b.P a (z05.g a (z08.g a)).1 (z05.g a (z08.g a)).2)) (
   cond (lk N (z32.P a (z0b.g a (z05.g a (z08.g a)).1 (z05.g a (z08.g a)).2).1 (z0b.g a (z05.g a (z08.g a)).1 (z05.g a (z08.g a)).2).2)) (
    kr (z32.g a (z0b.g a (z05.g a (z08.g a)).1 (z05.g a (z08.g a)).2).1 (z0b.g a (z05.g a (z08.g a)).1 (z05.g a (z08.g a)).2).2).2.2.2 (z32.g a (z0b.g a (z05.g a (z08.g a)).1 (z05.g a (z08.g a)).2).1 (z0b.g a (z05.g a (z08.g a)).1 (z05.g a (z08.g a)).2).2).2.1 (z32.g a (z0b.g a (z05.g a (z08.g a)).1 (z05.g a (z08.g a)).2).1 (z0b.g a (z05.g a (z08.g a)).1 (z05.g a (z08.g a)).2).2).2.2.1) none) none) none
def Spec:Prop:=∀ (v0:List Int),Ty.bd (.sl 0 (.int .u8)) v0->∃N0,∀N,N0<=N->Z0 N v0 (λv2_2 v2_0 v2_1=>some ((),((v2_0,(v2_1,v2_2)),())))=some ((),((g v0),()))
def cur0{b:List Int}(h:b.length<=maxLen):z1z b (z08.g b)=true:=by
 rw[z8k]
 exact⟨Int.le_refl 0,by show(0:Int)<=_;omega,h⟩
def ok:Spec:=λb hb=>⟨0,λN hN=>by
 have h0:=cur0 hb.1
 obtain⟨h1,d1,n4,hsq⟩:=z05.facts h0
 have p1:z05.P b (z08.g b)=true:=h0
 have h6:(z05.g b (z08.g b)).2.2.1<=6:=by omega
 have p2:z0b.P b (z05.g b (z08.g b)).1 (z05.g b (z08.g b)).2=true:=by
  simp only[z0b.P,Bool.and_eq_true,decide_eq_true_eq]
  exact⟨h1,d1,h6⟩
 have p3:z32.P b (mat b).1 (mat b).2=true:=by
  simp only[z32.P,Bool.and_eq_true]
  exact⟨z0b.keep h1,z0b.dim h1 d1 h6⟩
 have e1:z0b.g b (z05.g b (z08.g b)).1 (z05.g b (z08.g b)).2=mat b:=rfl
 simp only[Z0,z1t,p1,p2,e1,p3,cond_true]
 rfl⟩
end z0q
end
end Go.Fw
namespace Go.Fw
section
variable {ρ : Type}
namespace z11
def g(l:List Int):ByteArray:=z2l l
def P(l:List Int):Bool:=zmy l
end z11
namespace z11
def Z1{ρ:Type}(N:Nat)(a:LI)(kn:LI->Option ρ):Option ρ :=
 kn a
def Z3{ρ:Type}(N:Nat)(a:LI)(kn:LI->ByteArray->Option ρ):Option ρ :=
 kn a ByteArray.empty
def Z6{ρ:Type}(N:Nat)(a:LI)(b:ByteArray)(kn:LI->ByteArray->Int->Option ρ):Option ρ :=
 kn a b 0
def Z9{ρ:Type}(N:Nat)(b:LI)(c:ByteArray)(a:Int)(kn:LI->ByteArray->Int->Option ρ)(k0:ByteArray->Option ρ):Option ρ :=
 cond (lk N (decide (a<(b.length:Int))))
 (
  cond (lk N (decide (0<a)))
  (
   cond (Nat.blt (c.size+(⟨#[32]⟩:ByteArray).size) 4611686018427387904) (
    cond (lk N (inB a b.length)) (
     cond (lk N (z0a.P (b.getD a.toNat 0))) (
      cond (Nat.blt ((c++(⟨#[32]⟩:ByteArray)).size+(z0a.g (b.getD a.toNat 0)).size) 4611686018427387904) (
       kn b ((c++(⟨#[32]⟩:ByteArray))++(z0a.g (b.getD a.toNat 0))) (w64 (a+1))) none) none) none) none)
  (
   cond (lk N (inB a b.length)) (
    cond (lk N (z0a.P (b.getD a.toNat 0))) (
     cond (Nat.blt (c.size+(z0a.g (b.getD a.toNat 0)).size) 4611686018427387904) (
      kn b (c++(z0a.g (b.getD a.toNat 0))) (w64 (a+1))) none) none) none))
 (
  k0 c)
def Z8L{ρ:Type}(N:Nat)(k0:ByteArray->Option ρ):Nat->LI->ByteArray->Int->Option ρ
 | 0,_,_,_=>none
 | M+1,a,b,c=>Z9 N a b c (λa b c=>Z8L N k0 M a b c) k0
def Z8 N a b c k0:=(Z8L N k0 N a b c:Option ρ)
def Z7 N a b c kn:=(Z8 N a b c kn:Option ρ)
def Z5 N a b kn:=(Z6 N a b (λa b c=>Z7 N a b c kn):Option ρ)
def Z10{ρ:Type}(N:Nat)(a:ByteArray)(kr:ByteArray->Option ρ):Option ρ :=
 kr a
def Z4 N b a kr:=(Z5 N b a (λa=>Z10 N a kr):Option ρ)
def Z2 N a kr:=(Z3 N a (λa b=>Z4 N a b kr):Option ρ)
def Z0 N a kr:=(Z1 N a (λa=>Z2 N a kr):Option ρ)
def Spec:Prop:=∀ (v0:LI),Ty.bd (.sl 0 (.int .i64)) v0->P v0=true->∃N0,∀N,N0<=N->Z0 N v0 (λv2=>some ((),(v2,())))=some ((),((g v0),()))
def loop{ρ:Type}{N:Nat}(k0:ByteArray->Option ρ){l:List Int}(hp:zmy l=true):∀(M j:Nat),j<=l.length->l.length-j<M->Z8L N k0 M l (z2l (l.take j)) (j:Int)=k0 (z2l l):=by
 simp only[zmy,Bool.and_eq_true,decide_eq_true_eq]at hp
 intro M
 induction M with
 | zero=>intro j _ h;omega
 | succ M ih =>
  intro j hj hM
  simp only[Z8L,Z9]
  by_cases h:j<l.length
  ·have hi:zf0 (l.getD j 0)=true:=List.all_eq_true.1 hp.2 _ (z1l 0 h)
   have h1:z0a.P (l.getD j 0)=true:=hi
   have h2:z0a.g (l.getD j 0)=z3m (l.getD j 0):=rfl
   have hsz:=zp7 hi
   have hall:(l.take j).all zf0=true:=List.all_eq_true.2 λx hx=>List.all_eq_true.1 hp.2 x (List.mem_of_mem_take hx)
   have hlen:=zay hall
   have hs:(z2l (l.take j)).size<=22*j:=by
    have e:(z2l (l.take j)).size=(z2k (l.take j)).length:=by simp[z2l,ByteArray.size]
    rw[List.length_take]at hlen
    omega
   have e1:(⟨#[32]⟩:ByteArray).size=1:=rfl
   have e3:z2l (l.take j)++(⟨#[32]⟩:ByteArray)=⟨(z2k (l.take j)++[32]).toArray⟩:=zo5 _ [32]
   rw[ct (dt (by omega)),z1d (by rw[z0y];omega),Int.toNat_natCast]
   by_cases h0:j=0
   ·subst h0
    rw[cf (df (by omega)),ct (z1g h),ct h1,h2,ct' (show Nat.blt ((z2l (l.take 0)).size+(z3m (l.getD 0 0)).size) 4611686018427387904=true from Nat.ble_eq_true_of_le (by omega))]
    have e:z2l (l.take 0)++z3m (l.getD 0 0)=z2l (l.take (0+1)):=by
     rw[<-z55 0 h,List.take_zero,List.nil_append]
     show(⟨([]:List UInt8).toArray⟩:ByteArray)++⟨(Lib.itoa (l.getD 0 0)).toArray⟩=⟨(z2k [l.getD 0 0]).toArray⟩
     rw[zo5,zjl,List.nil_append]
    rw[e]
    exact ih 1 h (by omega)
   ·have hne:l.take j≠[]:=λe=>by
     have:=congrArg List.length e
     rw[List.length_take,List.length_nil]at this
     omega
    have hs2:(z2l (l.take j)++(⟨#[32]⟩:ByteArray)).size<=22*j+1:=by
     rw[ByteArray.size_append,e1]
     omega
    rw[ct (dt (by omega)),ct' (show Nat.blt ((z2l (l.take j)).size+(⟨#[32]⟩:ByteArray).size) 4611686018427387904=true from Nat.ble_eq_true_of_le (by omega)),ct (z1g h),ct h1,h2,
     ct' (show Nat.blt ((z2l (l.take j)++(⟨#[32]⟩:ByteArray)).size+(z3m (l.getD j 0)).size) 4611686018427387904=true from Nat.ble_eq_true_of_le (by omega))]
    have e:z2l (l.take j)++(⟨#[32]⟩:ByteArray)++z3m (l.getD j 0)=z2l (l.take (j+1)):=by
     rw[e3,<-z55 0 h]
     show _++(⟨(Lib.itoa (l.getD j 0)).toArray⟩:ByteArray)=⟨(z2k (l.take j++[l.getD j 0])).toArray⟩
     rw[zo5,zg2 hne]
    rw[e]
    exact ih (j+1) h (by omega)
  ·rw[cf (df (by omega)),List.take_of_length_le (by omega)]
def ok:Spec:=λl hb hp=>⟨l.length+1,λN hN=>by
 simp only[Z1,Z3,Z6,Z9,Z8,Z7,Z5,Z10,Z4,Z2,Z0]
 exact loop (λs3=>some ((),(s3,()))) hp N 0 (Nat.zero_le _) (by omega)⟩
end z11
end
end Go.Fw
namespace Go.Fw
section
variable {ρ : Type}
namespace z0o
def g(m:Int×Int×List Int):ByteArray:=if(z23 m&&!decide (z3u m=[]))=true then z9w m else ByteArray.empty
end z0o
namespace z0o
def Z1{ρ:Type}(N:Nat)(a:MT)(kn:I2 (LI->Option ρ)):Option ρ :=
 kn a.1 a.2.1 a.2.2
def Z3{ρ:Type}(N:Nat)(a b:Int)(c:LI)(kn:I2 (LI->Option ρ))(kr:ByteArray->Option ρ):Option ρ :=
 cond (!(lk N ((z1y.g (a,(b,c))))))
 (
  kr ByteArray.empty)
 (
  kn a b c)
def Z5{ρ:Type}(N:Nat)(a b:Int)(c:LI)(kn:ByteArray->I2 (LI->Option ρ)):Option ρ :=
 kn ByteArray.empty a b c
def Z8{ρ:Type}(N:Nat)(a:ByteArray)(b c:Int)(d:LI)(kn:ByteArray->I3 (LI->Option ρ)):Option ρ :=
 kn a 0 b c d
def Z11{ρ:Type}(N:Nat)(d:ByteArray)(b a e:Int)(c:LI)(kn:ByteArray->I3 (LI->Option ρ))(k0:ByteArray->Option ρ):Option ρ :=
 cond (lk N (decide (b<e)))
 (
  cond (lk N (decide (0<b)))
  (
   cond (Nat.blt (d.size+(⟨#[59,32]⟩:ByteArray).size) 4611686018427387904) (
    cond (lk N (leB 0 (w64 (b*a))&&(leB (w64 (b*a)) (w64 ((w64 (b*a))+a))&&leB (w64 ((w64 (b*a))+a)) c.length))) (
     cond (lk N (z11.P ((c.drop (w64 (b*a)).toNat).take ((w64 ((w64 (b*a))+a))-(w64 (b*a))).toNat))) (
      cond (Nat.blt ((d++(⟨#[59,32]⟩:ByteArray)).size+(z11.g ((c.drop (w64 (b*a)).toNat).take ((w64 ((w64 (b*a))+a))-(w64 (b*a))).toNat)).size) 4611686018427387904) (
       kn ((d++(⟨#[59,32]⟩:ByteArray))++(z11.g ((c.drop (w64 (b*a)).toNat).take ((w64 ((w64 (b*a))+a))-(w64 (b*a))).toNat))) (w64 (b+1)) a e c) none) none) none) none)
  (
   cond (lk N (leB 0 (w64 (b*a))&&(leB (w64 (b*a)) (w64 ((w64 (b*a))+a))&&leB (w64 ((w64 (b*a))+a)) c.length))) (
    cond (lk N (z11.P ((c.drop (w64 (b*a)).toNat).take ((w64 ((w64 (b*a))+a))-(w64 (b*a))).toNat))) (
     cond (Nat.blt (d.size+(z11.g ((c.drop (w64 (b*a)).toNat).take ((w64 ((w64 (b*a))+a))-(w64 (b*a))).toNat)).size) 4611686018427387904) (
      kn (d++(z11.g ((c.drop (w64 (b*a)).toNat).take ((w64 ((w64 (b*a))+a))-(w64 (b*a))).toNat))) (w64 (b+1)) a e c) none) none) none))
 (
  k0 d)
def Z10L{ρ:Type}(N:Nat)(k0:ByteArray->Option ρ):Nat->ByteArray->Int->Int->Int->LI->Option ρ
 | 0,_,_,_,_,_=>none
 | M+1,a,b,c,d,e=>Z11 N a b c d e (λa b c d e=>Z10L N k0 M a b c d e) k0
def Z10 N a b c d e k0:=(Z10L N k0 N a b c d e:Option ρ)
def Z9 N a b c d e kn:=(Z10 N a b c d e kn:Option ρ)
def Z7 N a b c d kn:=(Z8 N a b c d (λa e b c d=>Z9 N a e b c d kn):Option ρ)
def Z12{ρ:Type}(N:Nat)(a:ByteArray)(kr:ByteArray->Option ρ):Option ρ :=
 kr a
def Z6 N a b c d kr:=(Z7 N a b c d (λa=>Z12 N a kr):Option ρ)
def Z4 N a b c kr:=(Z5 N a b c (λd a b c=>Z6 N d a b c kr):Option ρ)
def Z2 N a b c kr:=(Z3 N a b c (λa b c=>Z4 N a b c kr) kr:Option ρ)
def Z0 N a kr:=(Z1 N a (λb c d=>Z2 N b c d kr):Option ρ)
def Spec:Prop:=∀ (v0:MT),Ty.bd (.pair (.int .i64) (.pair (.int .i64) (.sl 0 (.int .i64)))) v0->∃N0,∀N,N0<=N->Z0 N v0 (λv2=>some ((),(v2,())))=some ((),((g v0),()))
def loop{ρ:Type}{N:Nat}{m:Int×Int×List Int}(hs:z0t m=true)(k0:ByteArray->Option ρ):∀(M j:Nat),j<=m.2.1.toNat->m.2.1.toNat-j<M ->
  Z10L N k0 M (txt (Lib.join ((z5x m).take j) [59,32])) (j:Int) m.1 m.2.1 m.2.2=k0 (z9w m):=by
 have hs':=hs
 simp only[z0t,Bool.and_eq_true]at hs'
 obtain⟨n,r,hn,hr,hn1,hn5,hnr,hr8,hl⟩:=z12 hs'.1
 intro M
 induction M with
 | zero=>intro j _ h;omega
 | succ M ih =>
  intro j hj hM
  simp only[Z10L,Z11]
  by_cases h:j<m.2.1.toNat
  ·have hjn:j*n<=8*5:=Nat.mul_le_mul (by omega) hn5
   have e1:w64 ((j:Int)*m.1)=((j*n:Nat):Int):=by rw[hn,<-Int.natCast_mul];exact z1c (by omega) (by omega)
   have e2:w64 (((j*n:Nat):Int)+m.1)=((j*n+n:Nat):Int):=by rw[hn,z1c (by omega) (by omega)];omega
   have hlt:j*n+n<=m.2.2.length:=by
    have:=Nat.mul_le_mul_right n (show j+1<=r by omega)
    rw[Nat.add_mul,Nat.one_mul]at this
    rw[hl]
    exact this
   have hc:(leB 0 ((j*n:Nat):Int)&&(leB ((j*n:Nat):Int) ((j*n+n:Nat):Int)&&leB ((j*n+n:Nat):Int) m.2.2.length))=true:=by rw[zbd (by omega),zbd (by omega),zbd (by omega)];rfl
   have hrow:(m.2.2.drop (j*n)).take (((j*n+n:Nat):Int)-((j*n:Nat):Int)).toNat=zb7 m j:=by
    unfold zb7
    rw[show m.1.toNat=n by omega,show(((j*n+n:Nat):Int)-((j*n:Nat):Int)).toNat=n by omega]
   have hP:z11.P (zb7 m j)=true:=zl9 hs j
   have hg:z11.g (zb7 m j)=txt (z2k (zb7 m j)):=rfl
   have hlen:=zmz hs j
   have hpl:=zn3 hs j
   have hj8:112*j<=112*8:=Nat.mul_le_mul_left _ (by omega)
   have e3:(⟨#[59,32]⟩:ByteArray)=txt [59,32]:=rfl
   rw[ct (dt (by omega)),e1,e2,Int.toNat_natCast,hrow,hg,e3]
   by_cases h0:j=0
   ·subst h0
    have e4:txt (Lib.join ((z5x m).take 0) [59,32])++txt (z2k (zb7 m 0))=txt (Lib.join ((z5x m).take (0+1)) [59,32]):=by
     rw[zl2,<-z55 [] (by rw[z86];exact h),zis h,List.take_zero,List.nil_append,Lib.join_one,Lib.join_nil,List.nil_append]
    rw[cf (df (by omega)),ct hc,ct hP,ct' (show Nat.blt ((txt (Lib.join ((z5x m).take 0) [59,32])).size+(txt (z2k (zb7 m 0))).size) 4611686018427387904=true from Nat.ble_eq_true_of_le (by rw[z5w,z5w];omega)),
     e4,z1d (by rw[z0y];omega)]
    exact ih 1 h (by omega)
   ·have hne:(z5x m).take j≠[]:=λe=>by
     have:=congrArg List.length e
     rw[List.length_take,z86,List.length_nil]at this
     omega
    have e4:txt (Lib.join ((z5x m).take j) [59,32])++txt [59,32]++txt (z2k (zb7 m j))=txt (Lib.join ((z5x m).take (j+1)) [59,32]):=by
     rw[zl2,zl2,<-z55 [] (by rw[z86];exact h),zis h,zrz hne]
    rw[ct (dt (by omega)),ct' (show Nat.blt ((txt (Lib.join ((z5x m).take j) [59,32])).size+(txt [59,32]).size) 4611686018427387904=true from Nat.ble_eq_true_of_le (by rw[z5w,z5w];simp;omega)),ct hc,ct hP,
     ct' (show Nat.blt ((txt (Lib.join ((z5x m).take j) [59,32])++txt [59,32]).size+(txt (z2k (zb7 m j))).size) 4611686018427387904=true from Nat.ble_eq_true_of_le (by rw[ByteArray.size_append,z5w,z5w,z5w];simp;omega)),
     e4,z1d (by rw[z0y];omega)]
    exact ih (j+1) h (by omega)
  ·rw[cf (df (by omega)),List.take_of_length_le (by rw[z86];omega)]
   rfl
def ok:Spec:=λm hb=>⟨100,λN hN=>by
 have e0:z1y.g (m.1,(m.2.1,m.2.2))=(z23 m&&!decide (z3u m=[])):=rfl
 simp only[Z0,Z1,Z2,Z3,e0,z1t,g]
 cases h1:(z23 m&&!decide (z3u m=[]))
 ·rfl
 have hs:z0t m=true:=by
  simp only[Bool.and_eq_true]at h1
  exact z1m h1.1
 obtain⟨n,r,hn,hr,hn1,hn5,hnr,hr8,hl⟩:=z12 (z1r hs)
 simp only[Bool.not_true,cond_false,Z4,Z5,Z6,Z7,Z8,Z9,Z10]
 exact loop hs (λs3=>Z12 N s3 (λt2=>some ((),(t2,())))) N 0 (Nat.zero_le _) (by omega)⟩
end z0o
end
end Go.Fw
namespace Go.Fw
section
variable {ρ : Type}
namespace z2i
def P(b:List Int)(r:Int×Int)(l:List ByteArray):Bool:=z1z b r&&(decide (1<=l.length)&&decide (l.length<=256))
def g(b:List Int)(r:Int×Int)(l:List ByteArray):(Int×Int)×ByteArray:=((z00.g b r (l.length:Int)).1,l.getD (z00.g b r (l.length:Int)).2.toNat ByteArray.empty)
end z2i
namespace z2i
def Z0{ρ:Type}(N:Nat)(b0:List Int)(r0:Int×Int)(a:List ByteArray)(kr:ByteArray->List Int->I2 (Option ρ)):Option ρ :=
 cond (lk N (z00.P b0 r0 (a.length:Int))) (
  cond (lk N (inB (z00.g b0 r0 (a.length:Int)).2 a.length)) (
   kr (a.getD (z00.g b0 r0 (a.length:Int)).2.toNat ByteArray.empty) b0 (z00.g b0 r0 (a.length:Int)).1.1 (z00.g b0 r0 (a.length:Int)).1.2) none) none
def Spec:Prop:=∀{U:Type} (u:U) (b0:List Int) (r0:Int×Int) (v1:List ByteArray),Ty.bd (.sl 0 (.int .u8)) b0->Ty.bd (.sl 0 (.str)) v1->P b0 r0 v1=true->∃N0,∀N,N0<=N->Z0 N b0 r0 v1 (λv4 w0_0 w0_1 w0_2=>some (u,((w0_1,w0_2),((),(v4,())))))=some (u,((g b0 r0 v1).1,((),((g b0 r0 v1).2,()))))
def ok:Spec:=λu b r l hb hbl hp=>⟨0,λN hN=>by
 simp only[P,Bool.and_eq_true,decide_eq_true_eq]at hp
 obtain⟨h,h1,h2⟩:=hp
 have hr:=z00.range (b:=b) (r:=r) (n:=(l.length:Int)) (by omega) (by omega)
 have hP:z00.P b r (l.length:Int)=true:=h
 simp only[Z0]
 rw[ct hP,ct (ze5 hr.1 hr.2)]
 rfl⟩
end z2i
end
end Go.Fw
namespace Go.Fw
section
variable {ρ : Type}
namespace z14
def mat(b:List Int):(Int×Int)×(Int×Int×List Int):=z0b.g b (z05.g b (z08.g b)).1 (z05.g b (z08.g b)).2
def zl4:List ByteArray:=[(⟨#[59]⟩:ByteArray),(⟨#[59,32,48]⟩:ByteArray),(⟨#[32]⟩:ByteArray),(⟨#[59,32,49,32,50,32,51]⟩:ByteArray),(⟨#[120]⟩:ByteArray),(⟨#[32,49]⟩:ByteArray)]
def once(b:List Int):(Int×Int)×Bool:=z0i.g b (mat b).1 4
def g(b:List Int):ByteArray:=if(once b).2=true then z0o.g (mat b).2++(z2i.g b (once b).1 zl4).2 else z0o.g (mat b).2
end z14
namespace z14
def Z0{ρ:Type}(N:Nat)(a:List Int)(kr:ByteArray->Option ρ):Option ρ :=
 cond (lk N (z05.P a (z08.g a))) (
  cond (lk N (z0b.P a (z05.g a (z08.g a)).1 (z05.g a (z08.g a)).2)) (
   cond (lk N (z0i.P a (z0b.g a (z05.g a (z08.g a)).1 (z05.g a (z08.g a)).2).1 4)) (
    cond (lk N ((z0i.g a (z0b.g a (z05.g a (z08.g a)).1 (z05.g a (z08.g a)).2).1 4).2))
    (
     cond (lk N (z2i.P a (z0i.g a (z0b.g a (z05.g a (z08.g a)).1 (z05.g a (z08.g a)).2).1 4).1 ([(⟨#[59]⟩:ByteArray),(⟨#[59,32,48]⟩:ByteArray),(⟨#[32]⟩:ByteArray),(⟨#[59,32,49,32,50,32,51]⟩:ByteArray),(⟨#[120]⟩:ByteArray),(⟨#[32,49]⟩:ByteArray)]:List ByteArray))) (
      cond (Nat.blt ((z0o.g (z0b.g a (z05.g a (z08.g a)).1 (z05.g a (z08.g a)).2).2).size+(z2i.g a (z0i.g a (z0b.g a (z05.g a (z08.g a)).1 (z05.g a (z08.g a)).2).1 4).1 ([(⟨#[59]⟩:ByteArray),(⟨#[59,32,48]⟩:ByteArray),(⟨#[32]⟩:ByteArray),(⟨#[59,32,49,32,50,32,51]⟩:ByteArray),(⟨#[120]⟩:ByteArray),(⟨#[32,49]⟩:ByteArray)]:List ByteArray)).2.size) 4611686018427387904) (
       kr ((z0o.g (z0b.g a (z05.g a (z08.g a)).1 (z05.g a (z08.g a)).2).2)++(z2i.g a (z0i.g a (z0b.g a (z05.g a (z08.g a)).1 (z05.g a (z08.g a)).2).1 4).1 ([(⟨#[59]⟩:ByteArray),(⟨#[59,32,48]⟩:ByteArray),(⟨#[32]⟩:ByteArray),(⟨#[59,32,49,32,50,32,51]⟩:ByteArray),(⟨#[120]⟩:ByteArray),(⟨#[32,49]⟩:ByteArray)]:List ByteArray)).2)) none) none)
    (
     kr (z0o.g (z0b.g a (z05.g a (z08.g a)).1 (z05.g a (z08.g a)).2).2))) none) none) none
def Spec:Prop:=∀ (v0:List Int),Ty.bd (.sl 0 (.int .u8)) v0->∃N0,∀N,N0<=N->Z0 N v0 (λv2=>some ((),(v2,())))=some ((),((g v0),()))
def cur0{b:List Int}(h:b.length<=maxLen):z1z b (z08.g b)=true:=by
 rw[z8k]
 exact⟨Int.le_refl 0,by show(0:Int)<=_;omega,h⟩
def fmt_sz(m:Int×Int×List Int):(z0o.g m).size<=1000:=by
 unfold z0o.g
 split
 ·rename_i h
  simp only[Bool.and_eq_true]at h
  have hs:=z1m h.1
  obtain⟨n,r,hn,hr,hn1,hn5,hnr,hr8,hl⟩:=z12 (z1r hs)
  have:=zn3 hs m.2.1.toNat
  rw[List.take_of_length_le (by rw[z86];omega)]at this
  show(txt (Lib.join (z5x m) [59,32])).size<=1000
  rw[z5w]
  omega
 ·exact Nat.zero_le _
def zr2(b:List Int)(r:Int×Int):(z2i.g b r zl4).2.size<=7:=by
 unfold z2i.g
 generalize(z00.g b r (zl4.length:Int)).2.toNat=i
 show(zl4.getD i ByteArray.empty).size<=7
 match i with
 | 0=>decide
 | 1=>decide
 | 2=>decide
 | 3=>decide
 | 4=>decide
 | 5=>decide
 | i+6=>exact Nat.zero_le _
def g_sz(b:List Int):(g b).size<=1007:=by
 unfold g
 have h1:=fmt_sz (mat b).2
 have h2:=zr2 b (once b).1
 split
 ·rw[ByteArray.size_append];omega
 ·omega
def ok:Spec:=λb hb=>⟨0,λN hN=>by
 have h0:=cur0 hb.1
 obtain⟨h1,d1,n4,hsq⟩:=z05.facts h0
 have p1:z05.P b (z08.g b)=true:=h0
 have h6:(z05.g b (z08.g b)).2.2.1<=6:=by omega
 have p2:z0b.P b (z05.g b (z08.g b)).1 (z05.g b (z08.g b)).2=true:=by
  simp only[z0b.P,Bool.and_eq_true,decide_eq_true_eq]
  exact⟨h1,d1,h6⟩
 have c2:z1z b (mat b).1=true:=z0b.keep h1
 have e1:z0b.g b (z05.g b (z08.g b)).1 (z05.g b (z08.g b)).2=mat b:=rfl
 have e2:z0i.g b (mat b).1 4=once b:=rfl
 have p3:z0i.P b (mat b).1 4=true:=c2
 have c3:z1z b (once b).1=true:=z0i.keep c2
 have p4:z2i.P b (once b).1 zl4=true:=by
  simp only[z2i.P,c3,Bool.true_and]
  rfl
 have e3:([(⟨#[59]⟩:ByteArray),(⟨#[59,32,48]⟩:ByteArray),(⟨#[32]⟩:ByteArray),(⟨#[59,32,49,32,50,32,51]⟩:ByteArray),(⟨#[120]⟩:ByteArray),(⟨#[32,49]⟩:ByteArray)]:List ByteArray)=zl4:=rfl
 have s1:=fmt_sz (mat b).2
 have s2:=zr2 b (once b).1
 have c4:Nat.blt ((z0o.g (mat b).2).size+(z2i.g b (once b).1 zl4).2.size) 4611686018427387904=true:=Nat.ble_eq_true_of_le (by omega)
 simp only[Z0,z1t,p1,p2,e1,p3,e2,e3,p4,c4,cond_true]
 unfold g
 cases(once b).2
 ·rw[if_neg (by simp)];rfl
 ·rw[if_pos rfl];rfl⟩
end z14
end
end Go.Fw
namespace Go.Fw
section
variable {ρ : Type}
namespace strconv_Itoa
def g(n:Int):ByteArray:=z3m n
def P(n:Int):Bool:=zf0 n
end strconv_Itoa
namespace strconv_Itoa
def ok:True:=trivial
end strconv_Itoa
end
end Go.Fw
namespace Go.Fw
section
variable {ρ : Type}
namespace z2h
def g(n:Int):ByteArray:=z3m n
def P(n:Int):Bool:=zf0 n
end z2h
namespace z2h
def Z0{ρ:Type}(N:Nat)(a:Int)(kr:ByteArray->Option ρ):Option ρ :=
 cond (lk N (strconv_Itoa.P a)) (
  kr (strconv_Itoa.g a)) none
def Spec:Prop:=∀ (v0:Int),P v0=true->∃N0,∀N,N0<=N->Z0 N v0 (λv2=>some ((),(v2,())))=some ((),((g v0),()))
def ok:Spec:=λn hp=>⟨0,λN hN=>by
 simp only[Z0]
 rw[ct (show strconv_Itoa.P n=true from hp)]
 rfl⟩
end z2h
end
end Go.Fw
namespace Go.Fw
section
variable {ρ : Type}
namespace strings_Join
def g(xs:List ByteArray)(sep:ByteArray):ByteArray:=⟨(Lib.join (xs.map (·.data.toList)) sep.data.toList).toArray⟩
def P(xs:List ByteArray)(sep:ByteArray):Bool:=Nat.ble xs.length 140737488355328&&Nat.ble (Lib.join (xs.map (·.data.toList)) sep.data.toList).length 140737488355328
end strings_Join
namespace strings_Join
def ok:True:=trivial
end strings_Join
end
end Go.Fw
namespace Go.Fw
section
variable {ρ : Type}
namespace z0z
def g(l:List Int):ByteArray:=z2l l
def P(l:List Int):Bool:=zmy l
end z0z
namespace z0z
def Z1{ρ:Type}(N:Nat)(a:LI)(kn:LI->Option ρ):Option ρ :=
 kn a
def Z3{ρ:Type}(N:Nat)(a:LI)(kn:LI->Option ρ):Option ρ :=
 kn a
def Z6{ρ:Type}(N:Nat)(a:LI)(kn:LI->I2 (Option ρ)):Option ρ :=
 kn a (a.length:Int) 0
def Z9{ρ:Type}(N:Nat)(c:List ByteArray)(b:LI)(d a:Int)(kn:List ByteArray->LI->I2 (Option ρ))(k0:List ByteArray->Option ρ):Option ρ :=
 cond (lk N (decide (a<d)))
 (
  cond (lk N (inB a b.length)) (
   cond (lk N (z2h.P (b.getD a.toNat 0))) (
    cond (lk N (Nat.blt (c.length+([(z2h.g (b.getD a.toNat 0))]:List ByteArray).length) 1099511627776)) (
     kn (c++([(z2h.g (b.getD a.toNat 0))]:List ByteArray)) b d (w64 (a+1))) none) none) none)
 (
  k0 c)
def Z8L{ρ:Type}(N:Nat)(k0:List ByteArray->Option ρ):Nat->List ByteArray->LI->Int->Int->Option ρ
 | 0,_,_,_,_=>none
 | M+1,a,b,c,d=>Z9 N a b c d (λa b c d=>Z8L N k0 M a b c d) k0
def Z8 N a b c k0:=(Z8L N k0 N ([]:List ByteArray) a b c:Option ρ)
def Z7 N a b c kn:=(Z8 N a b c kn:Option ρ)
def Z5 N a kn:=(Z6 N a (λb c d=>Z7 N b c d kn):Option ρ)
def Z10{ρ:Type}(N:Nat)(a:List ByteArray)(kr:ByteArray->Option ρ):Option ρ :=
 cond (lk N (strings_Join.P a (⟨#[32]⟩:ByteArray))) (
  kr (strings_Join.g a (⟨#[32]⟩:ByteArray))) none
def Z4 N a kr:=(Z5 N a (λb=>Z10 N b kr):Option ρ)
def Z2 N a kr:=(Z3 N a (λa=>Z4 N a kr):Option ρ)
def Z0 N a kr:=(Z1 N a (λa=>Z2 N a kr):Option ρ)
def Spec:Prop:=∀ (v0:LI),Ty.bd (.sl 0 (.int .i64)) v0->P v0=true->∃N0,∀N,N0<=N->Z0 N v0 (λv2=>some ((),(v2,())))=some ((),((g v0),()))
def loop{ρ:Type}{N:Nat}(k0:List ByteArray->Option ρ){l:List Int}(hp:zmy l=true):∀(M j:Nat),j<=l.length->l.length-j<M->Z8L N k0 M ((l.take j).map z3m) l (l.length:Int) (j:Int)=k0 (l.map z3m):=by
 simp only[zmy,Bool.and_eq_true,decide_eq_true_eq]at hp
 intro M
 induction M with
 | zero=>intro j _ h;omega
 | succ M ih =>
  intro j hj hM
  simp only[Z8L,Z9]
  by_cases h:j<l.length
  ·have h1:z2h.P (l.getD j 0)=true:=List.all_eq_true.1 hp.2 _ (z1l 0 h)
   have h2:z2h.g (l.getD j 0)=z3m (l.getD j 0):=rfl
   have h3:∀x:ByteArray,Nat.blt (((l.take j).map z3m).length+([x]:List ByteArray).length) 1099511627776=true:=λx=>Nat.ble_eq_true_of_le (by simp;omega)
   rw[ct (dt (by omega)),ct (z1g h),Int.toNat_natCast,ct h1,h2,ct (h3 _),z1d (by rw[z0y];omega)]
   have e:(l.take j).map z3m++[z3m (l.getD j 0)]=(l.take (j+1)).map z3m:=by rw[<-z55 0 h,List.map_append];rfl
   rw[e]
   exact ih (j+1) h (by omega)
  ·rw[cf (df (by omega)),List.take_of_length_le (by omega)]
def ok:Spec:=λl hb hp=>⟨l.length+1,λN hN=>by
 have hp':=hp
 simp only[P,zmy,Bool.and_eq_true,decide_eq_true_eq]at hp'
 simp only[Z1,Z3,Z6,Z9,Z8,Z7,Z5,Z10,Z4,Z2,Z0]
 refine(loop _ hp N 0 (Nat.zero_le _) (by omega)).trans ?_
 have e:((l.map z3m).map (·.data.toList))=l.map Lib.itoa:=by
  rw[List.map_map]
  exact List.map_congr_left λn _=>zbg n
 have hlen:=zay hp'.2
 have e2:(⟨#[32]⟩:ByteArray).data.toList=[32]:=rfl
 have hP:strings_Join.P (l.map z3m) ⟨#[32]⟩=true:=by
  simp only[strings_Join.P,e,e2,Bool.and_eq_true,List.length_map]
  exact⟨Nat.ble_eq_true_of_le (by omega),Nat.ble_eq_true_of_le (show(z2k l).length<=_ by omega)⟩
 have hg:strings_Join.g (l.map z3m) ⟨#[32]⟩=z2l l:=by
  simp only[strings_Join.g,e,e2]
  rfl
 rw[ct hP,hg]
 rfl⟩
end z0z
end
end Go.Fw
namespace Go.Fw
section
variable {ρ : Type}
namespace z1e
def P(rows:List (List Int)):Bool:=decide (rows.length<=1000)&&rows.all λl=>zmy l&&decide (l.length<=1000)
def g(rows:List (List Int)):ByteArray:=txt (Lib.join (rows.map z2k) [59,32])
end z1e
namespace z1e
def Z1{ρ:Type}(N:Nat)(a:LL)(kn:LL->Option ρ):Option ρ :=
 kn a
def Z3{ρ:Type}(N:Nat)(a:LL)(kn:LL->Option ρ):Option ρ :=
 kn a
def Z6{ρ:Type}(N:Nat)(a:LL)(kn:LL->I2 (Option ρ)):Option ρ :=
 kn a (a.length:Int) 0
def Z9{ρ:Type}(N:Nat)(c:List ByteArray)(b:LL)(d a:Int)(kn:List ByteArray->LL->I2 (Option ρ))(k0:List ByteArray->Option ρ):Option ρ :=
 cond (lk N (decide (a<d)))
 (
  cond (lk N (inB a b.length)) (
   cond (lk N (z0z.P (b.getD a.toNat []))) (
    cond (lk N (Nat.blt (c.length+([(z0z.g (b.getD a.toNat []))]:List ByteArray).length) 1099511627776)) (
     kn (c++([(z0z.g (b.getD a.toNat []))]:List ByteArray)) b d (w64 (a+1))) none) none) none)
 (
  k0 c)
def Z8L{ρ:Type}(N:Nat)(k0:List ByteArray->Option ρ):Nat->List ByteArray->LL->Int->Int->Option ρ
 | 0,_,_,_,_=>none
 | M+1,a,b,c,d=>Z9 N a b c d (λa b c d=>Z8L N k0 M a b c d) k0
def Z8 N a b c k0:=(Z8L N k0 N ([]:List ByteArray) a b c:Option ρ)
def Z7 N a b c kn:=(Z8 N a b c kn:Option ρ)
def Z5 N a kn:=(Z6 N a (λb c d=>Z7 N b c d kn):Option ρ)
def Z10{ρ:Type}(N:Nat)(a:List ByteArray)(kr:ByteArray->Option ρ):Option ρ :=
 cond (lk N (strings_Join.P a (⟨#[59,32]⟩:ByteArray))) (
  kr (strings_Join.g a (⟨#[59,32]⟩:ByteArray))) none
def Z4 N a kr:=(Z5 N a (λb=>Z10 N b kr):Option ρ)
def Z2 N a kr:=(Z3 N a (λa=>Z4 N a kr):Option ρ)
def Z0 N a kr:=(Z1 N a (λa=>Z2 N a kr):Option ρ)
def Spec:Prop:=∀ (v0:LL),Ty.bd (.sl 0 (.sl 0 (.int .i64))) v0->P v0=true->∃N0,∀N,N0<=N->Z0 N v0 (λv2=>some ((),(v2,())))=some ((),((g v0),()))
def loop{ρ:Type}{N:Nat}(k0:List ByteArray->Option ρ){l:List (List Int)}(hp:P l=true):∀(M j:Nat),j<=l.length->l.length-j<M->Z8L N k0 M ((l.take j).map z2l) l (l.length:Int) (j:Int)=k0 (l.map z2l):=by
 simp only[P,Bool.and_eq_true,decide_eq_true_eq]at hp
 intro M
 induction M with
 | zero=>intro j _ h;omega
 | succ M ih =>
  intro j hj hM
  simp only[Z8L,Z9]
  by_cases h:j<l.length
  ·have hm:=List.all_eq_true.1 hp.2 _ (z1l (l:=l) [] h)
   rw[Bool.and_eq_true]at hm
   have h1:z0z.P (l.getD j [])=true:=hm.1
   have h2:z0z.g (l.getD j [])=z2l (l.getD j []):=rfl
   have h3:∀x:ByteArray,Nat.blt (((l.take j).map z2l).length+([x]:List ByteArray).length) 1099511627776=true:=λx=>Nat.ble_eq_true_of_le (by simp;omega)
   rw[ct (dt (by omega)),ct (z1g h),Int.toNat_natCast,ct h1,h2,ct (h3 _),z1d (by rw[z0y];omega)]
   have e:(l.take j).map z2l++[z2l (l.getD j [])]=(l.take (j+1)).map z2l:=by rw[<-z55 [] h,List.map_append];rfl
   rw[e]
   exact ih (j+1) h (by omega)
  ·rw[cf (df (by omega)),List.take_of_length_le (by omega)]
def ok:Spec:=λl hb hp=>⟨l.length+1,λN hN=>by
 have hp':=hp
 simp only[P,Bool.and_eq_true,decide_eq_true_eq]at hp'
 simp only[Z1,Z3,Z6,Z9,Z8,Z7,Z5,Z10,Z4,Z2,Z0]
 refine(loop _ hp N 0 (Nat.zero_le _) (by omega)).trans ?_
 have e:((l.map z2l).map (·.data.toList))=l.map z2k:=by
  have h:=map_txt (l.map z2k)
  have h2:(l.map z2k).map txt=l.map z2l:=by
   rw[List.map_map]
   rfl
  rw[h2]at h
  exact h
 have hlen:=zna (B:=22000) (sep:=[59,32]) (xs:=l.map z2k) λx hx=>by
  obtain⟨r,hr,rfl⟩:=List.mem_map.1 hx
  have:=List.all_eq_true.1 hp'.2 r hr
  simp only[zmy,Bool.and_eq_true,decide_eq_true_eq]at this
  have:=zay this.1.2
  omega
 rw[List.length_map]at hlen
 have h22:(22000+([59,32]:List UInt8).length)*l.length<=22002*1000:=Nat.mul_le_mul (by simp) hp'.1
 have e2:(⟨#[59,32]⟩:ByteArray).data.toList=[59,32]:=rfl
 have hP:strings_Join.P (l.map z2l) ⟨#[59,32]⟩=true:=by
  simp only[strings_Join.P,e,e2,Bool.and_eq_true,List.length_map]
  exact⟨Nat.ble_eq_true_of_le (by omega),Nat.ble_eq_true_of_le (by omega)⟩
 have hg:strings_Join.g (l.map z2l) ⟨#[59,32]⟩=g l:=by
  simp only[strings_Join.g,e,e2]
  rfl
 rw[ct hP,hg]⟩
end z1e
end
end Go.Fw
namespace Go.Fw
section
variable {ρ : Type}
namespace z0d
def g(m:Int×Int×List Int):ByteArray:=if(z0t m&&!decide (z3u m=[]))=true then z9w m else ByteArray.empty
end z0d
namespace z0d
def Z1{ρ:Type}(N:Nat)(a:MT)(kn:I2 (LI->Option ρ)):Option ρ :=
 kn a.1 a.2.1 a.2.2
def Z3{ρ:Type}(N:Nat)(a b:Int)(c:LI)(kn:I2 (LI->Option ρ))(kr:ByteArray->Option ρ):Option ρ :=
 cond (!(lk N ((z1o.g (a,(b,c))))))
 (
  kr ByteArray.empty)
 (
  kn a b c)
def Z5{ρ:Type}(N:Nat)(a b:Int)(c:LI)(kn:I2 (LI->Option ρ)):Option ρ :=
 kn a b c
def Z8{ρ:Type}(N:Nat)(a b:Int)(c:LI)(kn:I3 (LI->Option ρ)):Option ρ :=
 kn 0 a b c
def Z11{ρ:Type}(N:Nat)(d:LL)(a b e:Int)(c:LI)(kn:LL->I3 (LI->Option ρ))(k0:LL->Option ρ):Option ρ :=
 cond (lk N (decide (a<e)))
 (
  cond (lk N (leB 0 (w64 (a*b))&&(leB (w64 (a*b)) (w64 ((w64 (a+1))*b))&&leB (w64 ((w64 (a+1))*b)) c.length))) (
   cond (lk N (Nat.blt (d.length+([((c.drop (w64 (a*b)).toNat).take ((w64 ((w64 (a+1))*b))-(w64 (a*b))).toNat)]:List (LI)).length) 1099511627776)) (
    kn (d++([((c.drop (w64 (a*b)).toNat).take ((w64 ((w64 (a+1))*b))-(w64 (a*b))).toNat)]:List (LI))) (w64 (a+1)) b e c) none) none)
 (
  k0 d)
def Z10L{ρ:Type}(N:Nat)(k0:LL->Option ρ):Nat->LL->Int->Int->Int->LI->Option ρ
 | 0,_,_,_,_,_=>none
 | M+1,a,b,c,d,e=>Z11 N a b c d e (λa b c d e=>Z10L N k0 M a b c d e) k0
def Z10 N a b c d k0:=(Z10L N k0 N ([]:List (LI)) a b c d:Option ρ)
def Z9 N a b c d kn:=(Z10 N a b c d kn:Option ρ)
def Z7 N a b c kn:=(Z8 N a b c (λd a b c=>Z9 N d a b c kn):Option ρ)
def Z12{ρ:Type}(N:Nat)(a:LL)(kr:ByteArray->Option ρ):Option ρ :=
 cond (lk N (z1e.P a)) (
  kr (z1e.g a)) none
def Z6 N a b c kr:=(Z7 N a b c (λd=>Z12 N d kr):Option ρ)
def Z4 N a b c kr:=(Z5 N a b c (λa b c=>Z6 N a b c kr):Option ρ)
def Z2 N a b c kr:=(Z3 N a b c (λa b c=>Z4 N a b c kr) kr:Option ρ)
def Z0 N a kr:=(Z1 N a (λb c d=>Z2 N b c d kr):Option ρ)
def Spec:Prop:=∀ (v0:MT),Ty.bd (.pair (.int .i64) (.pair (.int .i64) (.sl 0 (.int .i64)))) v0->∃N0,∀N,N0<=N->Z0 N v0 (λv2=>some ((),(v2,())))=some ((),((g v0),()))
def rows(m:Int×Int×List Int)(j:Nat):List (List Int):=(List.range j).map (zb7 m)
def loop{ρ:Type}{N:Nat}{m:Int×Int×List Int}(hs:z0t m=true)(k0:List (List Int)->Option ρ):∀(M j:Nat),j<=m.2.1.toNat->m.2.1.toNat-j<M ->
  Z10L N k0 M (rows m j) (j:Int) m.1 m.2.1 m.2.2=k0 (rows m m.2.1.toNat):=by
 have hs':=hs
 simp only[z0t,Bool.and_eq_true]at hs'
 obtain⟨n,r,hn,hr,hn1,hn5,hnr,hr8,hl⟩:=z12 hs'.1
 intro M
 induction M with
 | zero=>intro j _ h;omega
 | succ M ih =>
  intro j hj hM
  simp only[Z10L,Z11]
  by_cases h:j<m.2.1.toNat
  ·have hjn:j*n<=8*5:=Nat.mul_le_mul (by omega) hn5
   have e1:w64 ((j:Int)*m.1)=((j*n:Nat):Int):=by rw[hn,<-Int.natCast_mul];exact z1c (by omega) (by omega)
   have e0:w64 ((j:Int)+1)=((j+1:Nat):Int):=z1d (by rw[z0y];omega)
   have e2:w64 (((j+1:Nat):Int)*m.1)=((j*n+n:Nat):Int):=by
    have:((j+1:Nat):Int)*(n:Int)=((j*n+n:Nat):Int):=by rw[<-Int.natCast_mul,Nat.add_mul,Nat.one_mul]
    rw[hn,this]
    exact z1c (by omega) (by omega)
   have hlt:j*n+n<=m.2.2.length:=by
    have:=Nat.mul_le_mul_right n (show j+1<=r by omega)
    rw[Nat.add_mul,Nat.one_mul]at this
    rw[hl]
    exact this
   have hc:(leB 0 ((j*n:Nat):Int)&&(leB ((j*n:Nat):Int) ((j*n+n:Nat):Int)&&leB ((j*n+n:Nat):Int) m.2.2.length))=true:=by rw[zbd (by omega),zbd (by omega),zbd (by omega)];rfl
   have hrow:(m.2.2.drop (j*n)).take (((j*n+n:Nat):Int)-((j*n:Nat):Int)).toNat=zb7 m j:=by
    unfold zb7
    rw[show m.1.toNat=n by omega,show(((j*n+n:Nat):Int)-((j*n:Nat):Int)).toNat=n by omega]
   have hb:Nat.blt ((rows m j).length+([zb7 m j]:List (List Int)).length) 1099511627776=true:=Nat.ble_eq_true_of_le (by simp[rows];omega)
   have e4:rows m j++[zb7 m j]=rows m (j+1):=by
    unfold rows
    rw[List.range_succ,List.map_append]
    rfl
   rw[ct (dt (by omega)),e1,e0,e2,ct hc,Int.toNat_natCast,hrow,ct hb,e4]
   exact ih (j+1) h (by omega)
  ·rw[cf (df (by omega)),show j=m.2.1.toNat by omega]
def ok:Spec:=λm hb=>⟨100,λN hN=>by
 have e0:z1o.g (m.1,(m.2.1,m.2.2))=(z0t m&&!decide (z3u m=[])):=rfl
 simp only[Z0,Z1,Z2,Z3,e0,z1t,g]
 cases h1:(z0t m&&!decide (z3u m=[]))
 ·rfl
 have hs:z0t m=true:=by
  simp only[Bool.and_eq_true]at h1
  exact h1.1
 obtain⟨n,r,hn,hr,hn1,hn5,hnr,hr8,hl⟩:=z12 (z1r hs)
 simp only[Bool.not_true,cond_false,Z4,Z5,Z6,Z7,Z8,Z9,Z10]
 refine(loop hs (λrows3=>Z12 N rows3 (λt2=>some ((),(t2,())))) N 0 (Nat.zero_le _) (by omega)).trans ?_
 have hP:z1e.P (rows m m.2.1.toNat)=true:=by
  simp only[z1e.P,Bool.and_eq_true,decide_eq_true_eq,List.all_eq_true]
  refine⟨by simp[rows];omega,λl hl'=>?_⟩
  obtain⟨i,_,rfl⟩:=List.mem_map.1 hl'
  refine⟨zl9 hs i, ?_⟩
  unfold zb7
  rw[List.length_take]
  omega
 have hg:z1e.g (rows m m.2.1.toNat)=z9w m:=by
  unfold z1e.g z9w rows z5x
  rw[List.map_map]
  rfl
 simp only[Z12]
 rw[ct hP,hg]
 rfl⟩
end z0d
end
end Go.Fw
namespace Go.Fw
section
variable {ρ : Type}
namespace strings_Split
def g(s sep:ByteArray):List ByteArray:=Lib.splitB sep 0 (Lib.countB s sep) s
def P(s sep:ByteArray):Bool:=Nat.blt s.size 4294967281&&Nat.ble 1 sep.size
end strings_Split
namespace strings_Split
def ok:True:=trivial
end strings_Split
end
end Go.Fw
namespace Go.Fw
section
variable {ρ : Type}
namespace z2q
def g(s:ByteArray):Int×Bool:=zcz s
def P(s:ByteArray):Bool:=decide (s.size<=1048576)
end z2q
namespace z2q
def ok:True:=trivial
end z2q
end
end Go.Fw
namespace Go.Fw
section
variable {ρ : Type}
namespace z0s
def P(s:ByteArray):Bool:=decide (s.size<=1048576)
def g(s:ByteArray):List Int×Bool:=z5v s
end z0s
namespace z0s
def Z1{ρ:Type}(N:Nat)(a:ByteArray)(kn:ByteArray->Option ρ):Option ρ :=
 kn a
def Z3{ρ:Type}(N:Nat)(a:ByteArray)(kn:ByteArray->Option ρ)(kr:LI->Bool->Option ρ):Option ρ :=
 cond (lk N (z52 a ByteArray.empty))
 (
  kr ([]:List Int) true)
 (
  kn a)
def Z5{ρ:Type}(N:Nat)(a:ByteArray)(kn:ByteArray->Option ρ):Option ρ :=
 kn a
def Z8{ρ:Type}(N:Nat)(a:ByteArray)(kn:List ByteArray->ByteArray->I2 (Option ρ)):Option ρ :=
 cond (lk N (strings_Split.P a (⟨#[32]⟩:ByteArray))) (
  kn (strings_Split.g a (⟨#[32]⟩:ByteArray)) a ((strings_Split.g a (⟨#[32]⟩:ByteArray)).length:Int) 0) none
def Z11{ρ:Type}(N:Nat)(c:LI)(b:List ByteArray)(d:ByteArray)(e a:Int)(kn:LI->List ByteArray->ByteArray->I2 (Option ρ))(k0:LI->ByteArray->Option ρ)(kr:LI->Bool->Option ρ):Option ρ :=
 cond (lk N (decide (a<e)))
 (
  cond (lk N (inB a b.length)) (
   cond (lk N (z2q.P (b.getD a.toNat ByteArray.empty))) (
    cond (lk N ((z2q.g (b.getD a.toNat ByteArray.empty)).2))
    (
     kr ([]:List Int) false)
    (
     cond (lk N (decide (10<((b.getD a.toNat ByteArray.empty).size:Int))))
     (
      kr ([]:List Int) false)
     (
      cond (!(lk N ((z2p.g (z2q.g (b.getD a.toNat ByteArray.empty)).1 (-999999999) 999999999))))
      (
       kr ([]:List Int) false)
      (
       cond (lk N (Nat.blt (c.length+([(z2q.g (b.getD a.toNat ByteArray.empty)).1]:List Int).length) 1099511627776)) (
        kn (c++([(z2q.g (b.getD a.toNat ByteArray.empty)).1]:List Int)) b d e (w64 (a+1))) none)))) none) none)
 (
  k0 c d)
def Z10L{ρ:Type}(N:Nat)(k0:LI->ByteArray->Option ρ)(kr:LI->Bool->Option ρ):Nat->LI->List ByteArray->ByteArray->Int->Int->Option ρ
 | 0,_,_,_,_,_=>none
 | M+1,a,b,c,d,e=>Z11 N a b c d e (λa b c d e=>Z10L N k0 kr M a b c d e) k0 kr
def Z10 N a b c d k0 kr:=(Z10L N k0 kr N ([]:List Int) a b c d:Option ρ)
def Z9 N a b c d kn kr:=(Z10 N a b c d kn kr:Option ρ)
def Z7 N a kn kr:=(Z8 N a (λb a c d=>Z9 N b a c d kn kr):Option ρ)
def Z12{ρ:Type}(N:Nat)(a:LI)(b:ByteArray)(kr:LI->Bool->Option ρ):Option ρ :=
 cond (lk N (z0z.P a)) (
  cond (lk N (!(z52 (z0z.g a) b)))
  (
   kr ([]:List Int) false)
  (
   kr a true)) none
def Z6 N a kr:=(Z7 N a (λb a=>Z12 N b a kr) kr:Option ρ)
def Z4 N a kr:=(Z5 N a (λa=>Z6 N a kr):Option ρ)
def Z2 N a kr:=(Z3 N a (λa=>Z4 N a kr) kr:Option ρ)
def Z0 N a kr:=(Z1 N a (λa=>Z2 N a kr):Option ρ)
def Spec:Prop:=∀ (v0:ByteArray),P v0=true->∃N0,∀N,N0<=N->Z0 N v0 (λv2 v3=>some ((),(v2,(v3,()))))=some ((),((g v0).1,((g v0).2,())))
def loop{ρ:Type}{N:Nat}(k0:List Int->ByteArray->Option ρ)(kr:List Int->Bool->Option ρ)(s:ByteArray){ps:List ByteArray}(hps:ps.length<=2000000)(hsz:∀w∈ps,w.size<=1048576):∀(M i:Nat) (out:List Int),i<=ps.length->out.length+(ps.length-i)<=2000000->ps.length-i<M ->
  Z10L N k0 kr M out ps s (ps.length:Int) (i:Int)=match zbu z95 (ps.drop i)with | some l=>k0 (out++l) s | none=>kr [] false:=by
 intro M
 induction M with
 | zero=>intro i out _ _ h;omega
 | succ M ih =>
  intro i out hi ho hM
  simp only[Z10L,Z11]
  by_cases h:i<ps.length
  ·have hb:∀x:Int,Nat.blt (out.length+([x]:List Int).length) 1099511627776=true:=λx=>Nat.ble_eq_true_of_le (by simp;omega)
   have hP:z2q.P (ps.getD i ByteArray.empty)=true:=dt (hsz _ (z1l (l:=ps) _ h))
   have hg:z2q.g (ps.getD i ByteArray.empty)=zcz (ps.getD i ByteArray.empty):=rfl
   have hw:∀n:Int,z2p.g n (-999999999) 999999999=inK n (-999999999) 999999999:=λn=>rfl
   rw[ct (dt (by omega)),ct (z1g h),Int.toNat_natCast,ct hP,z4c (l:=ps) ByteArray.empty h,zbu,hg,z1t]
   rw[show z95 (ps.getD i ByteArray.empty)=(if(zcz (ps.getD i ByteArray.empty)).2=true then none else if 10<(ps.getD i ByteArray.empty).size then none else if inK (zcz (ps.getD i ByteArray.empty)).1 (-999999999) 999999999=true then some (zcz (ps.getD i ByteArray.empty)).1 else none)from rfl]
   cases herr:(zcz (ps.getD i ByteArray.empty)).2
   ·rw[cond_false,if_neg (by simp)]
    by_cases h10:10<(ps.getD i ByteArray.empty).size
    ·rw[ct (dt (by omega)),if_pos h10]
    ·rw[cf (df (by omega)),if_neg h10,hw,z1t]
     cases hin:inK (zcz (ps.getD i ByteArray.empty)).1 (-999999999) 999999999
     ·rw[if_neg (by simp)]
      rfl
     ·rw[if_pos rfl,cf' (show(!true)=false from rfl),ct (hb _),z1d (by rw[z0y];omega),ih (i+1) _ h (by simp;omega) (by omega)]
      cases zbu z95 (ps.drop (i+1))with
      | none=>rfl
      | some l=>simp
   ·rw[cond_true,if_pos rfl]
  ·rw[cf (df (by omega)),List.drop_of_length_le (by omega)]
   simp[zbu]
def zo7{f:ByteArray->Option Int}:∀{ws:List ByteArray} {l:List Int},zbu f ws=some l->l.length=ws.length/\∀n∈l,∃w∈ws,f w=some n
 | [],l,h=>by
  injection h with h
  subst h
  exact⟨rfl,λn hn=>by cases hn⟩
 | w::ws,l,h=>by
  rw[zbu]at h
  cases hw:f w with
  | none=>rw[hw]at h;cases h
  | some n =>
   rw[hw]at h
   cases hr:zbu f ws with
   | none=>rw[hr]at h;cases h
   | some m =>
    rw[hr]at h
    injection h with h
    subst h
    obtain⟨a,b⟩:=zo7 hr
    refine⟨by simp[a],λx hx=>?_⟩
    rcases List.mem_cons.1 hx with rfl | hx
    ·exact⟨w,List.mem_cons_self ..,hw⟩
    ·obtain⟨v,hv,e⟩:=b x hx
     exact⟨v,List.mem_cons_of_mem _ hv,e⟩
def ok:Spec:=λs hp=>⟨s.size+100,λN hN=>by
 have hs:s.size<=1048576:=of_decide_eq_true hp
 have h1:strings_Split.P s ⟨#[32]⟩=true:=by
  simp only[strings_Split.P,Bool.and_eq_true]
  exact⟨Nat.ble_eq_true_of_le (by omega),rfl⟩
 have h2:strings_Split.g s ⟨#[32]⟩=zds s:=zql s 32
 have hl:=zqy s
 simp only[Z0,Z1,Z2,Z3,z1t,g,z5v]
 cases he:z52 s ByteArray.empty
 ·rw[cond_false,if_neg (by simp)]
  simp only[Z4,Z5,Z6,Z7,Z8]
  rw[ct h1,h2]
  simp only[Z9,Z10]
  refine(loop _ _ s (ps:=zds s) (by omega) (λw hw=>Nat.le_trans (prt_size s w hw) hs) N 0 [] (Nat.zero_le _) (by simp;omega) (by omega)).trans ?_
  rw[List.drop_zero]
  cases hq:zbu z95 (zds s)with
  | none=>rfl
  | some l =>
   obtain⟨ha,hb⟩:=zo7 hq
   have hR:z0z.P l=true:=by
    show zmy l=true
    simp only[zmy,Bool.and_eq_true,decide_eq_true_eq,List.all_eq_true]
    refine⟨by omega,λn hn=>?_⟩
    obtain⟨w,_,e⟩:=hb n hn
    exact zlf e
   simp only[Z12,List.nil_append]
   rw[ct hR]
   have hgf:z0z.g l=z2l l:=rfl
   rw[hgf,z1t]
   cases z52 (z2l l) s<;>rfl
 ·rfl⟩
end z0s
end
end Go.Fw
namespace Go.Fw
section
variable {ρ : Type}
namespace z0j
def P(s:ByteArray):Bool:=decide (s.size<=1048576)
def g(s:ByteArray):(Int×Int×List Int)×Bool:=zct s
end z0j
namespace z0j
def Z1{ρ:Type}(N:Nat)(a:ByteArray)(kn:ByteArray->I2 (Option ρ)):Option ρ :=
 kn a 0 0
def Z3{ρ:Type}(N:Nat)(a:ByteArray)(b c:Int)(kn:ByteArray->I4 (Option ρ)):Option ρ :=
 kn a b c 0 0
def Z6{ρ:Type}(N:Nat)(a:ByteArray)(b c d e:Int)(kn:List ByteArray->ByteArray->I6 (Option ρ)):Option ρ :=
 cond (lk N (strings_Split.P a (⟨#[59,32]⟩:ByteArray))) (
  kn (strings_Split.g a (⟨#[59,32]⟩:ByteArray)) a ((strings_Split.g a (⟨#[59,32]⟩:ByteArray)).length:Int) 0 b c d e) none
def Z9{ρ:Type}(N:Nat)(b:List ByteArray)(c:LI)(e:ByteArray)(f a h i j d:Int)(kn:List ByteArray->LI->ByteArray->I6 (Option ρ))(k0:LI->ByteArray->I4 (Option ρ))(kr:LI->Bool->I2 (Option ρ)):Option ρ :=
 cond (lk N (decide (a<f)))
 (
  cond (lk N (inB a b.length)) (
   cond (lk N (z0s.P (b.getD a.toNat ByteArray.empty))) (
    cond (!(lk N ((z0s.g (b.getD a.toNat ByteArray.empty)).2)))
    (
     kr ([]:List Int) false 0 0)
    (
     cond (lk N (decide (0<d)))
     (
      cond (lk N (!(decide (((z0s.g (b.getD a.toNat ByteArray.empty)).1.length:Int)=j))))
      (
       kr ([]:List Int) false 0 0)
      (
       cond (lk N (Nat.blt (c.length+(z0s.g (b.getD a.toNat ByteArray.empty)).1.length) 1099511627776)) (
        kn b (c++(z0s.g (b.getD a.toNat ByteArray.empty)).1) e f (w64 (a+1)) h i ((z0s.g (b.getD a.toNat ByteArray.empty)).1.length:Int) (w64 (d+1))) none))
     (
      cond (lk N (Nat.blt (c.length+(z0s.g (b.getD a.toNat ByteArray.empty)).1.length) 1099511627776)) (
       kn b (c++(z0s.g (b.getD a.toNat ByteArray.empty)).1) e f (w64 (a+1)) h i ((z0s.g (b.getD a.toNat ByteArray.empty)).1.length:Int) (w64 (d+1))) none))) none) none)
 (
  k0 c e h i j d)
def Z8L{ρ:Type}(N:Nat)(k0:LI->ByteArray->I4 (Option ρ))(kr:LI->Bool->I2 (Option ρ)):Nat->List ByteArray->LI->ByteArray->Int->Int->Int->Int->Int->Int->Option ρ
 | 0,_,_,_,_,_,_,_,_,_=>none
 | M+1,a,b,c,d,e,f,g,h,i=>Z9 N a b c d e f g h i (λa b c d e f g h i=>Z8L N k0 kr M a b c d e f g h i) k0 kr
def Z8 N a b c d e f g h k0 kr:=(Z8L N k0 kr N a ([]:List Int) b c d e f g h:Option ρ)
def Z7 N a b c d e f g h kn kr:=(Z8 N a b c d e f g h kn kr:Option ρ)
def Z5 N a b c d e kn kr:=(Z6 N a b c d e (λf a g h b c d e=>Z7 N f a g h b c d e kn kr):Option ρ)
def Z10{ρ:Type}(N:Nat)(a:LI)(d:ByteArray)(e f b c:Int)(kr:LI->Bool->I2 (Option ρ)):Option ρ :=
 cond (!(lk N ((z1o.g (b,(c,a))))))
 (
  kr ([]:List Int) false 0 0)
 (
  cond (lk N (!(z52 (z0d.g (b,(c,a))) d)))
  (
   kr ([]:List Int) false 0 0)
  (
   kr a true b c))
def Z4 N a b c d e kr:=(Z5 N a b c d e (λf a b c d e=>Z10 N f a b c d e kr) kr:Option ρ)
def Z2 N a b c kr:=(Z3 N a b c (λa b c d e=>Z4 N a b c d e kr):Option ρ)
def Z0 N a kr:=(Z1 N a (λa b c=>Z2 N a b c kr):Option ρ)
def Spec:Prop:=∀ (v0:ByteArray),P v0=true->∃N0,∀N,N0<=N->Z0 N v0 (λv2_2 v3 v2_0 v2_1=>some ((),((v2_0,(v2_1,v2_2)),(v3,()))))=some ((),((g v0).1,((g v0).2,())))
def loop{ρ:Type}{N:Nat}(k0:List Int->ByteArray->Int->Int->Int->Int->Option ρ)(kr:List Int->Bool->Int->Int->Option ρ)(s:ByteArray)(t0 t1:Int){ps:List ByteArray}(hps:ps.length<=600000)(hsz:∀w∈ps,w.size<=1048576):∀(M i:Nat) (out:List Int) (c:Int),i<=ps.length->out.length<=i*1048577->ps.length-i<M ->
  Z8L N k0 kr M ps out s (ps.length:Int) (i:Int) t0 t1 c (i:Int)=match goI (ps.drop i) out c i with | some q=>k0 q.1 s t0 t1 q.2.1 (q.2.2:Int) | none=>kr [] false 0 0:=by
 intro M
 induction M with
 | zero=>intro i out c _ _ h;omega
 | succ M ih =>
  intro i out c hi ho hM
  simp only[Z8L,Z9]
  by_cases h:i<ps.length
  ·have hmem:=hsz _ (z1l (l:=ps) ByteArray.empty h)
   have hg:z0s.g (ps.getD i ByteArray.empty)=z5v (ps.getD i ByteArray.empty):=rfl
   have hlen:=zov hmem
   rw[<-zft]at hlen
   have h9:i*1048577<=600000*1048577:=Nat.mul_le_mul_right _ (by omega)
   rw[ct (dt (by omega)),ct (z1g h),Int.toNat_natCast,z4c (l:=ps) ByteArray.empty h,ct (show z0s.P (ps.getD i ByteArray.empty)=true from dt hmem),hg,z1t,goI]
   generalize ps.getD i ByteArray.empty=p at hmem hlen
   have hw:w64 ((i:Int)+1)=((i+1:Nat):Int):=z1d (by rw[z0y];omega)
   cases hok:(z5v p).2
   ·rfl
   ·rw[if_pos rfl,cf' (show(!true)=false from rfl)]
    by_cases h0:0<i
    ·rw[ct (dt (by omega)),if_pos (dt h0)]
     by_cases hc:((z5v p).1.length:Int)=c
     ·rw[cf (by simp[hc]),if_pos hc,ct (show Nat.blt (out.length+(z5v p).1.length) 1099511627776=true from Nat.ble_eq_true_of_le (by omega)),hw]
      exact ih (i+1) _ _ h (by rw[List.length_append,Nat.add_mul,Nat.one_mul];omega) (by omega)
     ·rw[ct (by simp[hc]),if_neg hc]
    ·rw[cf (df (by omega)),if_neg (by rw[decide_eq_true_eq];omega),ct (show Nat.blt (out.length+(z5v p).1.length) 1099511627776=true from Nat.ble_eq_true_of_le (by omega)),hw]
     exact ih (i+1) _ _ h (by rw[List.length_append,Nat.add_mul,Nat.one_mul];omega) (by omega)
  ·rw[List.drop_of_length_le (by omega),goI,cf (df (by omega))]
def ok:Spec:=λs hp=>⟨s.size+100,λN hN=>by
 have hs:s.size<=1048576:=of_decide_eq_true hp
 have h1:strings_Split.P s ⟨#[59,32]⟩=true:=by
  simp only[strings_Split.P,Bool.and_eq_true]
  exact⟨Nat.ble_eq_true_of_le (by omega),rfl⟩
 obtain⟨hl,hsz⟩:=zip s
 have h2:strings_Split.g s ⟨#[59,32]⟩=Lib.splitB ⟨#[59,32]⟩ 0 (Lib.countB s ⟨#[59,32]⟩) s:=rfl
 simp only[Z0,Z1,Z2,Z3,Z4,Z5,Z6]
 rw[ct h1,h2]
 simp only[Z7,Z8]
 refine(loop _ _ s 0 0 (by omega) (λw hw=>Nat.le_trans (hsz w hw) hs) N 0 [] 0 (Nat.zero_le _) (by simp) (by omega)).trans ?_
 rw[List.drop_zero]
 simp only[g,zct]
 cases hq:goI (Lib.splitB ⟨#[59,32]⟩ 0 (Lib.countB s ⟨#[59,32]⟩) s) [] 0 0 with
 | none=>rfl
 | some q =>
  have e0:z1o.g (q.2.1,((q.2.2:Int),q.1))=(z0t (q.2.1,((q.2.2:Int),q.1))&&!decide (z3u (q.2.1,((q.2.2:Int),q.1))=[])):=rfl
  have e1:z0d.g (q.2.1,((q.2.2:Int),q.1))=if(z0t (q.2.1,((q.2.2:Int),q.1))&&!decide (z3u (q.2.1,((q.2.2:Int),q.1))=[]))=true then z9w (q.2.1,((q.2.2:Int),q.1))else ByteArray.empty:=rfl
  simp only[Z10,z1t,zm3,e0,e1]
  cases(z0t (q.2.1,((q.2.2:Int),q.1))&&!decide (z3u (q.2.1,((q.2.2:Int),q.1))=[]))
  ·rfl
  ·rw[if_pos rfl,if_pos rfl]
   cases z52 (z9w (q.2.1,((q.2.2:Int),q.1))) s<;>rfl⟩
end z0j
end
end Go.Fw
namespace Go.Fw
section
variable {ρ : Type}
namespace z2x
def g(a b:List Int):Bool:=decide (a=b)
end z2x
namespace z2x
def Z1{ρ:Type}(N:Nat)(a b:LI)(kn:LI->LI->Option ρ):Option ρ :=
 kn a b
def Z3{ρ:Type}(N:Nat)(a b:LI)(kn:LI->LI->Option ρ)(kr:Bool->Option ρ):Option ρ :=
 cond (lk N (!(decide ((a.length:Int)=(b.length:Int)))))
 (
  kr false)
 (
  kn a b)
def Z6{ρ:Type}(N:Nat)(a b:LI)(kn:LI->LI->Int->Option ρ):Option ρ :=
 kn a b 0
def Z9{ρ:Type}(N:Nat)(b c:LI)(a:Int)(kn:LI->LI->Int->Option ρ)(k0:Option ρ)(kr:Bool->Option ρ):Option ρ :=
 cond (lk N (decide (a<(b.length:Int))))
 (
  cond (lk N (inB a b.length)) (
   cond (lk N (inB a c.length)) (
    cond (lk N (!(decide ((b.getD a.toNat 0)=(c.getD a.toNat 0)))))
    (
     kr false)
    (
     kn b c (w64 (a+1)))) none) none)
 (
  k0)
def Z8L{ρ:Type}(N:Nat)(k0:Option ρ)(kr:Bool->Option ρ):Nat->LI->LI->Int->Option ρ
 | 0,_,_,_=>none
 | M+1,a,b,c=>Z9 N a b c (λa b c=>Z8L N k0 kr M a b c) k0 kr
def Z8 N a b c k0 kr:=(Z8L N k0 kr N a b c:Option ρ)
def Z7 N a b c kn kr:=(Z8 N a b c kn kr:Option ρ)
def Z5 N a b kn kr:=(Z6 N a b (λa b c=>Z7 N a b c kn kr):Option ρ)
def Z10{ρ:Type}(N:Nat) (kr:Bool->Option ρ):Option ρ :=
 kr true
def Z4 N a b kr:=(Z5 N a b (Z10 N kr) kr:Option ρ)
def Z2 N a b kr:=(Z3 N a b (λa b=>Z4 N a b kr) kr:Option ρ)
def Z0 N a b kr:=(Z1 N a b (λa b=>Z2 N a b kr):Option ρ)
def Spec:Prop:=∀ (v0 v1:LI),Ty.bd (.sl 0 (.int .i64)) v0->Ty.bd (.sl 0 (.int .i64)) v1->∃N0,∀N,N0<=N->Z0 N v0 v1 (λv4=>some ((),(v4,())))=some ((),((g v0 v1),()))
def loop{ρ:Type}(N:Nat)(k0:Option ρ)(kr:Bool->Option ρ)(a b:List Int)(hl:a.length=b.length)(ha:a.length<=maxLen):∀(M j:Nat),j<=a.length->a.length-j<M ->
  Z8L N k0 kr M a b (j:Int)=if a.drop j=b.drop j then k0 else kr false:=by
 intro M
 induction M with
 | zero=>intro j _ h;omega
 | succ M ih =>
  intro j hj hM
  simp only[Z8L,Z9]
  by_cases h:j<a.length
  ·rw[ct (dt (by omega)),ct (z1g h),ct (z1g (by omega)),Int.toNat_natCast,z1d (by omega),ih (j+1) h (by omega),z4c 0 h,z4c (l:=b) (j:=j) 0 (by omega)]
   by_cases e:a.getD j 0=b.getD j 0
   ·rw[cf (nf e),e]
    simp only[List.cons.injEq,true_and]
   ·rw[ct (nt e),if_neg (by simp only[List.cons.injEq];exact λh=>e h.1)]
  ·rw[cf (df (by omega)),if_pos (by rw[List.drop_of_length_le (by omega),List.drop_of_length_le (by omega)])]
def ok:Spec:=λa b ha hb=>⟨a.length+1,λN hN=>by
 simp only[Z1,Z3,Z6,Z9,Z8,Z7,Z5,Z10,Z4,Z2,Z0]
 by_cases hl:a.length=b.length
 ·rw[cf (nf (by omega))]
  rw[show(0:Int)=((0:Nat):Int)from rfl,loop _ _ _ a b hl ha.1 N 0 (by omega) (by omega)]
  by_cases e:a=b<;>simp[e,g]
 ·rw[ct (nt (by omega))]
  have:a≠b:=λe=>hl (by rw[e])
  simp[g,this]⟩
end z2x
end
end Go.Fw
namespace Go.Fw
section
variable {ρ : Type}
namespace z2c
def g(a b:Int×Int×List Int):Bool:=decide (a=b)
end z2c
namespace z2c
def Z0{ρ:Type}(N:Nat)(a b:MT)(kr:Bool->Option ρ):Option ρ :=
 cond (lk N (decide (a.1=b.1)))
 (
  cond (lk N (decide (a.2.1=b.2.1)))
  (
   kr (lk N ((z2x.g a.2.2 b.2.2))))
  (
   kr false))
 (
  kr false)
def Spec:Prop:=∀ (v0 v1:MT),Ty.bd (.pair (.int .i64) (.pair (.int .i64) (.sl 0 (.int .i64)))) v0->Ty.bd (.pair (.int .i64) (.pair (.int .i64) (.sl 0 (.int .i64)))) v1->∃N0,∀N,N0<=N->Z0 N v0 v1 (λv4=>some ((),(v4,())))=some ((),((g v0 v1),()))
def ok:Spec:=λa b ha hb=>⟨0,λN hN=>by
 obtain⟨a1,a2,a3⟩:=a
 obtain⟨b1,b2,b3⟩:=b
 simp only[Z0,z1t,g,z2x.g]
 by_cases h1:a1=b1
 ·by_cases h2:a2=b2
  ·by_cases h3:a3=b3<;>simp[h1,h2,h3]
  ·simp[h1,h2]
 ·simp[h1]⟩
end z2c
end
end Go.Fw
namespace Go.Fw
section
variable {ρ : Type}
namespace z1j
def P(b:List Int)(r:Int×Int)(n most:Int):Bool:=z1z b r&&inK most 0 100
def stepK(b:List Int)(n:Int)(s:(Int×Int)×List Int):(Int×Int)×List Int:=((z00.g b s.1 n).1,s.2++[(z00.g b s.1 n).2])
def zc0(b:List Int)(n:Int):Nat->(Int×Int)×List Int->(Int×Int)×List Int
 | 0,s=>s
 | c+1,s=>zc0 b n c (stepK b n s)
def g(b:List Int)(r:Int×Int)(n most:Int):(Int×Int)×List Int:=zc0 b n (z00.g b r (most+1)).2.toNat ((z00.g b r (most+1)).1,[])
end z1j
namespace z1j
def Z1{ρ:Type}(N:Nat)(b0:List Int)(r0:Int×Int)(a b:Int)(kn:I2 (List Int->I2 (Option ρ))):Option ρ :=
 kn a b b0 r0.1 r0.2
def Z3{ρ:Type}(N:Nat)(a b:Int)(c:List Int)(d e:Int)(kn:LI->I2 (List Int->I2 (Option ρ))):Option ρ :=
 kn ([]:List Int) a b c d e
def Z5{ρ:Type}(N:Nat)(e:LI)(f b:Int)(a:List Int)(c d:Int)(kn:LI->I2 (List Int->I2 (Option ρ))):Option ρ :=
 cond (lk N (z00.P a (c,d) (w64 (b+1)))) (
  kn e f (z00.g a (c,d) (w64 (b+1))).2 a (z00.g a (c,d) (w64 (b+1))).1.1 (z00.g a (c,d) (w64 (b+1))).1.2) none
def Z8{ρ:Type}(N:Nat)(a:LI)(b c:Int)(d:List Int)(e f:Int)(kn:LI->I3 (List Int->I2 (Option ρ))):Option ρ :=
 kn a b c 0 d e f
def Z11{ρ:Type}(N:Nat)(e:LI)(b f h:Int)(a:List Int)(c d:Int)(kn:LI->I3 (List Int->I2 (Option ρ)))(k0:LI->List Int->I2 (Option ρ)):Option ρ :=
 cond (lk N (decide (h<f)))
 (
  cond (lk N (z00.P a (c,d) b)) (
   cond (lk N (Nat.blt (e.length+([(z00.g a (c,d) b).2]:List Int).length) 1099511627776)) (
    kn (e++([(z00.g a (c,d) b).2]:List Int)) b f (w64 (h+1)) a (z00.g a (c,d) b).1.1 (z00.g a (c,d) b).1.2) none) none)
 (
  k0 e a c d)
def Z10L{ρ:Type}(N:Nat)(k0:LI->List Int->I2 (Option ρ)):Nat->LI->Int->Int->Int->List Int->Int->Int->Option ρ
 | 0,_,_,_,_,_,_,_=>none
 | M+1,a,b,c,d,e,f,g=>Z11 N a b c d e f g (λa b c d e f g=>Z10L N k0 M a b c d e f g) k0
def Z10 N a b c d e f g k0:=(Z10L N k0 N a b c d e f g:Option ρ)
def Z9 N a b c d e f g kn:=(Z10 N a b c d e f g kn:Option ρ)
def Z7 N a b c d e f kn:=(Z8 N a b c d e f (λa b c g d e f=>Z9 N a b c g d e f kn):Option ρ)
def Z12{ρ:Type}(N:Nat)(a:LI)(b:List Int)(c d:Int)(kr:LI->List Int->I2 (Option ρ)):Option ρ :=
 kr a b c d
def Z6 N a e f b c d kr:=(Z7 N a e f b c d (λa b c d=>Z12 N a b c d kr):Option ρ)
def Z4 N a b f c d e kr:=(Z5 N a b f c d e (λa b g c d e=>Z6 N a b g c d e kr):Option ρ)
def Z2 N a b c d e kr:=(Z3 N a b c d e (λf a b c d e=>Z4 N f a b c d e kr):Option ρ)
def Z0 N b0 r0 a b kr:=(Z1 N b0 r0 a b (λa b c d e=>Z2 N a b c d e kr):Option ρ)
def Spec:Prop:=∀{U:Type} (u:U) (b0:List Int) (r0:Int×Int) (v1 v2:Int),Ty.bd (.sl 0 (.int .u8)) b0->P b0 r0 v1 v2=true->∃N0,∀N,N0<=N->Z0 N b0 r0 v1 v2 (λv6 w0_0 w0_1 w0_2=>some (u,((w0_1,w0_2),((),(v6,())))))=some (u,((g b0 r0 v1 v2).1,((),((g b0 r0 v1 v2).2,()))))
def ranges{b:List Int}{n:Int}(h1:1<=n)(h2:n<=256):∀(c:Nat) {s:(Int×Int)×List Int},(∀x∈s.2,0<=x/\x<n)->(∀x∈(zc0 b n c s).2,0<=x/\x<n)/\(zc0 b n c s).2.length=s.2.length+c
 | 0,_,h=>⟨h,rfl⟩
 | c+1,s,h=>by
  have:=ranges h1 h2 (b:=b) c (s:=stepK b n s) (λx hx=>by
   rcases List.mem_append.1 hx with hx | hx
   ·exact h x hx
   ·rw[List.mem_singleton.1 hx]
    exact z00.range h1 h2)
  refine⟨this.1,this.2.trans ?_⟩
  simp[stepK]
  omega
def range{b:List Int}{r:Int×Int}{n most:Int}(h1:1<=n)(h2:n<=256)(hm:0<=most/\most<=100):(∀x∈(g b r n most).2,0<=x/\x<n)/\((g b r n most).2.length:Int)<=most:=by
 have h0:=z00.range (b:=b) (r:=r) (n:=most+1) (by omega) (by omega)
 have:=ranges h1 h2 (b:=b) (z00.g b r (most+1)).2.toNat (s:=((z00.g b r (most+1)).1,[])) (λx hx=>by cases hx)
 refine⟨this.1, ?_⟩
 have h3:(g b r n most).2.length=0+(z00.g b r (most+1)).2.toNat:=this.2
 omega
def loop{ρ:Type}{N:Nat}{b:List Int}(n:Int)(k0:List Int->List Int->Int->Int->Option ρ){c:Nat}(hc:c<=101):∀(M i:Nat) (s:(Int×Int)×List Int),i<=c->z1z b s.1=true->s.2.length+(c-i)<=1000->c-i<M ->
  Z10L N k0 M s.2 n (c:Int) (i:Int) b s.1.1 s.1.2=k0 (zc0 b n (c-i) s).2 b (zc0 b n (c-i) s).1.1 (zc0 b n (c-i) s).1.2:=by
 intro M
 induction M with
 | zero=>intro i s _ _ _ h;omega
 | succ M ih =>
  intro i s hi hs hl hM
  simp only[Z10L,Z11]
  by_cases h:i<c
  ·have es:((s.1.1,s.1.2):Int×Int)=s.1:=rfl
   have hP:z00.P b s.1 n=true:=hs
   have w1:w64 ((i:Int)+1)=((i+1:Nat):Int):=z1d (by rw[z0y];omega)
   have c1:Nat.blt (s.2.length+([(z00.g b s.1 n).2]:List Int).length) 1099511627776=true:=Nat.ble_eq_true_of_le (by rw[List.length_singleton];omega)
   rw[ct (dt (by omega)),es,ct hP,ct c1,w1,show c-i=(c-(i+1))+1 by omega]
   exact ih (i+1) (stepK b n s) h (z00.keep hs) (by simp[stepK];omega) (by omega)
  ·rw[cf (df (by omega)),show c-i=0 by omega]
   rfl
def ok:Spec:=λu b r n most hb hp=>⟨200,λN hN=>by
 simp only[P,Bool.and_eq_true,z2b]at hp
 obtain⟨h,hm⟩:=hp
 have h0:=z00.keep (n:=most+1) h
 have hr:=z00.range (b:=b) (r:=r) (n:=most+1) (by omega) (by omega)
 have er:((r.1,r.2):Int×Int)=r:=rfl
 have p0:z00.P b r (most+1)=true:=h
 simp only[Z1,Z3,Z5,Z8,Z11,Z10,Z9,Z7,Z12,Z6,Z4,Z2,Z0]
 rw[er,z1c (n:=most+1) (by omega) (by omega),ct p0]
 obtain⟨c,hc⟩:=Int.eq_ofNat_of_zero_le hr.1
 have key:=λ{ρ:Type} (k0:List Int->List Int->Int->Int->Option ρ)=>loop (ρ:=ρ) (N:=N) n k0 (c:=c) (by omega) N 0 ((z00.g b r (most+1)).1,[]) (Nat.zero_le _) h0 (by simp;omega) (by omega)
 rw[hc]
 refine(key _).trans ?_
 unfold g
 rw[hc]
 rfl⟩
end z1j
end
end Go.Fw
namespace Go.Fw
section
variable {ρ : Type}
namespace z1n
def g(b:List Int):(Int×Int×List Int)×List Int:=((z05.g b (z08.g b)).2,(z1j.g b (z05.g b (z08.g b)).1 (z05.g b (z08.g b)).2.1 4).2)
end z1n
namespace z1n
def Z0{ρ:Type}(N:Nat)(a:List Int)(kr:LI->LI->I2 (Option ρ)):Option ρ :=
 cond (lk N (z05.P a (z08.g a))) (
  bo (
   cond (lk N (z1j.P a (z05.g a (z08.g a)).1 (z05.g a (z08.g a)).2.1 4)) (
    kr (z1j.g a (z05.g a (z08.g a)).1 (z05.g a (z08.g a)).2.1 4).2 (z05.g a (z08.g a)).2.2.2 (z05.g a (z08.g a)).2.1 (z05.g a (z08.g a)).2.2.1) none)) none
def Spec:Prop:=∀ (v0:List Int),Ty.bd (.sl 0 (.int .u8)) v0->∃N0,∀N,N0<=N->Z0 N v0 (λv3 v2_2 v2_0 v2_1=>some ((),((v2_0,(v2_1,v2_2)),(v3,()))))=some ((),((g v0).1,((g v0).2,())))
def cur0{b:List Int}(h:b.length<=maxLen):z1z b (z08.g b)=true:=by
 rw[z8k]
 exact⟨Int.le_refl 0,by show(0:Int)<=_;omega,h⟩
def ok:Spec:=λb hb=>⟨0,λN hN=>by
 have h0:=cur0 hb.1
 obtain⟨h1,d1,n4,hsq⟩:=z05.facts h0
 have p1:z05.P b (z08.g b)=true:=h0
 have p2:z1j.P b (z05.g b (z08.g b)).1 (z05.g b (z08.g b)).2.1 4=true:=by
  simp only[z1j.P,Bool.and_eq_true,z2b]
  exact⟨h1,by omega,by omega⟩
 simp only[Z0,z1t,p1,p2,cond_true,bo,z30]
 rfl⟩
end z1n
end
end Go.Fw
namespace Go.Fw
section
variable {ρ : Type}
namespace z1a
def g(_:List Int):Bool:=true
end z1a
namespace z1a
def Z1{ρ:Type}(N:Nat)(a:List Int)(kn:List Int->Option ρ):Option ρ :=
 kn a
def Z3{ρ:Type}(N:Nat)(a:List Int)(kn:List Int->Option ρ)(kr:Bool->Option ρ):Option ρ :=
 cond (lk N ((z61.g a)))
 (
  kr true)
 (
  kn a)
def Z5{ρ:Type}(N:Nat)(a:List Int)(kn:LI->List Int->I2 (Option ρ)):Option ρ :=
 kn (z0q.g a).2.2 a (z0q.g a).1 (z0q.g a).2.1
def Z7{ρ:Type}(N:Nat)(b:LI)(a:List Int)(c d:Int)(kn:LI->List Int->ByteArray->I2 (Option ρ)):Option ρ :=
 kn b a (z14.g a) c d
def Z9{ρ:Type}(N:Nat)(a:LI)(d:List Int)(e:ByteArray)(b c:Int)(kn:LI->LI->List Int->ByteArray->Bool->I4 (Option ρ)):Option ρ :=
 cond (lk N (z0j.P (z0d.g (b,(c,a))))) (
  kn a (z0j.g (z0d.g (b,(c,a)))).1.2.2 d e (lk N ((z0j.g (z0d.g (b,(c,a)))).2)) b c (z0j.g (z0d.g (b,(c,a)))).1.1 (z0j.g (z0d.g (b,(c,a)))).1.2.1) none
def Z11{ρ:Type}(N:Nat)(a h:LI)(b:List Int)(c:ByteArray)(d:Bool)(e f i j:Int)(kn:List Int->ByteArray->Option ρ)(kr:Bool->Option ρ):Option ρ :=
 cond (lk N (!((d == (lk N ((z1y.g (e,(f,a)))))))))
 (
  kr false)
 (
  cond (d)
  (
   cond (!(lk N ((z2c.g (i,(j,h)) (e,(f,a))))))
   (
    kr false)
   (
    kn b c))
  (
   kn b c))
def Z12{ρ:Type}(N:Nat)(a:List Int)(b:ByteArray)(kr:Bool->Option ρ):Option ρ :=
 let x1_:=(z07.g (z1n.g a).1)
 let x2_:=(z0k.g (z1n.g a).1 (z1n.g a).2)
 let x0_:=(
   cond (lk N (!(((lk N (x1_.2)) == (lk N (decide ((w64 (2*(z1n.g a).1.1))<=8)))))))
   (
   kr false)
   (
   cond (!(lk N (x1_.2)))
   (
   kr true)
   (
   cond (!(lk N ((z0k.g x1_.1 (z1n.g a).2).2)))
   (
   kr (!(lk N ((z10.g x1_.1 (z1n.g a).2).2))))
   (
   cond (lk N (x2_.2))
   (
   cond (lk N ((z2c.g (z2d.g x1_.1) (z1n.g a).1)))
   (
   cond (lk N ((z2c.g (z2d.g (z0k.g x1_.1 (z1n.g a).2).1) x2_.1)))
   (
   kr (lk N (decide (x1_.1.2.1=(w64 (2*(z1n.g a).1.1))))))
   (
   kr false))
   (
   kr false))
   (
   kr false)))))
 cond (lk N (z0j.P b)) (
 cond (lk N ((z0j.g b).2))
 (
 cond (lk N (!(z52 (z0d.g (z0j.g b).1) b)))
 (
 kr false)
 x0_)
 x0_) none
def Z10 N c d a b e f g h i kr:=(Z11 N c d a b e f g h i (λa b=>Z12 N a b kr) kr:Option ρ)
def Z8 N a b c d e kr:=(Z9 N a b c d e (λa f b c g d e h i=>Z10 N a f b c g d e h i kr):Option ρ)
def Z6 N a b c d kr:=(Z7 N a b c d (λa b e c d=>Z8 N a b e c d kr):Option ρ)
def Z4 N a kr:=(Z5 N a (λb a c d=>Z6 N b a c d kr):Option ρ)
def Z2 N a kr:=(Z3 N a (λa=>Z4 N a kr) kr:Option ρ)
def Z0 N a kr:=(Z1 N a (λa=>Z2 N a kr):Option ρ)
def Spec:Prop:=∀ (v0:List Int),Ty.bd (.sl 0 (.int .u8)) v0->∃N0,∀N,N0<=N->Z0 N v0 (λv2=>some ((),(v2,())))=some ((),((g v0),()))
def zff(s:ByteArray):z52 s s=true:=by
 unfold z52
 exact beq_self_eq_true _
def impl_fmt(m:Int×Int×List Int):z0d.g m=z0o.g m:=by
 unfold z0d.g z0o.g
 rw[z6k]
def zoq:zct ByteArray.empty=no3:=by
 rcases z9h ByteArray.empty with h | ⟨m,_,h1,_,h3⟩
 ·exact h
 ·have:=fmt_ne h1
  rw[h3]at this
  exact absurd (zff _) this
def back(m:Int×Int×List Int):zct (z0d.g m)=if z1y.g m=true then(m,true)else no3:=by
 have e:z1y.g m=(z0t m&&!decide (z3u m=[])):=(z6k m).symm
 rw[e]
 unfold z0d.g
 by_cases h:(z0t m&&!decide (z3u m=[]))=true
 ·rw[if_pos h,if_pos h]
  simp only[Bool.and_eq_true,Bool.not_eq_true',decide_eq_false_iff_not]at h
  exact zdp h.1 h.2
 ·rw[if_neg h,if_neg h]
  exact zoq
def own{s:ByteArray}(h:(zct s).2=true):z52 (z0d.g (zct s).1) s=true:=by
 rcases z9h s with e | ⟨m,e,h1,h2,h3⟩
 ·rw[e]at h;cases h
 ·rw[e]
  show z52 (z0d.g m) s=true
  unfold z0d.g
  rw[if_pos (by rw[h1,df h2];rfl),h3]
  exact zff s
def walk{ρ:Type}{w:Int×Int×List Int}{d:Nat->Int}(h:z2u w d)(hsq:w.2.1=w.1)(h4:w.1<=4){ks:List Int}(hks:∀k∈ks,0<=k/\k<w.1)(hl:(ks.length:Int)<=4)(kr:Bool->Option ρ) :
  (cond (!((z07.g w).2 == decide (w64 (2*w.1)<=8))) (kr false) (cond (!((z07.g w).2)) (kr true) (cond (!((z0k.g (z07.g w).1 ks).2)) (kr (!((z10.g (z07.g w).1 ks).2)))
   (cond (z0k.g w ks).2 (cond (z2c.g (z2d.g (z07.g w).1) w) (cond (z2c.g (z2d.g (z0k.g (z07.g w).1 ks).1) (z0k.g w ks).1) (kr (decide ((z07.g w).1.2.1=w64 (2*w.1)))) (kr false)) (kr false)) (kr false)))))=kr true:=by
 obtain⟨n,r,hn,hr,hn1,hn5,hnr,hr8,_⟩:=z12 h.dim
 have e1:z07.g w=(z58 w,true):=by
  unfold z07.g
  rw[iok h,dt hsq,dt (show 2*w.1<=8 by omega)]
  rfl
 have hP:=h.princ hsq h4
 have e2:w64 (2*w.1)=2*w.1:=z1c (by omega) (by omega)
 rw[e1,e2,dt (show 2*w.1<=8 by omega)]
 simp only[beq_self_eq_true,Bool.not_true,cond_false]
 rw[zgf (m:=z58 w)]
 have a1:z0k.g (z58 w) ks=z3o z0g.g (z58 w) ks:=by
  unfold z0k.g
  rw[if_pos (by rw[iok hP,dt (by omega)];rfl)]
 have a2:z0k.g w ks=z3o z0g.g w ks:=by
  unfold z0k.g
  rw[if_pos (by rw[iok h,dt (by omega)];rfl)]
 rw[<-zgf,a1,a2]
 have es:z3p (z58 w)=w:=zc4 h.dim hsq
 have sq:z2d.g (z58 w)=w:=by
  unfold z2d.g
  rw[if_pos (iok hP),es]
 rw[sq]
 cases hok:(z3o z0g.g (z58 w) ks).2
 ·rfl
 ·obtain⟨g1,g2⟩:=zcm ks hP (n:=n) (show w.1.toNat=n by omega) (λk hk=>by have:=hks k hk;omega) hok
  rw[es]at g1
  have s2:z2d.g (z3o z0g.g (z58 w) ks).1=z3p (z3o z0g.g (z58 w) ks).1:=by
   unfold z2d.g
   rw[if_pos (iok g2)]
  rw[g1,s2,show z2c.g w w=true from dt rfl,show z2c.g (z3p (z3o z0g.g (z58 w) ks).1) (z3p (z3o z0g.g (z58 w) ks).1)=true from dt rfl,show decide ((z58 w).2.1=2*w.1)=true from dt rfl]
  rfl
def ok:Spec:=λb hb=>⟨0,λN hN=>by
 simp only[Z1,Z3,Z5,Z7,Z9,Z11,Z12,Z10,Z8,Z6,Z4,Z2,Z0]
 cases hbig:z61.g b
 ·rw[cf rfl]
  have h0:=z1n.cur0 hb.1
  obtain⟨c1,d1,n4,hsq⟩:=z05.facts h0
  obtain⟨d,hR⟩:=matrixD h0
  have hst:=z1j.range (b:=b) (r:=(z05.g b (z08.g b)).1) (n:=(z05.g b (z08.g b)).2.1) (most:=4) (by obtain⟨n,r,hn,_,hn1,_⟩:=z12 d1;omega) (by omega) (by omega)
  have hw:=walk (ρ:=Unit×Bool×Unit) (w:=(z1n.g b).1) (ks:=(z1n.g b).2) hR hsq n4 hst.1 hst.2 (λt=>some ((),(t,())))
  have em:(((z0q.g b).1,((z0q.g b).2.1,(z0q.g b).2.2)):Int×Int×List Int)=z0q.g b:=rfl
  have P1:z0j.P (z0d.g (z0q.g b))=true:=by
   have:=z14.fmt_sz (z0q.g b)
   rw[impl_fmt]
   exact dt (by omega)
  have P2:z0j.P (z14.g b)=true:=by
   have:=z14.g_sz b
   exact dt (by omega)
  have B1:z0j.g (z0d.g (z0q.g b))=if z1y.g (z0q.g b)=true then(z0q.g b,true)else no3:=back _
  have B2:(z0j.g (z14.g b)).2=true->z52 (z0d.g (z0j.g (z14.g b)).1) (z14.g b)=true:=own
  simp only[z1t,em,P1,P2,cond_true,hw]
  have key:(cond ((z0j.g (z14.g b)).2) (cond (!(z52 (z0d.g (z0j.g (z14.g b)).1) (z14.g b))) (some ((),(false,()))) (some ((),(true,())))) (some ((),(true,()))):Option (Unit×Bool×Unit))=some ((),(true,())):=by
   cases h2:(z0j.g (z14.g b)).2
   ·rfl
   ·rw[B2 h2];rfl
  rw[key,B1]
  cases hq:z1y.g (z0q.g b)
  ·rfl
  ·rw[if_pos rfl]
   have R1:z2c.g (z0q.g b) (z0q.g b)=true:=dt rfl
   simp only[em,R1,beq_self_eq_true,Bool.not_true,cond_false,cond_true]
   rfl
 ·rw[ct rfl];rfl⟩
end z1a
end
end Go.Fw
