/- The plain part: what the functions compute, in lists and numbers. Nothing is assumed. -/
import Derived.Test.YtkjnhmjfdfiklaaGreatDoorFwd
import Derived.Test.YtkjnhmjfdfiklaaGreatDoorPuFnMatrixTexta
noncomputable section
set_option linter.defProp false
set_option linter.defProp false
set_option linter.unusedVariables false
set_option linter.unusedSimpArgs false
set_option maxRecDepth 100000
namespace Go.Fw
section
variable {ρ : Type}
namespace spec_dTree
def P(b:List Int)(r:Int×Int)(most:Int):Bool:=z1z b r&&inK most 1 4
abbrev S:=(Int×Int)×(Int×Int×List Int)
def chainS(b:List Int)(s:S)(i:Nat):S:=z06.g b s.1 s.2 (i:Int) ((i:Int)+1) 1 1
def starS(b:List Int)(s:S)(i:Nat):S:=z06.g b s.1 s.2 0 (i:Int) 1 1
def chainG(b:List Int)(r:Int×Int)(n c:Nat):S:=(List.range c).foldl (chainS b) (r,z02.g (n:Int))
def starG(b:List Int)(r:Int×Int):S:=((List.range 4).drop 1).foldl (starS b) (r,z02.g 4)
def f1(b:List Int)(r:Int×Int):S:=z06.g b r (z02.g 4) 0 1 1 1
def f2(b:List Int)(r:Int×Int):S:=z06.g b (f1 b r).1 (f1 b r).2 1 2 2 1
def f3(b:List Int)(r:Int×Int):S:=z06.g b (f2 b r).1 (f2 b r).2 2 3 1 1
def endB(b:List Int)(s:S)(n:Nat)(x y:Int):S:=z06.g b s.1 s.2 ((n:Int)-2) ((n:Int)-1) x y
def ones:List ByteArray:=[ByteArray.empty,⟨#[65,49]⟩,⟨#[65,49,32,65,49]⟩,⟨#[65,49,32,65,49,32,65,49]⟩,⟨#[65,49,32,65,49,32,65,49,32,65,49]⟩,⟨#[65,49,32,65,49,32,65,49,32,65,49,32,65,49]⟩]
def k1(k n most:Int):Int:=cond ((decide (4<=k)&&(decide (k<=6)&&decide (n<2)))||(decide (k=7)&&decide (most<2))) 0 k
def k2(k most:Int):Int:=cond ((decide (k=8)&&decide (most<4))||((decide (k=9)&&decide (most<4))||(decide (k=10)&&decide (most<3)))) 1 k
def tree(b:List Int)(r:Int×Int)(k:Int)(n:Nat):S×ByteArray :=
 if k=4 then(endB b (chainG b r n (n-2)) n 2 1,⟨#[66]⟩++z3m n)else
 if k=5 then(if n=2 then(endB b (chainG b r n (n-2)) n 2 1,⟨#[66]⟩++z3m n)else(endB b (chainG b r n (n-2)) n 1 2,⟨#[67]⟩++z3m n))else
 if k=6 then((r,z02.g n),ones.getD n ByteArray.empty)else
 if k=7 then(z06.g b r (z02.g 2) 0 1 3 1,⟨#[71,50]⟩)else
 if k=8 then(starG b r,⟨#[68,52]⟩)else
 if k=9 then(f3 b r,⟨#[70,52]⟩)else
 if k=10 then(z06.g b r (z02.g 3) 0 1 1 1,⟨#[65,49,32,65,50]⟩)else
 (chainG b r n (n-1),⟨#[65]⟩++z3m n)
def g(b:List Int)(r:Int×Int)(most:Int):(Int×Int)×(Int×Int×List Int)×ByteArray :=
 let k:=z00.g b r 11
 let n:=z00.g b k.1 most
 let t:=tree b n.1 (k2 (k1 k.2 (1+n.2) most) most) (1+n.2).toNat
 (t.1.1,t.1.2,t.2)
end spec_dTree
namespace spec_dTree
def Z1{ρ:Type}(N:Nat)(b0:List Int)(r0:Int×Int)(a:Int)(kn:Int->List Int->I4 (Option ρ)):Option ρ :=
 kn a b0 r0.1 r0.2 0 0
def Z3{ρ:Type}(N:Nat)(d:Int)(a:List Int)(b c e f:Int)(kn:I2 (List Int->I4 (Option ρ))):Option ρ :=
 cond (lk N (z00.P a (b,c) 11)) (
  kn d (z00.g a (b,c) 11).2 a (z00.g a (b,c) 11).1.1 (z00.g a (b,c) 11).1.2 e f) none
def Z5{ρ:Type}(N:Nat)(a e:Int)(b:List Int)(c d f h:Int)(kn:I3 (List Int->I4 (Option ρ))):Option ρ :=
 cond (lk N (z00.P b (c,d) a)) (
  kn a e (w64 (1+(z00.g b (c,d) a).2)) b (z00.g b (c,d) a).1.1 (z00.g b (c,d) a).1.2 f h) none
def Z7{ρ:Type}(N:Nat)(a b c:Int)(d:List Int)(e f g h:Int)(kn:I3 (List Int->I4 (Option ρ))):Option ρ :=
 cond (lk N (decide (4<=b)))
 (
  cond (lk N (decide (b<=6)))
  (
   cond (lk N (decide (c<2)))
   (
    kn a 0 c d e f g h)
   (
    cond (lk N (decide (b=7)))
    (
     cond (lk N (decide (a<2)))
     (
      kn a 0 c d e f g h)
     (
      kn a b c d e f g h))
    (
     kn a b c d e f g h)))
  (
   cond (lk N (decide (b=7)))
   (
    cond (lk N (decide (a<2)))
    (
     kn a 0 c d e f g h)
    (
     kn a b c d e f g h))
   (
    kn a b c d e f g h)))
 (
  cond (lk N (decide (b=7)))
  (
   cond (lk N (decide (a<2)))
   (
    kn a 0 c d e f g h)
   (
    kn a b c d e f g h))
  (
   kn a b c d e f g h))
def Z9{ρ:Type}(N:Nat)(h a b:Int)(c:List Int)(d e f g:Int)(kn:I2 (List Int->I4 (Option ρ))):Option ρ :=
 cond (lk N (decide (a=8)))
 (
  cond (lk N (decide (h<4)))
  (
   kn 1 b c d e f g)
  (
   cond (lk N (decide (a=9)))
   (
    cond (lk N (decide (h<4)))
    (
     kn 1 b c d e f g)
    (
     cond (lk N (decide (a=10)))
     (
      cond (lk N (decide (h<3)))
      (
       kn 1 b c d e f g)
      (
       kn a b c d e f g))
     (
      kn a b c d e f g)))
   (
    cond (lk N (decide (a=10)))
    (
     cond (lk N (decide (h<3)))
     (
      kn 1 b c d e f g)
     (
      kn a b c d e f g))
    (
     kn a b c d e f g))))
 (
  cond (lk N (decide (a=9)))
  (
   cond (lk N (decide (h<4)))
   (
    kn 1 b c d e f g)
   (
    cond (lk N (decide (a=10)))
    (
     cond (lk N (decide (h<3)))
     (
      kn 1 b c d e f g)
     (
      kn a b c d e f g))
    (
     kn a b c d e f g)))
  (
   cond (lk N (decide (a=10)))
   (
    cond (lk N (decide (h<3)))
    (
     kn 1 b c d e f g)
    (
     kn a b c d e f g))
   (
    kn a b c d e f g)))
def Z12{ρ:Type}(N:Nat)(a b:Int)(c:List Int)(d e f g:Int)(kn:I3 (List Int->I4 (Option ρ))):Option ρ :=
 kn a b a c d e f g
def Z15{ρ:Type}(N:Nat)(b c a:Int)(d:List Int)(e f g h:Int)(kn:I3 (Bool->List Int->I4 (Option ρ))):Option ρ :=
 cond (lk N (decide (a=4)))
 (
  kn b c a (lk N (decide (a=4))) d e f g h)
 (
  kn b c a (lk N (decide (a=5))) d e f g h)
def Z18{ρ:Type}(N:Nat)(b a i:Int)(j:Bool)(c:List Int)(d e f h:Int)(kn:LI->I2 (List Int->I6 (Option ρ))):Option ρ :=
 cond (lk N (z02.P a)) (
  kn (z02.g a).2.2 b a c d e f h (z02.g a).1 (z02.g a).2.1) none
def Z21{ρ:Type}(N:Nat)(a:LI)(b c:Int)(d:List Int)(e f g h i j:Int)(kn:LI->I3 (List Int->I6 (Option ρ))):Option ρ :=
 kn a b c 0 d e f g h i j
def Z24{ρ:Type}(N:Nat)(e:LI)(j i a:Int)(b:List Int)(f h l m c d:Int)(kn:LI->I3 (List Int->I6 (Option ρ)))(k1:LI->I2 (List Int->I6 (Option ρ))):Option ρ :=
 cond (lk N (decide ((w64 (a+2))<i)))
 (
  cond (lk N (z06.P b (f,h) (c,(d,e)) a (w64 (a+1)) 1 1)) (
   kn (z06.g b (f,h) (c,(d,e)) a (w64 (a+1)) 1 1).2.2.2 j i (w64 (a+1)) b (z06.g b (f,h) (c,(d,e)) a (w64 (a+1)) 1 1).1.1 (z06.g b (f,h) (c,(d,e)) a (w64 (a+1)) 1 1).1.2 l m c d) none)
 (
  k1 e j i b f h l m c d)
def Z23L{ρ:Type}(N:Nat)(k1:LI->I2 (List Int->I6 (Option ρ))):Nat->LI->Int->Int->Int->List Int->Int->Int->Int->Int->Int->Int->Option ρ
 | 0,_,_,_,_,_,_,_,_,_,_,_=>none
 | M+1,a,b,c,d,e,f,g,h,i,j,l=>Z24 N a b c d e f g h i j l (λa b c d e f g h i j l=>Z23L N k1 M a b c d e f g h i j l) k1
def Z23 N a b c d e f g h i j l k1:=(Z23L N k1 N a b c d e f g h i j l:Option ρ)
def Z22 N a b c d e f g h i j l kn:=(Z23 N a b c d e f g h i j l kn:Option ρ)
def Z20 N a b c d e f g h i j kn:=(Z21 N a b c d e f g h i j (λa b c l d e f g h i j=>Z22 N a b c l d e f g h i j kn):Option ρ)
def Z25{ρ:Type}(N:Nat)(e:LI)(i a:Int)(b:List Int)(f h j l c d:Int)(kr:LI->ByteArray->I2 (List Int->I2 (Option ρ))):Option ρ :=
 cond (lk N (decide (i=4)))
 (
  cond (lk N (z06.P b (f,h) (c,(d,e)) (w64 (a-2)) (w64 (a-1)) 2 1)) (
   cond (lk N (z0a.P a)) (
    bo (
     cond (Nat.blt ((⟨#[66]⟩:ByteArray).size+(z0a.g a).size) 4611686018427387904) (
      kr (z06.g b (f,h) (c,(d,e)) (w64 (a-2)) (w64 (a-1)) 2 1).2.2.2 ((⟨#[66]⟩:ByteArray)++(z0a.g a)) c d b (z06.g b (f,h) (c,(d,e)) (w64 (a-2)) (w64 (a-1)) 2 1).1.1 (z06.g b (f,h) (c,(d,e)) (w64 (a-2)) (w64 (a-1)) 2 1).1.2) none)) none) none)
 (
  cond (lk N (decide (a=2)))
  (
   cond (lk N (z06.P b (f,h) (c,(d,e)) (w64 (a-2)) (w64 (a-1)) 2 1)) (
    cond (lk N (z0a.P a)) (
     bo (
      cond (Nat.blt ((⟨#[66]⟩:ByteArray).size+(z0a.g a).size) 4611686018427387904) (
       kr (z06.g b (f,h) (c,(d,e)) (w64 (a-2)) (w64 (a-1)) 2 1).2.2.2 ((⟨#[66]⟩:ByteArray)++(z0a.g a)) c d b (z06.g b (f,h) (c,(d,e)) (w64 (a-2)) (w64 (a-1)) 2 1).1.1 (z06.g b (f,h) (c,(d,e)) (w64 (a-2)) (w64 (a-1)) 2 1).1.2) none)) none) none)
  (
   cond (lk N (z06.P b (f,h) (c,(d,e)) (w64 (a-2)) (w64 (a-1)) 1 2)) (
    cond (lk N (z0a.P a)) (
     bo (
      cond (Nat.blt ((⟨#[67]⟩:ByteArray).size+(z0a.g a).size) 4611686018427387904) (
       kr (z06.g b (f,h) (c,(d,e)) (w64 (a-2)) (w64 (a-1)) 1 2).2.2.2 ((⟨#[67]⟩:ByteArray)++(z0a.g a)) c d b (z06.g b (f,h) (c,(d,e)) (w64 (a-2)) (w64 (a-1)) 1 2).1.1 (z06.g b (f,h) (c,(d,e)) (w64 (a-2)) (w64 (a-1)) 1 2).1.2) none)) none) none))
def Z19 N a b c d e f g h i j kr:=(Z20 N a b c d e f g h i j (λa b c d e f g h i j=>Z25 N a b c d e f g h i j kr):Option ρ)
def Z17 N a b h i c d e f g kr:=(Z18 N a b h i c d e f g (λj a b c d e f g l m=>Z19 N j a b c d e f g l m kr):Option ρ)
def Z27{ρ:Type}(N:Nat)(h b a:Int)(i:Bool)(c:List Int)(d e f g:Int)(kn:I2 (Bool->List Int->I4 (Option ρ))):Option ρ :=
 kn b a (lk N (decide (a=6))) c d e f g
def Z29{ρ:Type}(N:Nat)(a e:Int)(f:Bool)(b:List Int)(c d h i:Int)(kr:LI->ByteArray->I2 (List Int->I2 (Option ρ))):Option ρ :=
 cond (lk N (z02.P a)) (
  z6d (
   cond (lk N (inB a ([ByteArray.empty,(⟨#[65,49]⟩:ByteArray),(⟨#[65,49,32,65,49]⟩:ByteArray),(⟨#[65,49,32,65,49,32,65,49]⟩:ByteArray),(⟨#[65,49,32,65,49,32,65,49,32,65,49]⟩:ByteArray),(⟨#[65,49,32,65,49,32,65,49,32,65,49,32,65,49]⟩:ByteArray)]:List ByteArray).length)) (
    bo (
     kr (z02.g a).2.2 (([ByteArray.empty,(⟨#[65,49]⟩:ByteArray),(⟨#[65,49,32,65,49]⟩:ByteArray),(⟨#[65,49,32,65,49,32,65,49]⟩:ByteArray),(⟨#[65,49,32,65,49,32,65,49,32,65,49]⟩:ByteArray),(⟨#[65,49,32,65,49,32,65,49,32,65,49,32,65,49]⟩:ByteArray)]:List ByteArray).getD a.toNat ByteArray.empty) (z02.g a).1 (z02.g a).2.1 b c d)) none)
  (
   cond (lk N (inB a ([ByteArray.empty,(⟨#[65,49]⟩:ByteArray),(⟨#[65,49,32,65,49]⟩:ByteArray),(⟨#[65,49,32,65,49,32,65,49]⟩:ByteArray),(⟨#[65,49,32,65,49,32,65,49,32,65,49]⟩:ByteArray),(⟨#[65,49,32,65,49,32,65,49,32,65,49,32,65,49]⟩:ByteArray)]:List ByteArray).length)) (
    kr (z02.g a).2.2 (([ByteArray.empty,(⟨#[65,49]⟩:ByteArray),(⟨#[65,49,32,65,49]⟩:ByteArray),(⟨#[65,49,32,65,49,32,65,49]⟩:ByteArray),(⟨#[65,49,32,65,49,32,65,49,32,65,49]⟩:ByteArray),(⟨#[65,49,32,65,49,32,65,49,32,65,49,32,65,49]⟩:ByteArray)]:List ByteArray).getD a.toNat ByteArray.empty) (z02.g a).1 (z02.g a).2.1 b c d) none)) none
def Z31{ρ:Type}(N:Nat)(b a:Int)(h:Bool)(c:List Int)(d e f g:Int)(kn:I2 (Bool->List Int->I4 (Option ρ))):Option ρ :=
 kn b a (lk N (decide (a=7))) c d e f g
def Z33{ρ:Type}(N:Nat)(d e:Int)(f:Bool)(a:List Int)(b c h i:Int)(kr:LI->ByteArray->I2 (List Int->I2 (Option ρ))):Option ρ :=
 cond (lk N (z02.P 2)) (
  cond (lk N (z06.P a (b,c) (z02.g 2) 0 1 3 1)) (
   kr (z06.g a (b,c) (z02.g 2) 0 1 3 1).2.2.2 (⟨#[71,50]⟩:ByteArray) (z02.g 2).1 (z02.g 2).2.1 a (z06.g a (b,c) (z02.g 2) 0 1 3 1).1.1 (z06.g a (b,c) (z02.g 2) 0 1 3 1).1.2) none) none
def Z35{ρ:Type}(N:Nat)(b a:Int)(h:Bool)(c:List Int)(d e f g:Int)(kn:I2 (Bool->List Int->I4 (Option ρ))):Option ρ :=
 kn b a (lk N (decide (a=8))) c d e f g
def Z38{ρ:Type}(N:Nat)(f h:Int)(i:Bool)(a:List Int)(b c d e:Int)(kn:LI->List Int->I6 (Option ρ)):Option ρ :=
 cond (lk N (z02.P 4)) (
  kn (z02.g 4).2.2 a b c d e (z02.g 4).1 (z02.g 4).2.1) none
def Z41{ρ:Type}(N:Nat)(a:LI)(b:List Int)(c d e f g h:Int)(kn:LI->Int->List Int->I6 (Option ρ)):Option ρ :=
 kn a 1 b c d e f g h
def Z44{ρ:Type}(N:Nat)(e:LI)(a:Int)(b:List Int)(f h i j c d:Int)(kn:LI->Int->List Int->I6 (Option ρ))(k3:LI->I4 (List Int->I2 (Option ρ))):Option ρ :=
 cond (lk N (decide (a<4)))
 (
  cond (lk N (z06.P b (f,h) (c,(d,e)) 0 a 1 1)) (
   kn (z06.g b (f,h) (c,(d,e)) 0 a 1 1).2.2.2 (w64 (a+1)) b (z06.g b (f,h) (c,(d,e)) 0 a 1 1).1.1 (z06.g b (f,h) (c,(d,e)) 0 a 1 1).1.2 i j c d) none)
 (
  k3 e i j c d b f h)
def Z43L{ρ:Type}(N:Nat)(k3:LI->I4 (List Int->I2 (Option ρ))):Nat->LI->Int->List Int->Int->Int->Int->Int->Int->Int->Option ρ
 | 0,_,_,_,_,_,_,_,_,_=>none
 | M+1,a,b,c,d,e,f,g,h,i=>Z44 N a b c d e f g h i (λa b c d e f g h i=>Z43L N k3 M a b c d e f g h i) k3
def Z43 N a b c d e f g h i k3:=(Z43L N k3 N a b c d e f g h i:Option ρ)
def Z42 N a b c d e f g h i kn:=(Z43 N a b c d e f g h i kn:Option ρ)
def Z40 N a b c d e f g h kn:=(Z41 N a b c d e f g h (λa i b c d e f g h=>Z42 N a i b c d e f g h kn):Option ρ)
def Z45{ρ:Type}(N:Nat)(a:LI)(g h b c:Int)(d:List Int)(e f:Int)(kr:LI->ByteArray->I2 (List Int->I2 (Option ρ))):Option ρ :=
 kr a (⟨#[68,52]⟩:ByteArray) b c d e f
def Z39 N a b c d e f g h kr:=(Z40 N a b c d e f g h (λa e f g h b c d=>Z45 N a e f g h b c d kr):Option ρ)
def Z37 N f g h a b c d e kr:=(Z38 N f g h a b c d e (λi a b c d e j l=>Z39 N i a b c d e j l kr):Option ρ)
def Z46{ρ:Type}(N:Nat)(e d:Int)(i:Bool)(a:List Int)(b c f h:Int)(kn:Int->List Int->I4 (Option ρ))(kr:LI->ByteArray->I2 (List Int->I2 (Option ρ))):Option ρ :=
 let x2_:=(z06.g a (b,c) (z02.g 4) 0 1 1 1)
 let x3_:=(z06.g a (b,c) (z02.g 3) 0 1 1 1)
 let x0_:=(z06.g a x2_.1 ((z02.g 4).1,((z02.g 4).2.1,x2_.2.2.2)) 1 2 2 1)
 let x1_:=(z06.g a x0_.1 ((z02.g 4).1,((z02.g 4).2.1,x0_.2.2.2)) 2 3 1 1)
 cond (lk N (decide (d=9)))
 (
 cond (lk N (z02.P 4)) (
 cond (lk N (z06.P a (b,c) (z02.g 4) 0 1 1 1)) (
 cond (lk N (z06.P a x2_.1 ((z02.g 4).1,((z02.g 4).2.1,x2_.2.2.2)) 1 2 2 1)) (
 cond (lk N (z06.P a x0_.1 ((z02.g 4).1,((z02.g 4).2.1,x0_.2.2.2)) 2 3 1 1)) (
 kr x1_.2.2.2 (⟨#[70,52]⟩:ByteArray) (z02.g 4).1 (z02.g 4).2.1 a x1_.1.1 x1_.1.2) none) none) none) none)
 (
 cond (lk N (decide (d=10)))
 (
 cond (lk N (z02.P 3)) (
 cond (lk N (z06.P a (b,c) (z02.g 3) 0 1 1 1)) (
 kr x3_.2.2.2 (⟨#[65,49,32,65,50]⟩:ByteArray) (z02.g 3).1 (z02.g 3).2.1 a x3_.1.1 x3_.1.2) none) none)
 (
 kn e a b c f h))
def Z36 N b c a d e f g h kn kr:=(cond (a) (Z37 N b c a d e f g h kr) (Z46 N b c a d e f g h kn kr):Option ρ)
def Z34 N a b h c d e f g kn kr:=(Z35 N a b h c d e f g (λa b i c d e f g=>Z36 N a b i c d e f g kn kr):Option ρ)
def Z32 N b c a d e f g h kn kr:=(cond (a) (Z33 N b c a d e f g h kr) (Z34 N b c a d e f g h kn kr):Option ρ)
def Z30 N a b h c d e f g kn kr:=(Z31 N a b h c d e f g (λa b i c d e f g=>Z32 N a b i c d e f g kn kr):Option ρ)
def Z28 N b c a d e f g h kn kr:=(cond (a) (Z29 N b c a d e f g h kr) (Z30 N b c a d e f g h kn kr):Option ρ)
def Z26 N h a b i c d e f g kn kr:=(Z27 N h a b i c d e f g (λa b j c d e f g=>Z28 N a b j c d e f g kn kr):Option ρ)
def Z16 N b c d a e f g h i kn kr:=(cond (a) (Z17 N b c d a e f g h i kr) (Z26 N b c d a e f g h i kn kr):Option ρ)
def Z14 N a b c d e f g h kn kr:=(Z15 N a b c d e f g h (λa b c i d e f g h=>Z16 N a b c i d e f g h kn kr):Option ρ)
def Z13 N a b c d e f g h kn kr:=(Z14 N a b c d e f g h kn kr:Option ρ)
def Z11 N a b c d e f g kn kr:=(Z12 N a b c d e f g (λa b h c d e f g=>Z13 N a b h c d e f g kn kr):Option ρ)
def Z48{ρ:Type}(N:Nat)(a:Int)(b:List Int)(c d e f:Int)(kn:LI->Int->List Int->I6 (Option ρ)):Option ρ :=
 cond (lk N (z02.P a)) (
  kn (z02.g a).2.2 a b c d e f (z02.g a).1 (z02.g a).2.1) none
def Z51{ρ:Type}(N:Nat)(a:LI)(b:Int)(c:List Int)(d e f g h i:Int)(kn:LI->I2 (List Int->I6 (Option ρ))):Option ρ :=
 kn a b 0 c d e f g h i
def Z54{ρ:Type}(N:Nat)(e:LI)(i a:Int)(b:List Int)(f h j l c d:Int)(kn:LI->I2 (List Int->I6 (Option ρ)))(k5:LI->I5 (List Int->I2 (Option ρ))):Option ρ :=
 cond (lk N (decide ((w64 (a+1))<i)))
 (
  cond (lk N (z06.P b (f,h) (c,(d,e)) a (w64 (a+1)) 1 1)) (
   kn (z06.g b (f,h) (c,(d,e)) a (w64 (a+1)) 1 1).2.2.2 i (w64 (a+1)) b (z06.g b (f,h) (c,(d,e)) a (w64 (a+1)) 1 1).1.1 (z06.g b (f,h) (c,(d,e)) a (w64 (a+1)) 1 1).1.2 j l c d) none)
 (
  k5 e i j l c d b f h)
def Z53L{ρ:Type}(N:Nat)(k5:LI->I5 (List Int->I2 (Option ρ))):Nat->LI->Int->Int->List Int->Int->Int->Int->Int->Int->Int->Option ρ
 | 0,_,_,_,_,_,_,_,_,_,_=>none
 | M+1,a,b,c,d,e,f,g,h,i,j=>Z54 N a b c d e f g h i j (λa b c d e f g h i j=>Z53L N k5 M a b c d e f g h i j) k5
def Z53 N a b c d e f g h i j k5:=(Z53L N k5 N a b c d e f g h i j:Option ρ)
def Z52 N a b c d e f g h i j kn:=(Z53 N a b c d e f g h i j kn:Option ρ)
def Z50 N a b c d e f g h i kn:=(Z51 N a b c d e f g h i (λa b j c d e f g h i=>Z52 N a b j c d e f g h i kn):Option ρ)
def Z55{ρ:Type}(N:Nat)(b:LI)(a i j c d:Int)(e:List Int)(f h:Int)(kr:LI->ByteArray->I2 (List Int->I2 (Option ρ))):Option ρ :=
 cond (lk N (z0a.P a)) (
  bo (
   cond (Nat.blt ((⟨#[65]⟩:ByteArray).size+(z0a.g a).size) 4611686018427387904) (
    kr b ((⟨#[65]⟩:ByteArray)++(z0a.g a)) c d e f h) none)) none
def Z49 N a b c d e f g h i kr:=(Z50 N a b c d e f g h i (λa b f g h i c d e=>Z55 N a b f g h i c d e kr):Option ρ)
def Z47 N a b c d e f kr:=(Z48 N a b c d e f (λg a b c d e f h i=>Z49 N g a b c d e f h i kr):Option ρ)
def Z10 N g a b c d e f kr:=(Z11 N g a b c d e f (λa b c d e f=>Z47 N a b c d e f kr) kr:Option ρ)
def Z8 N h a b c d e f g kr:=(Z9 N h a b c d e f g (λa b c d e f g=>Z10 N a b c d e f g kr):Option ρ)
def Z6 N a b c d e f g h kr:=(Z7 N a b c d e f g h (λa b c d e f g h=>Z8 N a b c d e f g h kr):Option ρ)
def Z4 N a b c d e f g kr:=(Z5 N a b c d e f g (λa b h c d e f g=>Z6 N a b h c d e f g kr):Option ρ)
def Z2 N a b c d e f kr:=(Z3 N a b c d e f (λa g b c d e f=>Z4 N a g b c d e f kr):Option ρ)
def Z0 N b0 r0 a kr:=(Z1 N b0 r0 a (λa b c d e f=>Z2 N a b c d e f kr):Option ρ)
def Spec:Prop:=∀{U:Type} (u:U) (b0:List Int) (r0:Int×Int) (v1:Int),Ty.bd (.sl 0 (.int .u8)) b0->P b0 r0 v1=true->∃N0,∀N,N0<=N->Z0 N b0 r0 v1 (λv4_2 v5 v4_0 v4_1 w0_0 w0_1 w0_2=>some (u,((w0_1,w0_2),((),((v4_0,(v4_1,v4_2)),(v5,()))))))=some (u,((g b0 r0 v1).1,((),((g b0 r0 v1).2.1,((g b0 r0 v1).2.2,())))))
structure J(b:List Int)(n:Int)(s:S):Prop where
 cur:z1z b s.1=true
 dim:z3i s.2=true
 hn:s.2.1=n
 hr:s.2.2.1=n
def J.join{b:List Int}{n:Int}{s:S}(h:J b n s)(i j x y:Int):J b n (z06.g b s.1 s.2 i j x y) :=
 ⟨z06.keep h.cur,z06.dim_join h.dim,h.hn,h.hr⟩
def dim_zero{n:Int}(h1:1<=n)(h5:n<=5):z3i (z02.g n)=true:=by
 have:n=1\/n=2\/n=3\/n=4\/n=5:=by omega
 rcases this with rfl | rfl | rfl | rfl | rfl<;>rfl
def J.zero{b:List Int}{r:Int×Int}{n:Int}(h:z1z b r=true)(h1:1<=n)(h5:n<=5):J b n (r,z02.g n):=⟨h,dim_zero h1 h5,rfl,rfl⟩
def J.P{b:List Int}{n:Int}{s:S}(h:J b n s){i j x y:Int}(hi:0<=i/\i<n)(hj:0<=j/\j<n)(ha:0<=x/\x<=1000)(hc:0<=y/\y<=1000):z06.P b s.1 s.2 i j x y=true:=by
 have:=h.hn
 simp only[z06.P,Bool.and_eq_true,z2b]
 exact⟨h.cur,h.dim,by omega,by omega,by omega,by omega⟩
def J.chain{b:List Int}{n:Int}:∀(l:List Nat) {s:S},J b n s->J b n (l.foldl (chainS b) s)
 | [],_,h=>h
 | i::l,s,h=>J.chain l (s:=chainS b s i) (h.join _ _ _ _)
def J.star{b:List Int}{n:Int}:∀(l:List Nat) {s:S},J b n s->J b n (l.foldl (starS b) s)
 | [],_,h=>h
 | i::l,s,h=>J.star l (s:=starS b s i) (h.join _ _ _ _)
def loopB{ρ:Type}{N:Nat}{b:List Int}(kk:List Int->Int->Int->List Int->Int->Int->Int->Int->Int->Int->Option ρ)(t0 t1 kd:Int){c:Nat}(hc:c<=4):∀(M i:Nat) (s:S),i<=c->J b ((c:Int)+2) s->c-i<M ->
  Z23L N kk M s.2.2.2 kd ((c:Int)+2) (i:Int) b s.1.1 s.1.2 t0 t1 s.2.1 s.2.2.1=kk (((List.range c).drop i).foldl (chainS b) s).2.2.2 kd ((c:Int)+2) b (((List.range c).drop i).foldl (chainS b) s).1.1 (((List.range c).drop i).foldl (chainS b) s).1.2 t0 t1 s.2.1 s.2.2.1:=by
 intro M
 induction M with
 | zero=>intro i s _ _ h;omega
 | succ M ih =>
  intro i s hi hs hM
  simp only[Z23L,Z24]
  have w2:w64 ((i:Int)+2)=(i:Int)+2:=z1c (by omega) (by omega)
  have w1:w64 ((i:Int)+1)=(i:Int)+1:=z1c (by omega) (by omega)
  rw[w2]
  by_cases h:i<c
  ·have hP:=hs.P (i:=(i:Int)) (j:=(i:Int)+1) (x:=1) (y:=1) (by omega) (by omega) (by omega) (by omega)
   have es:((s.1.1,s.1.2):Int×Int)=s.1:=rfl
   have em:((s.2.1,(s.2.2.1,s.2.2.2)):Int×Int×List Int)=s.2:=rfl
   rw[ct (dt (by omega)),es,em,w1,ct hP,z4e h,List.foldl_cons]
   exact ih (i+1) (chainS b s i) h (hs.join _ _ _ _) (by omega)
  ·rw[cf (df (by omega)),List.drop_of_length_le (by rw[List.length_range];omega)]
   rfl
def loopA{ρ:Type}{N:Nat}{b:List Int}(kk:List Int->Int->Int->Int->Int->Int->List Int->Int->Int->Option ρ)(t0 t1:Int){c:Nat}(hc:c<=4):∀(M i:Nat) (s:S),i<=c->J b ((c:Int)+1) s->c-i<M ->
  Z53L N kk M s.2.2.2 ((c:Int)+1) (i:Int) b s.1.1 s.1.2 t0 t1 s.2.1 s.2.2.1=kk (((List.range c).drop i).foldl (chainS b) s).2.2.2 ((c:Int)+1) t0 t1 s.2.1 s.2.2.1 b (((List.range c).drop i).foldl (chainS b) s).1.1 (((List.range c).drop i).foldl (chainS b) s).1.2:=by
 intro M
 induction M with
 | zero=>intro i s _ _ h;omega
 | succ M ih =>
  intro i s hi hs hM
  simp only[Z53L,Z54]
  have w1:w64 ((i:Int)+1)=(i:Int)+1:=z1c (by omega) (by omega)
  rw[w1]
  by_cases h:i<c
  ·have hP:=hs.P (i:=(i:Int)) (j:=(i:Int)+1) (x:=1) (y:=1) (by omega) (by omega) (by omega) (by omega)
   have es:((s.1.1,s.1.2):Int×Int)=s.1:=rfl
   have em:((s.2.1,(s.2.2.1,s.2.2.2)):Int×Int×List Int)=s.2:=rfl
   rw[ct (dt (by omega)),es,em,ct hP,z4e h,List.foldl_cons]
   exact ih (i+1) (chainS b s i) h (hs.join _ _ _ _) (by omega)
  ·rw[cf (df (by omega)),List.drop_of_length_le (by rw[List.length_range];omega)]
   rfl
def loopD{ρ:Type}{N:Nat}{b:List Int}(kk:List Int->Int->Int->Int->Int->List Int->Int->Int->Option ρ)(t0 t1:Int):∀(M i:Nat) (s:S),i<=4->J b 4 s->4-i<M ->
  Z43L N kk M s.2.2.2 (i:Int) b s.1.1 s.1.2 t0 t1 s.2.1 s.2.2.1=kk (((List.range 4).drop i).foldl (starS b) s).2.2.2 t0 t1 s.2.1 s.2.2.1 b (((List.range 4).drop i).foldl (starS b) s).1.1 (((List.range 4).drop i).foldl (starS b) s).1.2:=by
 intro M
 induction M with
 | zero=>intro i s _ _ h;omega
 | succ M ih =>
  intro i s hi hs hM
  simp only[Z43L,Z44]
  have w1:w64 ((i:Int)+1)=((i+1:Nat):Int):=z1d (by rw[z0y];omega)
  by_cases h:i<4
  ·have hP:=hs.P (i:=0) (j:=(i:Int)) (x:=1) (y:=1) (by omega) (by omega) (by omega) (by omega)
   have es:((s.1.1,s.1.2):Int×Int)=s.1:=rfl
   have em:((s.2.1,(s.2.2.1,s.2.2.2)):Int×Int×List Int)=s.2:=rfl
   rw[ct (dt (by omega)),es,em,w1,ct hP,z4e h,List.foldl_cons]
   exact ih (i+1) (starS b s i) h (hs.join _ _ _ _) (by omega)
  ·rw[cf (df (by omega)),List.drop_of_length_le (by rw[List.length_range];omega)]
   rfl
def tree_J{b:List Int}{r:Int×Int}(h:z1z b r=true)(k:Int){n:Nat}(h1:1<=n)(h4:n<=4):∃q:Int,1<=q/\q<=4/\J b q (tree b r k n).1:=by
 have z:J b (n:Int) (r,z02.g (n:Int)):=J.zero h (by omega) (by omega)
 have c:∀c,J b (n:Int) (chainG b r n c):=λc=>J.chain (List.range c) z
 unfold tree
 split
 ·exact⟨n,by omega,by omega,(c _).join _ _ _ _⟩
 split
 ·split
  ·exact⟨n,by omega,by omega,(c _).join _ _ _ _⟩
  ·exact⟨n,by omega,by omega,(c _).join _ _ _ _⟩
 split
 ·exact⟨n,by omega,by omega,z⟩
 split
 ·exact⟨2,by omega,by omega,(J.zero h (by omega) (by omega)).join _ _ _ _⟩
 split
 ·exact⟨4,by omega,by omega,J.star _ (J.zero h (by omega) (by omega))⟩
 split
 ·exact⟨4,by omega,by omega,(((J.zero h (by omega) (by omega):J b 4 (r,z02.g 4)).join 0 1 1 1).join 1 2 2 1).join 2 3 1 1⟩
 split
 ·exact⟨3,by omega,by omega,(J.zero h (by omega) (by omega)).join _ _ _ _⟩
 ·exact⟨n,by omega,by omega,c _⟩
def facts{b:List Int}{r:Int×Int}{most:Int}(h:z1z b r=true)(h1:1<=most)(h4:most<=4):∃q:Int,1<=q/\q<=4/\J b q ((g b r most).1,(g b r most).2.1):=by
 have k0:=z00.keep (n:=11) h
 have k1:=z00.keep (n:=most) k0
 have rn:=z00.range (b:=b) (r:=(z00.g b r 11).1) (n:=most) h1 (by omega)
 obtain⟨q,h1,h2,h3⟩:=tree_J k1 (Fw.spec_dTree.k2 (Fw.spec_dTree.k1 (z00.g b r 11).2 (1+(z00.g b (z00.g b r 11).1 most).2) most) most) (n:=(1+(z00.g b (z00.g b r 11).1 most).2).toNat) (by omega) (by omega)
 exact⟨q,h1,h2,h3⟩
def z7{ρ:Type}{N:Nat}(most k n:Int)(b:List Int)(r1 r2 t0 t1:Int)(kn:Int->Int->Int->List Int->Int->Int->Int->Int->Option ρ):Z7 N most k n b r1 r2 t0 t1 kn=kn most (k1 k n most) n b r1 r2 t0 t1:=by
 simp only[Z7,z1t,k1]
 cases decide (4<=k)<;>cases decide (k<=6)<;>cases decide (n<2)<;>cases decide (k=7)<;>cases decide (most<2)<;>rfl
def z9{ρ:Type}{N:Nat}(most k n:Int)(b:List Int)(r1 r2 t0 t1:Int)(kn:Int->Int->List Int->Int->Int->Int->Int->Option ρ):Z9 N most k n b r1 r2 t0 t1 kn=kn (k2 k most) n b r1 r2 t0 t1:=by
 simp only[Z9,z1t,k2]
 cases decide (k=8)<;>cases decide (most<4)<;>cases decide (k=9)<;>cases decide (k=10)<;>cases decide (most<3)<;>rfl
def zgu{c:UInt8}{n:Nat}(h:n<=4):Nat.blt ((⟨#[c]⟩:ByteArray).size+(z0a.g (n:Int)).size) 4611686018427387904=true:=by
 have e:(z0a.g (n:Int)).size=(Lib.itoa (n:Int)).length:=by
  show(txt (Lib.itoa (n:Int))).size=_
  exact z5w _
 have h2:=Lib.itoa_length_le (n:Int) (by omega) (by omega)
 refine Nat.ble_eq_true_of_le ?_
 rw[e]
 show 1+_+1<=_
 omega
def fmtP{n:Nat}(h:n<=4):z0a.P (n:Int)=true:=by
 show zf0 (n:Int)=true
 simp only[zf0,Bool.and_eq_true,decide_eq_true_eq]
 omega
def dzP{n:Nat}(h:n<=4):z02.P (n:Int)=true:=by
 simp only[z02.P,inK,Bool.and_eq_true,decide_eq_true_eq]
 omega
def main{ρ:Type}{N:Nat}(hN:20<=N){b:List Int}{r:Int×Int}(h:z1z b r=true)(kd:Int){n:Nat}(h1:1<=n)(h4:n<=4)(hk:kd=4\/kd=5->2<=n)(t0 t1:Int)(kr:List Int->ByteArray->Int->Int->List Int->Int->Int->Option ρ) :
  Z10 N kd (n:Int) b r.1 r.2 t0 t1 kr=kr (tree b r kd n).1.2.2.2 (tree b r kd n).2 (tree b r kd n).1.2.1 (tree b r kd n).1.2.2.1 b (tree b r kd n).1.1.1 (tree b r kd n).1.1.2:=by
 have fm:z0a.P (n:Int)=true:=fmtP h4
 have fg:z0a.g (n:Int)=z3m n:=rfl
 have zP:=dzP h4
 have zJ:J b (n:Int) (r,z02.g (n:Int)):=J.zero h (by omega) (by omega)
 have w2:w64 ((n:Int)-2)=(n:Int)-2:=z1c (by omega) (by omega)
 have w1:w64 ((n:Int)-1)=(n:Int)-1:=z1c (by omega) (by omega)
 have er:((r.1,r.2):Int×Int)=r:=rfl
 have big:∀{σ:Type} (hn:2<=n) (kn:List Int->Int->Int->List Int->Int->Int->Int->Int->Int->Int->Option σ),Z20 N (z02.g (n:Int)).2.2 kd (n:Int) b r.1 r.2 t0 t1 (z02.g (n:Int)).1 (z02.g (n:Int)).2.1 kn =
   kn (chainG b r n (n-2)).2.2.2 kd (n:Int) b (chainG b r n (n-2)).1.1 (chainG b r n (n-2)).1.2 t0 t1 (n:Int) (n:Int):=by
  intro σ hn kn
  obtain⟨c,rfl⟩:∃c,n=c+2:=⟨n-2,by omega⟩
  simp only[Z20,Z21,Z22,Z23]
  have e:((c+2:Nat):Int)=(c:Int)+2:=by omega
  rw[e]at zJ ⊢
  refine(loopB kn t0 t1 kd (by omega) N 0 (r,z02.g ((c:Int)+2)) (Nat.zero_le _) zJ (by omega)).trans ?_
  rw[List.drop_zero]
  unfold chainG
  rw[e]
  rfl
 by_cases c4:kd=4
 ·have hn:=hk (.inl c4)
  have jc:J b (n:Int) (chainG b r n (n-2)):=J.chain _ zJ
  have pj:=jc.P (i:=(n:Int)-2) (j:=(n:Int)-1) (x:=2) (y:=1) (by omega) (by omega) (by omega) (by omega)
  have em:(((n:Int),((n:Int),(chainG b r n (n-2)).2.2.2)):Int×Int×List Int)=(chainG b r n (n-2)).2:=by
   rw[show(chainG b r n (n-2)).2=((chainG b r n (n-2)).2.1,(chainG b r n (n-2)).2.2.1,(chainG b r n (n-2)).2.2.2)from rfl,jc.hn,jc.hr]
  have es:(((chainG b r n (n-2)).1.1,(chainG b r n (n-2)).1.2):Int×Int)=(chainG b r n (n-2)).1:=rfl
  have et:tree b r kd n=(endB b (chainG b r n (n-2)) n 2 1,⟨#[66]⟩++z3m n):=if_pos c4
  have e1:(endB b (chainG b r n (n-2)) n 2 1).2.1=(n:Int):=jc.hn
  have e2:(endB b (chainG b r n (n-2)) n 2 1).2.2.1=(n:Int):=jc.hr
  have sz:=zgu (c:=66) h4
  rw[fg]at sz
  simp only[Z10,Z11,Z12,Z13,Z14,Z15,Z16,Z17,Z18,Z19,z1t,dt c4,zP,cond_true]
  rw[big hn]
  simp only[Z25,z1t,dt c4,w1,w2,em,es,pj,fm,fg,sz,cond_true,z30,et,e1,e2]
  rfl
 by_cases c5:kd=5
 ·have hn:=hk (.inr c5)
  have jc:J b (n:Int) (chainG b r n (n-2)):=J.chain _ zJ
  have pj:=jc.P (i:=(n:Int)-2) (j:=(n:Int)-1) (x:=2) (y:=1) (by omega) (by omega) (by omega) (by omega)
  have pj':=jc.P (i:=(n:Int)-2) (j:=(n:Int)-1) (x:=1) (y:=2) (by omega) (by omega) (by omega) (by omega)
  have em:(((n:Int),((n:Int),(chainG b r n (n-2)).2.2.2)):Int×Int×List Int)=(chainG b r n (n-2)).2:=by
   rw[show(chainG b r n (n-2)).2=((chainG b r n (n-2)).2.1,(chainG b r n (n-2)).2.2.1,(chainG b r n (n-2)).2.2.2)from rfl,jc.hn,jc.hr]
  have es:(((chainG b r n (n-2)).1.1,(chainG b r n (n-2)).1.2):Int×Int)=(chainG b r n (n-2)).1:=rfl
  have e1:∀x y,(endB b (chainG b r n (n-2)) n x y).2.1=(n:Int):=λ_ _=>jc.hn
  have e2:∀x y,(endB b (chainG b r n (n-2)) n x y).2.2.1=(n:Int):=λ_ _=>jc.hr
  have sz:=zgu (c:=66) h4
  have sz':=zgu (c:=67) h4
  rw[fg]at sz sz'
  simp only[Z10,Z11,Z12,Z13,Z14,Z15,Z16,Z17,Z18,Z19,z1t,df c4,dt c5,zP,cond_true,cond_false]
  rw[big hn]
  by_cases c2:n=2
  ·have et:tree b r kd n=(endB b (chainG b r n (n-2)) n 2 1,⟨#[66]⟩++z3m n):=(if_neg c4).trans ((if_pos c5).trans (if_pos c2))
   have c2':(n:Int)=2:=by omega
   simp only[Z25,z1t,df c4,dt c2',w1,w2,em,es,pj,fm,fg,sz,cond_true,cond_false,z30,et,e1,e2]
   rfl
  ·have et:tree b r kd n=(endB b (chainG b r n (n-2)) n 1 2,⟨#[67]⟩++z3m n):=(if_neg c4).trans ((if_pos c5).trans (if_neg c2))
   have c2':¬ (n:Int)=2:=by omega
   simp only[Z25,z1t,df c4,df c2',w1,w2,em,es,pj',fm,fg,sz',cond_true,cond_false,z30,et,e1,e2]
   rfl
 simp only[Z10,Z11,Z12,Z13,Z14,Z15,Z16,Z26,Z27,Z28,z1t,df c4,df c5,cond_false]
 by_cases c6:kd=6
 ·have et:tree b r kd n=((r,z02.g (n:Int)),ones.getD n ByteArray.empty):=(if_neg c4).trans ((if_neg c5).trans (if_pos c6))
  have ib:inB (n:Int) ones.length=true:=z1g (by show n<6;omega)
  simp only[ones]at ib
  simp only[Z29,z1t,dt c6,zP,ib,cond_true,z30,et,Int.toNat_natCast]
  rfl
 simp only[df c6,cond_false,Z30,Z31,Z32,z1t]
 by_cases c7:kd=7
 ·have et:tree b r kd n=(z06.g b r (z02.g 2) 0 1 3 1,⟨#[71,50]⟩):=(if_neg c4).trans ((if_neg c5).trans ((if_neg c6).trans (if_pos c7)))
  have z2:J b 2 (r,z02.g 2):=J.zero h (by omega) (by omega)
  have pj:=z2.P (i:=0) (j:=1) (x:=3) (y:=1) (by omega) (by omega) (by omega) (by omega)
  have pz:z02.P 2=true:=rfl
  simp only[Z33,z1t,dt c7,pz,er,pj,cond_true,et]
  rfl
 simp only[df c7,cond_false,Z34,Z35,Z36,z1t]
 have z4:J b 4 (r,z02.g 4):=J.zero h (by omega) (by omega)
 have pz4:z02.P 4=true:=rfl
 by_cases c8:kd=8
 ·have et:tree b r kd n=(starG b r,⟨#[68,52]⟩):=(if_neg c4).trans ((if_neg c5).trans ((if_neg c6).trans ((if_neg c7).trans (if_pos c8))))
  have js:J b 4 (starG b r):=J.star _ z4
  simp only[Z37,Z38,Z39,Z40,Z41,Z42,Z43,z1t,dt c8,pz4,cond_true,et]
  refine(loopD _ t0 t1 N 1 (r,z02.g 4) (by omega) z4 (by omega)).trans ?_
  simp only[Z45]
  rw[js.hn,js.hr]
  rfl
 simp only[df c8,cond_false,Z46,z1t]
 by_cases c9:kd=9
 ·have et:tree b r kd n=(f3 b r,⟨#[70,52]⟩):=(if_neg c4).trans ((if_neg c5).trans ((if_neg c6).trans ((if_neg c7).trans ((if_neg c8).trans (if_pos c9)))))
  have ja:J b 4 (f1 b r):=z4.join _ _ _ _
  have jb:J b 4 (f2 b r):=ja.join _ _ _ _
  have p1:=z4.P (i:=0) (j:=1) (x:=1) (y:=1) (by omega) (by omega) (by omega) (by omega)
  have p2:=ja.P (i:=1) (j:=2) (x:=2) (y:=1) (by omega) (by omega) (by omega) (by omega)
  have p3:=jb.P (i:=2) (j:=3) (x:=1) (y:=1) (by omega) (by omega) (by omega) (by omega)
  have g1:z06.g b r (z02.g 4) 0 1 1 1=f1 b r:=rfl
  have g2:z06.g b (f1 b r).1 (f1 b r).2 1 2 2 1=f2 b r:=rfl
  have g3:z06.g b (f2 b r).1 (f2 b r).2 2 3 1 1=f3 b r:=rfl
  have s1:(((z02.g 4).1,((z02.g 4).2.1,(f1 b r).2.2.2)):Int×Int×List Int)=(f1 b r).2:=rfl
  have s2:(((z02.g 4).1,((z02.g 4).2.1,(f2 b r).2.2.2)):Int×Int×List Int)=(f2 b r).2:=rfl
  simp only[z1t,dt c9,pz4,er,p1,g1,s1,p2,g2,s2,p3,g3,cond_true,et]
  rfl
 simp only[df c9,cond_false]
 by_cases c10:kd=10
 ·have et:tree b r kd n=(z06.g b r (z02.g 3) 0 1 1 1,⟨#[65,49,32,65,50]⟩):=(if_neg c4).trans ((if_neg c5).trans ((if_neg c6).trans ((if_neg c7).trans ((if_neg c8).trans ((if_neg c9).trans (if_pos c10))))))
  have z3:J b 3 (r,z02.g 3):=J.zero h (by omega) (by omega)
  have pj:=z3.P (i:=0) (j:=1) (x:=1) (y:=1) (by omega) (by omega) (by omega) (by omega)
  have pz:z02.P 3=true:=rfl
  simp only[z1t,dt c10,pz,er,pj,cond_true,et]
  rfl
 have et:tree b r kd n=(chainG b r n (n-1),⟨#[65]⟩++z3m n):=(if_neg c4).trans ((if_neg c5).trans ((if_neg c6).trans ((if_neg c7).trans ((if_neg c8).trans ((if_neg c9).trans (if_neg c10))))))
 have jc:J b (n:Int) (chainG b r n (n-1)):=J.chain _ zJ
 have sz:=zgu (c:=65) h4
 rw[fg]at sz
 simp only[df c10,cond_false,Z47,Z48,Z49,z1t,zP,cond_true,et]
 obtain⟨c,rfl⟩:∃c,n=c+1:=⟨n-1,by omega⟩
 simp only[Z50,Z51,Z52,Z53]
 have e:((c+1:Nat):Int)=(c:Int)+1:=by omega
 have hc:∀{σ:Type} (kn:List Int->Int->Int->Int->Int->Int->List Int->Int->Int->Option σ),Z53L N kn N (z02.g ((c+1:Nat):Int)).2.2 ((c+1:Nat):Int) 0 b r.1 r.2 t0 t1 (z02.g ((c+1:Nat):Int)).1 (z02.g ((c+1:Nat):Int)).2.1 =
   kn (chainG b r (c+1) c).2.2.2 ((c+1:Nat):Int) t0 t1 ((c+1:Nat):Int) ((c+1:Nat):Int) b (chainG b r (c+1) c).1.1 (chainG b r (c+1) c).1.2:=by
  intro σ kn
  rw[e]at zJ ⊢
  refine(loopA kn t0 t1 (by omega) N 0 (r,z02.g ((c:Int)+1)) (Nat.zero_le _) zJ (by omega)).trans ?_
  rw[List.drop_zero]
  unfold chainG
  rw[e]
  rfl
 rw[hc]
 have hn1:(chainG b r (c+1) (c+1-1)).2.1=((c+1:Nat):Int):=jc.hn
 have hr1:(chainG b r (c+1) (c+1-1)).2.2.1=((c+1:Nat):Int):=jc.hr
 simp only[Z55,z1t,fm,fg,sz,cond_true,z30,hn1,hr1]
 rfl
def ok:Spec:=λu b r most hb hp=>⟨20,λN hN=>by
 simp only[P,Bool.and_eq_true,z2b]at hp
 obtain⟨h,hm1,hm4⟩:=hp
 have h0:=z00.keep (n:=11) h
 have hh:=z00.keep (n:=most) h0
 have p0:z00.P b r 11=true:=h
 have p1:z00.P b (z00.g b r 11).1 most=true:=h0
 have rk:=z00.range (b:=b) (r:=r) (n:=11) (by omega) (by omega)
 have rn:=z00.range (b:=b) (r:=(z00.g b r 11).1) (n:=most) hm1 (by omega)
 have er:((r.1,r.2):Int×Int)=r:=rfl
 have e1:(((z00.g b r 11).1.1,(z00.g b r 11).1.2):Int×Int)=(z00.g b r 11).1:=rfl
 have w1:w64 (1+(z00.g b (z00.g b r 11).1 most).2)=1+(z00.g b (z00.g b r 11).1 most).2:=z1c (by omega) (by omega)
 simp only[Z0,Z1,Z2,Z3,Z4,Z5,z1t,er,p0,e1,p1,w1,cond_true,Z6,z7,Z8,z9]
 have eg:g b r most=((tree b (z00.g b (z00.g b r 11).1 most).1 (Fw.spec_dTree.k2 (Fw.spec_dTree.k1 (z00.g b r 11).2 (1+(z00.g b (z00.g b r 11).1 most).2) most) most) (1+(z00.g b (z00.g b r 11).1 most).2).toNat).1.1,
   (tree b (z00.g b (z00.g b r 11).1 most).1 (Fw.spec_dTree.k2 (Fw.spec_dTree.k1 (z00.g b r 11).2 (1+(z00.g b (z00.g b r 11).1 most).2) most) most) (1+(z00.g b (z00.g b r 11).1 most).2).toNat).1.2,
   (tree b (z00.g b (z00.g b r 11).1 most).1 (Fw.spec_dTree.k2 (Fw.spec_dTree.k1 (z00.g b r 11).2 (1+(z00.g b (z00.g b r 11).1 most).2) most) most) (1+(z00.g b (z00.g b r 11).1 most).2).toNat).2):=rfl
 rw[eg]
 generalize(z00.g b (z00.g b r 11).1 most).1=r2 at hh
 generalize hq:1+(z00.g b (z00.g b r 11).1 most).2=q
 obtain⟨n,rfl⟩:=Int.eq_ofNat_of_zero_le (show 0<=q by omega)
 have hk:Fw.spec_dTree.k2 (Fw.spec_dTree.k1 (z00.g b r 11).2 (n:Int) most) most=4\/Fw.spec_dTree.k2 (Fw.spec_dTree.k1 (z00.g b r 11).2 (n:Int) most) most=5->2<=n:=by
  intro hx
  by_cases h2:2<=n
  ·exact h2
  ·exfalso
   generalize(z00.g b r 11).2=k at rk hx
   have:¬ ((decide (4<=k)&&(decide (k<=6)&&decide ((n:Int)<2)))||(decide (k=7)&&decide (most<2)))=true->¬ (4<=k/\k<=6):=by
    simp
    omega
   unfold Fw.spec_dTree.k2 Fw.spec_dTree.k1 at hx
   by_cases hb:((decide (4<=k)&&(decide (k<=6)&&decide ((n:Int)<2)))||(decide (k=7)&&decide (most<2)))=true
   ·rw[hb]at hx
    simp at hx
   ·have hb':=this hb
    simp only[Bool.not_eq_true]at hb
    rw[hb]at hx
    simp only[cond_false]at hx
    cases hc:((decide (k=8)&&decide (most<4))||((decide (k=9)&&decide (most<4))||(decide (k=10)&&decide (most<3))))<;>rw[hc]at hx<;>simp at hx<;>omega
 rw[main (by omega) hh _ (by omega) (by omega) hk]
 rw[Int.toNat_natCast]⟩
end spec_dTree
end
end Go.Fw
namespace Go.Fw
section
variable {ρ : Type}
namespace z3l
def g(n low high:Int):Bool:=inK n low high
end z3l
namespace z3l
def Z0{ρ:Type}(N:Nat)(a b c:Int)(kr:Bool->Option ρ):Option ρ :=
 cond (lk N (decide (b<=a)))
 (
  kr (lk N (decide (a<=c))))
 (
  kr false)
def Spec:Prop:=∀ (v0 v1 v2:Int),∃N0,∀N,N0<=N->Z0 N v0 v1 v2 (λv6=>some ((),(v6,())))=some ((),((g v0 v1 v2),()))
def ok:Spec:=λn low high=>⟨0,λN hN=>by
 simp only[Z0,z1t,g,inK]
 cases decide (low<=n)<;>rfl⟩
end z3l
end
end Go.Fw
namespace Go.Fw
section
variable {ρ : Type}
namespace z0v
def g(m:Int×Int×List Int):Bool:=z23 m
end z0v
namespace z0v
def Z1{ρ:Type}(N:Nat)(a:MT)(kn:I2 (LI->Option ρ)):Option ρ :=
 kn a.1 a.2.1 a.2.2
def Z3{ρ:Type}(N:Nat)(a b:Int)(c:LI)(kn:I2 (LI->Option ρ))(kr:Bool->Option ρ):Option ρ :=
 cond (!(lk N ((z3l.g a 1 5))))
 (
  kr false)
 (
  cond (!(lk N ((z3l.g b a 8))))
  (
   kr false)
  (
   cond (lk N (!(decide ((c.length:Int)=(w64 (a*b))))))
   (
    kr false)
   (
    kn a b c)))
def Z6{ρ:Type}(N:Nat)(a b:Int)(c:LI)(kn:I3 (LI->Option ρ)):Option ρ :=
 kn 0 a b c
def Z9{ρ:Type}(N:Nat)(b c d:Int)(a:LI)(kn:I3 (LI->Option ρ))(k0:I2 (LI->Option ρ))(kr:Bool->Option ρ):Option ρ :=
 cond (lk N (decide (b<(a.length:Int))))
 (
  cond (lk N (inB b a.length)) (
   cond (!(lk N ((z3l.g (a.getD b.toNat 0) (-99) 99))))
   (
    kr false)
   (
    kn (w64 (b+1)) c d a)) none)
 (
  k0 c d a)
def Z8L{ρ:Type}(N:Nat)(k0:I2 (LI->Option ρ))(kr:Bool->Option ρ):Nat->Int->Int->Int->LI->Option ρ
 | 0,_,_,_,_=>none
 | M+1,a,b,c,d=>Z9 N a b c d (λa b c d=>Z8L N k0 kr M a b c d) k0 kr
def Z8 N a b c d k0 kr:=(Z8L N k0 kr N a b c d:Option ρ)
def Z7 N a b c d kn kr:=(Z8 N a b c d kn kr:Option ρ)
def Z5 N a b c kn kr:=(Z6 N a b c (λd a b c=>Z7 N d a b c kn kr):Option ρ)
def Z12{ρ:Type}(N:Nat)(a b:Int)(c:LI)(kn:I3 (LI->Option ρ)):Option ρ :=
 kn 0 a b c
def Z16{ρ:Type}(N:Nat)(a b c:Int)(d:LI)(kn:I3 (LI->Option ρ))(k2:Option ρ):Option ρ :=
 cond (lk N (decide (a<b)))
 (
  kn a b c d)
 (
  k2)
def Z20{ρ:Type}(N:Nat)(a b c:Int)(d:LI)(kn:I4 (LI->Option ρ)):Option ρ :=
 kn a 0 b c d
def Z23{ρ:Type}(N:Nat)(b c a d:Int)(e:LI)(kn:I4 (LI->Option ρ))(k4:I3 (LI->Option ρ))(kr:Bool->Option ρ):Option ρ :=
 cond (lk N (decide (c<a)))
 (
  cond (lk N (z13.P (a,(d,e)) b c)) (
   cond (lk N (z13.P (a,(d,e)) c b)) (
    cond (lk N (!(((lk N (decide (0<(z13.g (a,(d,e)) b c)))) == (lk N (decide ((z13.g (a,(d,e)) c b)<0)))))))
    (
     kr false)
    (
     cond (lk N (!(((lk N (decide ((z13.g (a,(d,e)) b c)=0))) == (lk N (decide ((z13.g (a,(d,e)) c b)=0)))))))
     (
      kr false)
     (
      kn b (w64 (c+1)) a d e))) none) none)
 (
  k4 b a d e)
def Z22L{ρ:Type}(N:Nat)(k4:I3 (LI->Option ρ))(kr:Bool->Option ρ):Nat->Int->Int->Int->Int->LI->Option ρ
 | 0,_,_,_,_,_=>none
 | M+1,a,b,c,d,e=>Z23 N a b c d e (λa b c d e=>Z22L N k4 kr M a b c d e) k4 kr
def Z22 N a b c d e k4 kr:=(Z22L N k4 kr N a b c d e:Option ρ)
def Z21 N a b c d e kn kr:=(Z22 N a b c d e kn kr:Option ρ)
def Z19 N a b c d kn kr:=(Z20 N a b c d (λa e b c d=>Z21 N a e b c d kn kr):Option ρ)
def Z18 N a b c d kn kr:=(Z19 N a b c d kn kr:Option ρ)
def Z24{ρ:Type}(N:Nat)(a b c:Int)(d:LI)(kn:I3 (LI->Option ρ)):Option ρ :=
 kn (w64 (a+1)) b c d
def Z17 N a b c d kn kr:=(Z18 N a b c d (λa b c d=>Z24 N a b c d kn) kr:Option ρ)
def Z15 N a b c d kn k2 kr:=(Z16 N a b c d (λa b c d=>Z17 N a b c d kn kr) k2:Option ρ)
def Z14L{ρ:Type}(N:Nat)(k2:Option ρ)(kr:Bool->Option ρ):Nat->Int->Int->Int->LI->Option ρ
 | 0,_,_,_,_=>none
 | M+1,a,b,c,d=>Z15 N a b c d (λa b c d=>Z14L N k2 kr M a b c d) k2 kr
def Z14 N a b c d k2 kr:=(Z14L N k2 kr N a b c d:Option ρ)
def Z13 N a b c d kn kr:=(Z14 N a b c d kn kr:Option ρ)
def Z11 N a b c kn kr:=(Z12 N a b c (λd a b c=>Z13 N d a b c kn kr):Option ρ)
def Z25{ρ:Type}(N:Nat) (kr:Bool->Option ρ):Option ρ :=
 kr true
def Z10 N a b c kr:=(Z11 N a b c (Z25 N kr) kr:Option ρ)
def Z4 N a b c kr:=(Z5 N a b c (λa b c=>Z10 N a b c kr) kr:Option ρ)
def Z2 N a b c kr:=(Z3 N a b c (λa b c=>Z4 N a b c kr) kr:Option ρ)
def Z0 N a kr:=(Z1 N a (λb c d=>Z2 N b c d kr):Option ρ)
def Spec:Prop:=∀ (v0:MT),Ty.bd (.pair (.int .i64) (.pair (.int .i64) (.sl 0 (.int .i64)))) v0->∃N0,∀N,N0<=N->Z0 N v0 (λv2=>some ((),(v2,())))=some ((),((g v0),()))
section
variable {ρ : Type} {N : Nat} {m : Int × Int × List Int}
def at_g(hd:0<=m.1)(a b:Nat):z13.g (m.1,(m.2.1,m.2.2)) (a:Int) (b:Int)=ent m a b:=za5 hd a b
def at_p(hd:z3i m=true){a b:Nat}(ha:a<m.1.toNat)(hb:b<m.1.toNat):z13.P (m.1,(m.2.1,m.2.2)) (a:Int) (b:Int)=true:=by
 obtain⟨n,r,hn,hr,hn1,hn5,hnr,hr8,hl⟩:=z12 hd
 exact zmi hd (by omega) hb
def loop1(hl:m.2.2.length<=maxLen)(k0:Int->Int->List Int->Option ρ)(kr:Bool->Option ρ):∀(M j:Nat),j<=m.2.2.length->m.2.2.length-j<M ->
  Z8L N k0 kr M (j:Int) m.1 m.2.1 m.2.2=cond (entK (m.2.2.drop j)) (k0 m.1 m.2.1 m.2.2) (kr false):=by
 intro M
 induction M with
 | zero=>intro j _ h;omega
 | succ M ih =>
  intro j hj hM
  simp only[Z8L,Z9]
  by_cases h:j<m.2.2.length
  ·rw[ct (dt (by omega)),ct (z1g h),Int.toNat_natCast,z1d (by omega),z4c 0 h,entK,List.all_cons,ih (j+1) h (by omega)]
   simp only[z1t,z3l.g]
   cases inK (m.2.2.getD j 0) (-99) 99<;>rfl
  ·rw[cf (df (by omega)),List.drop_of_length_le (by omega)];rfl
def loop3(hd:z3i m=true)(k4:Int->Int->Int->List Int->Option ρ)(kr:Bool->Option ρ){i:Nat}(hi:i<m.1.toNat):∀(M j:Nat),j<=m.1.toNat->m.1.toNat-j<M ->
  Z22L N k4 kr M (i:Int) (j:Int) m.1 m.2.1 m.2.2=cond (((List.range m.1.toNat).drop j).all λj=>zcr (ent m i j) (ent m j i)) (k4 (i:Int) m.1 m.2.1 m.2.2) (kr false):=by
 obtain⟨n,r,hn,hr,hn1,hn5,hnr,hr8,hl⟩:=z12 hd
 intro M
 induction M with
 | zero=>intro j _ h;omega
 | succ M ih =>
  intro j hj hM
  simp only[Z22L,Z23]
  by_cases h:j<m.1.toNat
  ·rw[ct (dt (by omega)),ct (at_p hd hi h),ct (at_p hd h hi),z4e h,List.all_cons,z1d (by rw[z0y];omega),ih (j+1) h (by omega)]
   have hA:z13.g (m.1,(m.2.1,m.2.2)) (i:Int) (j:Int)=ent m i j:=at_g (by omega) _ _
   have hB:z13.g (m.1,(m.2.1,m.2.2)) (j:Int) (i:Int)=ent m j i:=at_g (by omega) _ _
   simp only[z1t,hA,hB,zcr]
   cases(decide (0<ent m i j) == decide (ent m j i<0))<;>cases(decide (ent m i j=0) == decide (ent m j i=0))<;>rfl
  ·rw[cf (df (by omega)),List.drop_of_length_le (by simp;omega)];rfl
def loop2(hN:10<=N)(hd:z3i m=true)(k2:Option ρ)(kr:Bool->Option ρ):∀(M i:Nat),i<=m.1.toNat->m.1.toNat-i<M ->
  Z14L N k2 kr M (i:Int) m.1 m.2.1 m.2.2=cond (((List.range m.1.toNat).drop i).all λi=>(List.range m.1.toNat).all λj=>zcr (ent m i j) (ent m j i)) k2 (kr false):=by
 obtain⟨n,r,hn,hr,hn1,hn5,hnr,hr8,hl⟩:=z12 hd
 intro M
 induction M with
 | zero=>intro i _ h;omega
 | succ M ih =>
  intro i hi hM
  simp only[Z14L,Z15,Z16]
  by_cases h:i<m.1.toNat
  ·rw[ct (dt (by omega))]
   simp only[Z17,Z18,Z19,Z20,Z21,Z22]
   have h3:=loop3 (ρ:=ρ) (N:=N) hd (λa b c d=>Z24 N a b c d (λa b c d=>Z14L N k2 kr M a b c d)) kr h N 0 (by omega) (by omega)
   rw[show((0:Nat):Int)=0 from rfl]at h3
   rw[h3,z4e h,List.all_cons,List.drop_zero]
   simp only[Z24]
   rw[z1d (by rw[z0y];omega),ih (i+1) h (by omega)]
   cases((List.range m.1.toNat).all λj=>zcr (ent m i j) (ent m j i))<;>rfl
  ·rw[cf (df (by omega)),List.drop_of_length_le (by simp;omega)];rfl
end
def ok:Spec:=λm hb=>⟨m.2.2.length+10,λN hN=>by
 have hlen:m.2.2.length<=maxLen:=hb.2.2.1
 simp only[Z0,Z1,Z2,Z3,z3l.g,g,z23,z0t]
 have main:z3i m=true->Z4 N m.1 m.2.1 m.2.2 (λt=>some ((),(t,())))=some ((),((entK m.2.2&&(List.range m.1.toNat).all λi=>(List.range m.1.toNat).all λj=>zcr (ent m i j) (ent m j i)),())):=by
  intro hd
  obtain⟨n,r,hn,hr,hn1,hn5,hnr,hr8,hl⟩:=z12 hd
  simp only[Z4,Z5,Z6,Z7,Z8]
  have h1:=loop1 (N:=N) hlen (λa b c=>Z10 N a b c (λt=>some ((),(t,())))) (λt=>some ((),(t,()))) N 0 (by omega) (by omega)
  rw[show((0:Nat):Int)=0 from rfl]at h1
  rw[h1,List.drop_zero]
  simp only[Z10,Z11,Z12,Z13,Z14,Z25]
  have h2:=loop2 (N:=N) (by omega) hd (some ((),(true,()))) (λt=>some ((),(t,()))) N 0 (by omega) (by omega)
  rw[show((0:Nat):Int)=0 from rfl]at h2
  rw[h2,List.drop_zero]
  cases entK m.2.2<;>cases((List.range m.1.toNat).all λi=>(List.range m.1.toNat).all λj=>zcr (ent m i j) (ent m j i))<;>rfl
 cases h1:inK m.1 1 5
 ·rw[z3i,h1];simp[z1t]
 cases h2:inK m.2.1 m.1 8
 ·rw[z3i,h1,h2];simp[z1t]
 have e1:=z2b.1 h1
 have e2:=z2b.1 h2
 have e3:0<=m.1*m.2.1:=Int.mul_nonneg (by omega) (by omega)
 have e4:m.1*m.2.1<=5*8:=Int.mul_le_mul (by omega) (by omega) (by omega) (by omega)
 rw[z1c (by omega) (by omega)]
 by_cases h3:(m.2.2.length:Int)=m.1*m.2.1
 ·have hd:z3i m=true:=by rw[z3i,h1,h2,dt h3];rfl
  rw[cf' (by simp[z1t]),cf' (by simp[z1t]),cf (nf h3),main hd,hd]
  rfl
 ·have hd:z3i m=false:=by rw[z3i,h1,h2,df h3];rfl
  rw[cf' (by simp[z1t]),cf' (by simp[z1t]),ct (nt h3),hd]
  rfl⟩
end z0v
end
end Go.Fw
namespace Go.Fw
section
variable {ρ : Type}
namespace z1y
def g(m:Int×Int×List Int):Bool:=z23 m&&!decide (z3u m=[])
end z1y
namespace z1y
def Z0{ρ:Type}(N:Nat)(a:MT)(kr:Bool->Option ρ):Option ρ :=
 cond (!(lk N ((z0v.g a))))
 (
  kr false)
 (
  cond (lk N (z04.P a)) (
   kr (lk N ((z04.g a).2))) none)
def Spec:Prop:=∀ (v0:MT),Ty.bd (.pair (.int .i64) (.pair (.int .i64) (.sl 0 (.int .i64)))) v0->∃N0,∀N,N0<=N->Z0 N v0 (λv2=>some ((),(v2,())))=some ((),((g v0),()))
def ok:Spec:=λm hb=>⟨0,λN hN=>by
 simp only[Z0,z1t,g,z0v.g,z04.P,z04.g]
 cases z23 m<;>rfl⟩
end z1y
end
end Go.Fw
namespace Go.Fw
section
variable {ρ : Type}
namespace z2y
def P(a:List Int):Bool:=decide (a.length<1099511627776)
abbrev g(a:List Int):List Int:=a
end z2y
namespace z2y
def Z0{ρ:Type}(N:Nat)(a:LI)(kr:LI->Option ρ):Option ρ :=
 cond (lk N (Nat.blt (([]:List Int).length+a.length) 1099511627776)) (
  kr (([]:List Int)++a)) none
def Spec:Prop:=∀ (v0:LI),Ty.bd (.sl 0 (.int .i64)) v0->P v0=true->∃N0,∀N,N0<=N->Z0 N v0 (λv2=>some ((),(v2,())))=some ((),((g v0),()))
def ok:Spec:=λa hb hp=>⟨0,λN hN=>by
 have hl:a.length<1099511627776:=by simpa[P]using hp
 have hc:Nat.blt (([]:List Int).length+a.length) 1099511627776=true:=by simpa using hl
 simp only[Z0,z1t,g,hc,cond_true,List.nil_append]⟩
end z2y
end
end Go.Fw
namespace Go.Fw
section
variable {ρ : Type}
namespace z0m
def P(m:Int×Int×List Int):Bool:=z2y.P m.2.2
abbrev g(m:Int×Int×List Int):Int×Int×List Int:=m
end z0m
namespace z0m
def Z0{ρ:Type}(N:Nat)(a:MT)(kr:LI->I2 (Option ρ)):Option ρ :=
 cond (lk N (z2y.P a.2.2)) (
  kr (z2y.g a.2.2) a.1 a.2.1) none
def Spec:Prop:=∀ (v0:MT),Ty.bd (.pair (.int .i64) (.pair (.int .i64) (.sl 0 (.int .i64)))) v0->P v0=true->∃N0,∀N,N0<=N->Z0 N v0 (λv2_2 v2_0 v2_1=>some ((),((v2_0,(v2_1,v2_2)),())))=some ((),((g v0),()))
def ok:Spec:=λm hb hp=>⟨0,λN hN=>by
 simp only[Z0]
 exact ct (show z2y.P m.2.2=true from hp)⟩
end z0m
end
end Go.Fw
namespace Go.Fw
section
variable {ρ : Type}
namespace z0h
def P(m:Int×Int×List Int)(k:Int):Bool:=z0t m&&(decide (0<=k)&&decide (k<m.1))
def g(m:Int×Int×List Int)(k:Int):Int×Int×List Int:=z6h m k.toNat
end z0h
namespace z0h
def Z1{ρ:Type}(N:Nat)(a:MT)(b:Int)(kn:I3 (LI->I2 (Option ρ))):Option ρ :=
 kn b a.1 a.2.1 a.2.2 0 0
def Z3{ρ:Type}(N:Nat)(d a b:Int)(c:LI)(e f:Int)(kn:LI->I3 (LI->I4 (Option ρ))):Option ρ :=
 cond (lk N (z0m.P (a,(b,c)))) (
  kn (z0m.g (a,(b,c))).2.2 d a b c e f (z0m.g (a,(b,c))).1 (z0m.g (a,(b,c))).2.1) none
def Z6{ρ:Type}(N:Nat)(a:LI)(b c d:Int)(e:LI)(f g h i:Int)(kn:LI->I4 (LI->I4 (Option ρ))):Option ρ :=
 kn a b 0 c d e f g h i
def Z10{ρ:Type}(N:Nat)(a:LI)(h b i c:Int)(j:LI)(d e f g:Int)(kn:LI->I4 (LI->I4 (Option ρ)))(k0:LI->I4 (Option ρ)):Option ρ :=
 cond (lk N (decide (b<c)))
 (
  kn a h b i c j d e f g)
 (
  k0 a d e f g)
def Z14{ρ:Type}(N:Nat)(a:LI)(b c d e:Int)(f:LI)(g h i j:Int)(kn:LI->I5 (LI->I4 (Option ρ))):Option ρ :=
 kn a b c 0 d e f g h i j
def Z18{ρ:Type}(N:Nat)(b:LI)(c d e a f:Int)(g:LI)(h i j l:Int)(kn:LI->I5 (LI->I4 (Option ρ)))(k2:LI->I4 (LI->I4 (Option ρ))):Option ρ :=
 cond (lk N (decide (e<a)))
 (
  kn b c d e a f g h i j l)
 (
  k2 b c d a f g h i j l)
def Z22{ρ:Type}(N:Nat)(f:LI)(a b h c d:Int)(e:LI)(i j l m:Int)(kn:LI->I6 (LI->I4 (Option ρ))):Option ρ :=
 cond (lk N (z13.P (c,(d,e)) b a)) (
  kn f a b h (z13.g (c,(d,e)) b a) c d e i j l m) none
def Z24{ρ:Type}(N:Nat)(f:LI)(a h b i c d:Int)(e:LI)(j l m o:Int)(kn:LI->I7 (LI->I4 (Option ρ))):Option ρ :=
 cond (lk N (z13.P (c,(d,e)) a b)) (
  kn f a h b i (z13.g (c,(d,e)) a b) c d e j l m o) none
def Z27{ρ:Type}(N:Nat)(d:LI)(a b c e f g h:Int)(i:LI)(j l m o:Int)(kn:LI->I5 (Bool->I2 (LI->I4 (Option ρ)))):Option ρ :=
 cond (lk N (decide (b=a)))
 (
  kn d a b c e f true g h i j l m o)
 (
  kn d a b c e f (lk N (decide (c=a))) g h i j l m o)
def Z28{ρ:Type}(N:Nat)(f:LI)(h a b o p:Int)(q:Bool)(c d:Int)(e:LI)(i j l m:Int)(kn:LI->I5 (LI->I4 (Option ρ))):Option ρ :=
 cond (q)
 (
  cond (lk N (z13.P (c,(d,e)) a b)) (
   cond (lk N (inB (w64 ((w64 (a*c))+b)) f.length)) (
    kn (f.set (w64 ((w64 (a*c))+b)).toNat (w64 (0-(z13.g (c,(d,e)) a b)))) h a b c d e i j l m) none) none)
 (
  cond (lk N (decide (0<o)))
  (
   cond (lk N (decide (0<p)))
   (
    cond (lk N (z13.P (c,(d,e)) a b)) (
     cond (lk N (inB (w64 ((w64 (a*c))+b)) f.length)) (
      kn (f.set (w64 ((w64 (a*c))+b)).toNat (w64 ((z13.g (c,(d,e)) a b)+(w64 (o*p))))) h a b c d e i j l m) none) none)
   (
    cond (lk N (decide (o<0)))
    (
     cond (lk N (decide (p<0)))
     (
      cond (lk N (z13.P (c,(d,e)) a b)) (
       cond (lk N (inB (w64 ((w64 (a*c))+b)) f.length)) (
        kn (f.set (w64 ((w64 (a*c))+b)).toNat (w64 ((z13.g (c,(d,e)) a b)-(w64 (o*p))))) h a b c d e i j l m) none) none)
     (
      kn f h a b c d e i j l m))
    (
     kn f h a b c d e i j l m)))
  (
   cond (lk N (decide (o<0)))
   (
    cond (lk N (decide (p<0)))
    (
     cond (lk N (z13.P (c,(d,e)) a b)) (
      cond (lk N (inB (w64 ((w64 (a*c))+b)) f.length)) (
       kn (f.set (w64 ((w64 (a*c))+b)).toNat (w64 ((z13.g (c,(d,e)) a b)-(w64 (o*p))))) h a b c d e i j l m) none) none)
    (
     kn f h a b c d e i j l m))
   (
    kn f h a b c d e i j l m)))
def Z26 N a b c d e f g h i j l m o kn:=(Z27 N a b c d e f g h i j l m o (λa b c d e f p g h i j l m o=>Z28 N a b c d e f p g h i j l m o kn):Option ρ)
def Z25 N a b c d e f g h i j l m o kn:=(Z26 N a b c d e f g h i j l m o kn:Option ρ)
def Z23 N a b c d e f g h i j l m kn:=(Z24 N a b c d e f g h i j l m (λa b c d e o f g h i j l m=>Z25 N a b c d e o f g h i j l m kn):Option ρ)
def Z21 N a b c d e f g h i j l kn:=(Z22 N a b c d e f g h i j l (λa b c d m e f g h i j l=>Z23 N a b c d m e f g h i j l kn):Option ρ)
def Z20 N a b c d e f g h i j l kn:=(Z21 N a b c d e f g h i j l kn:Option ρ)
def Z29{ρ:Type}(N:Nat)(a:LI)(b c d e f:Int)(g:LI)(h i j l:Int)(kn:LI->I5 (LI->I4 (Option ρ))):Option ρ :=
 kn a b c (w64 (d+1)) e f g h i j l
def Z19 N a b c d e f g h i j l kn:=(Z20 N a b c d e f g h i j l (λa b c d e f g h i j l=>Z29 N a b c d e f g h i j l kn):Option ρ)
def Z17 N a b c d e f g h i j l kn k2:=(Z18 N a b c d e f g h i j l (λa b c d e f g h i j l=>Z19 N a b c d e f g h i j l kn) k2:Option ρ)
def Z16L{ρ:Type}(N:Nat)(k2:LI->I4 (LI->I4 (Option ρ))):Nat->LI->Int->Int->Int->Int->Int->LI->Int->Int->Int->Int->Option ρ
 | 0,_,_,_,_,_,_,_,_,_,_,_=>none
 | M+1,a,b,c,d,e,f,g,h,i,j,l=>Z17 N a b c d e f g h i j l (λa b c d e f g h i j l=>Z16L N k2 M a b c d e f g h i j l) k2
def Z16 N a b c d e f g h i j l k2:=(Z16L N k2 N a b c d e f g h i j l:Option ρ)
def Z15 N a b c d e f g h i j l kn:=(Z16 N a b c d e f g h i j l kn:Option ρ)
def Z13 N a b c d e f g h i j kn:=(Z14 N a b c d e f g h i j (λa b c l d e f g h i j=>Z15 N a b c l d e f g h i j kn):Option ρ)
def Z12 N a b c d e f g h i j kn:=(Z13 N a b c d e f g h i j kn:Option ρ)
def Z30{ρ:Type}(N:Nat)(a:LI)(b c d e:Int)(f:LI)(g h i j:Int)(kn:LI->I4 (LI->I4 (Option ρ))):Option ρ :=
 kn a b (w64 (c+1)) d e f g h i j
def Z11 N a b c d e f g h i j kn:=(Z12 N a b c d e f g h i j (λa b c d e f g h i j=>Z30 N a b c d e f g h i j kn):Option ρ)
def Z9 N a b c d e f g h i j kn k0:=(Z10 N a b c d e f g h i j (λa b c d e f g h i j=>Z11 N a b c d e f g h i j kn) k0:Option ρ)
def Z8L{ρ:Type}(N:Nat)(k0:LI->I4 (Option ρ)):Nat->LI->Int->Int->Int->Int->LI->Int->Int->Int->Int->Option ρ
 | 0,_,_,_,_,_,_,_,_,_,_=>none
 | M+1,a,b,c,d,e,f,g,h,i,j=>Z9 N a b c d e f g h i j (λa b c d e f g h i j=>Z8L N k0 M a b c d e f g h i j) k0
def Z8 N a b c d e f g h i j k0:=(Z8L N k0 N a b c d e f g h i j:Option ρ)
def Z7 N a b c d e f g h i j kn:=(Z8 N a b c d e f g h i j kn:Option ρ)
def Z5 N a b c d e f g h i kn:=(Z6 N a b c d e f g h i (λa b j c d e f g h i=>Z7 N a b j c d e f g h i kn):Option ρ)
def Z31{ρ:Type}(N:Nat)(a:LI)(d e b c:Int)(kr:LI->I2 (Option ρ)):Option ρ :=
 kr a b c
def Z4 N a f g h i b c d e kr:=(Z5 N a f g h i b c d e (λa b c d e=>Z31 N a b c d e kr):Option ρ)
def Z2 N a b c d e f kr:=(Z3 N a b c d e f (λg a b c d e f h i=>Z4 N g a b c d e f h i kr):Option ρ)
def Z0 N b a kr:=(Z1 N b a (λa c d e f g=>Z2 N a c d e f g kr):Option ρ)
def Spec:Prop:=∀ (v0:MT) (v1:Int),Ty.bd (.pair (.int .i64) (.pair (.int .i64) (.sl 0 (.int .i64)))) v0->P v0 v1=true->∃N0,∀N,N0<=N->Z0 N v0 v1 (λv4_2 v4_0 v4_1=>some ((),((v4_0,(v4_1,v4_2)),())))=some ((),((g v0 v1),()))
section
variable {ρ : Type} {N : Nat} {m : Int × Int × List Int} {k : Nat}
def at_g(hd:0<=m.1)(a b:Nat):z13.g (m.1,(m.2.1,m.2.2)) (a:Int) (b:Int)=ent m a b:=za5 hd a b
def at_p(hd:z3i m=true){a b:Nat}(ha:a<m.2.1.toNat)(hb:b<m.1.toNat):z13.P (m.1,(m.2.1,m.2.2)) (a:Int) (b:Int)=true:=zmi hd ha hb
def cur(m:Int×Int×List Int)(k p:Nat):List Int:=zky m.2.2.length p (mutF m k) (λp=>m.2.2.getD p 0)
def inner(hs:z0t m=true)(hk:k<m.1.toNat)(k2:List Int->Int->Int->Int->Int->List Int->Int->Int->Int->Int->Option ρ)(t0 t1 o0 o1:Int){i:Nat}(hi:i<m.2.1.toNat):∀(M j:Nat),j<=m.1.toNat->m.1.toNat-j<M ->
  Z16L N k2 M (cur m k (i*m.1.toNat+j)) (k:Int) (i:Int) (j:Int) m.1 m.2.1 m.2.2 t0 t1 o0 o1=k2 (cur m k (i*m.1.toNat+m.1.toNat)) (k:Int) (i:Int) m.1 m.2.1 m.2.2 t0 t1 o0 o1:=by
 have hd:=z1r hs
 obtain⟨n,r,hn,hr,hn1,hn5,hnr,hr8,hl⟩:=z12 hd
 intro M
 induction M with
 | zero=>intro j _ h;omega
 | succ M ih =>
  intro j hj hM
  simp only[Z16L,Z17,Z18]
  by_cases h:j<m.1.toNat
  ·have hlt:i*m.1.toNat+j<m.2.2.length:=by
    have:=z7t (n:=n) (r:=r) (i:=i) (j:=j) (by omega) (by omega)
    rw[hl,hn];exact this
   have hidx:w64 (w64 ((i:Int)*m.1)+(j:Int))=((i*m.1.toNat+j:Nat):Int):=by
    have e:(i:Int)*m.1=((i*m.1.toNat:Nat):Int):=by rw[hn,Int.natCast_mul];simp
    have hb:i*m.1.toNat<=8*5:=Nat.mul_le_mul (by omega) (by omega)
    have e2:w64 (((i*m.1.toNat:Nat):Int))=((i*m.1.toNat:Nat):Int):=z1c (by omega) (by omega)
    rw[e,e2,z1c (by omega) (by omega)]
    omega
   have b1:=z3n hs i j
   have b2:=z3n hs i k
   have b3:=z3n hs k j
   have hbc:=zfy (f:=false) b1 b2 b3
   have hF:=zlm (m:=m) (k:=k) (i:=i) h
   have hcl:(cur m k (i*m.1.toNat+j)).length=m.2.2.length:=zac
   have hset:∀v,v=mutF m k (i*m.1.toNat+j)->(cur m k (i*m.1.toNat+j)).set (i*m.1.toNat+j) v=cur m k (i*m.1.toNat+(j+1)):=λv hv=>by
    subst hv
    exact zmu hlt
   have hsame:mutF m k (i*m.1.toNat+j)=ent m i j->cur m k (i*m.1.toNat+j)=cur m k (i*m.1.toNat+(j+1)):=λhv=>(zif hv).symm
   have iB:inB (((i*m.1.toNat+j:Nat):Int)) (cur m k (i*m.1.toNat+j)).length=true:=z1g (by rw[hcl];exact hlt)
   have pij:=at_p hd hi h
   rw[ct (dt (by omega))]
   simp only[Z19,Z20,Z21,Z22,Z23,Z24,Z25]
   rw[ct (at_p hd hi hk),ct (at_p hd (show k<m.2.1.toNat by omega) h),at_g (by omega),at_g (by omega)]
   have fin:∀c,c=cur m k (i*m.1.toNat+(j+1))->Z29 N c (k:Int) (i:Int) (j:Int) m.1 m.2.1 m.2.2 t0 t1 o0 o1 (λout5_2 k1 i6 j7 m2_0 m2_1 m2_2 t4_0 t4_1 out5_0 out5_1=>Z16L N k2 M out5_2 k1 i6 j7 m2_0 m2_1 m2_2 t4_0 t4_1 out5_0 out5_1)=k2 (cur m k (i*m.1.toNat+m.1.toNat)) (k:Int) (i:Int) m.1 m.2.1 m.2.2 t0 t1 o0 o1:=by
    intro c hc
    subst hc
    simp only[Z29]
    rw[z1d (by rw[z0y];omega)]
    exact ih (j+1) h (by omega)
   simp only[Z26,Z27,Z28,hidx,Int.toNat_natCast,at_g (show 0<=m.1 by omega)]
   by_cases hik:i=k
   ·rw[ct (dt (by omega)),ct' rfl,ct pij,ct iB,z1c (by omega) (by omega)]
    refine fin _ (hset _ ?_)
    rw[hF,dt hik,Int.zero_sub];rfl
   ·rw[cf (df (by omega))]
    by_cases hjk:j=k
    ·rw[ct' (by rw[z1t];exact dt (by omega)),ct pij,ct iB,z1c (by omega) (by omega)]
     refine fin _ (hset _ ?_)
     rw[hF,df hik,dt hjk,Int.zero_sub];rfl
    ·rw[cf' (by rw[z1t];exact df (by omega))]
     rw[df hik,df hjk]at hF
     simp only[mutE,Bool.or_self,Bool.false_eq_true,if_false]at hF
     have wbc:w64 (ent m i k*ent m k j)=ent m i k*ent m k j:=z1c (by omega) (by omega)
     rw[wbc]
     by_cases a1:0<ent m i k
     ·rw[ct (dt a1)]
      by_cases a2:0<ent m k j
      ·rw[ct (dt a2),ct pij,ct iB,z1c (by omega) (by omega)]
       refine fin _ (hset _ ?_)
       rw[hF,if_pos ⟨a1,a2⟩]
      ·rw[cf (df a2),cf (df (by omega))]
       refine fin _ (hsame ?_)
       rw[hF,if_neg (by omega),if_neg (by omega)]
     ·rw[cf (df a1)]
      by_cases a2:ent m i k<0
      ·rw[ct (dt a2)]
       by_cases a3:ent m k j<0
       ·rw[ct (dt a3),ct pij,ct iB,z1c (by omega) (by omega)]
        refine fin _ (hset _ ?_)
        rw[hF,if_neg (by omega),if_pos ⟨a2,a3⟩]
       ·rw[cf (df a3)]
        refine fin _ (hsame ?_)
        rw[hF,if_neg (by omega),if_neg (by omega)]
      ·rw[cf (df a2)]
       refine fin _ (hsame ?_)
       rw[hF,if_neg (by omega),if_neg (by omega)]
  ·rw[cf (df (by omega)),show j=m.1.toNat by omega]
def outer(hN:10<=N)(hs:z0t m=true)(hk:k<m.1.toNat)(k0:List Int->Int->Int->Int->Int->Option ρ)(t0 t1 o0 o1:Int):∀(M i:Nat),i<=m.2.1.toNat->m.2.1.toNat-i<M ->
  Z8L N k0 M (cur m k (i*m.1.toNat)) (k:Int) (i:Int) m.1 m.2.1 m.2.2 t0 t1 o0 o1=k0 (cur m k (m.2.1.toNat*m.1.toNat)) t0 t1 o0 o1:=by
 have hd:=z1r hs
 obtain⟨n,r,hn,hr,hn1,hn5,hnr,hr8,hl⟩:=z12 hd
 intro M
 induction M with
 | zero=>intro i _ h;omega
 | succ M ih =>
  intro i hi hM
  simp only[Z8L,Z9,Z10]
  by_cases h:i<m.2.1.toNat
  ·rw[ct (dt (by omega))]
   simp only[Z11,Z12,Z13,Z14,Z15,Z16]
   have hin:=inner (ρ:=ρ) (N:=N) hs hk (λout5_2 k1 i6 m2_0 m2_1 m2_2 t4_0 t4_1 out5_0 out5_1=>Z30 N out5_2 k1 i6 m2_0 m2_1 m2_2 t4_0 t4_1 out5_0 out5_1 (λout5_2 k1 i6 m2_0 m2_1 m2_2 t4_0 t4_1 out5_0 out5_1=>Z8L N k0 M out5_2 k1 i6 m2_0 m2_1 m2_2 t4_0 t4_1 out5_0 out5_1)) t0 t1 o0 o1 h N 0 (by omega) (by omega)
   rw[show((0:Nat):Int)=0 from rfl,Nat.add_zero]at hin
   rw[hin]
   simp only[Z30]
   rw[z1d (by rw[z0y];omega)]
   have:=ih (i+1) h (by omega)
   rw[Nat.add_mul,Nat.one_mul]at this
   exact this
  ·rw[cf (df (by omega)),show i=m.2.1.toNat by omega]
end
def ok:Spec:=λm k hb hp=>⟨10,λN hN=>by
 simp only[P,Bool.and_eq_true,decide_eq_true_eq]at hp
 obtain⟨hs,h0,h1⟩:=hp
 obtain⟨x,rfl⟩:=Int.eq_ofNat_of_zero_le h0
 have hd:=z1r hs
 obtain⟨n,r,hn,hr,hn1,hn5,hnr,hr8,hl⟩:=z12 hd
 have hlen:m.2.2.length<=8*5:=by rw[hl];exact Nat.mul_le_mul hr8 hn5
 simp only[Z0,Z1,Z2,Z3]
 rw[ct (show z0m.P (m.1,(m.2.1,m.2.2))=true from dt (show m.2.2.length<1099511627776 by omega))]
 simp only[Z4,Z5,Z6,Z7,Z8]
 have hstart:cur m x 0=m.2.2:=by
  unfold cur
  rw[zie]
  exact zd7 0 rfl
 have hend:cur m x (m.2.1.toNat*m.1.toNat)=(z6h m x).2.2:=by
  have e:m.2.1.toNat*m.1.toNat=m.2.2.length:=by rw[hl,hn,hr];simp
  rw[e]
  exact zig
 have:=outer (ρ:=Unit×(Int×Int×List Int)×Unit) hN hs (show x<m.1.toNat by omega) (λout5_2 t4_0 t4_1 out5_0 out5_1=>Z31 N out5_2 t4_0 t4_1 out5_0 out5_1 (λt4_2 t4_0 t4_1=>some ((),((t4_0,(t4_1,t4_2)),())))) 0 0 m.1 m.2.1 N 0 (by omega) (by omega)
 rw[Nat.zero_mul,hstart,hend]at this
 exact this⟩
end z0h
end
end Go.Fw
namespace Go.Fw
section
variable {ρ : Type}
namespace z0u
def g(m:Int×Int×List Int)(k:Int):(Int×Int×List Int)×Bool :=
 if((z23 m&&!decide (z3u m=[]))&&(inK k 0 (m.1-1)&&z23 (z6h m k.toNat)))=true then(z6h m k.toNat,true)else((0,0,[]),false)
end z0u
namespace z0u
def Z0{ρ:Type}(N:Nat)(a:MT)(b:Int)(kr:LI->Bool->I2 (Option ρ)):Option ρ :=
 cond (!(lk N ((z1y.g a))))
 (
  kr ([]:List Int) false 0 0)
 (
  cond (!(lk N ((z3l.g b 0 (w64 (a.1-1))))))
  (
   kr ([]:List Int) false 0 0)
  (
   cond (lk N (z0h.P a b)) (
    cond (!(lk N ((z0v.g (z0h.g a b)))))
    (
     kr ([]:List Int) false 0 0)
    (
     kr (z0h.g a b).2.2 true (z0h.g a b).1 (z0h.g a b).2.1)) none))
def Spec:Prop:=∀ (v0:MT) (v1:Int),Ty.bd (.pair (.int .i64) (.pair (.int .i64) (.sl 0 (.int .i64)))) v0->∃N0,∀N,N0<=N->Z0 N v0 v1 (λv4_2 v5 v4_0 v4_1=>some ((),((v4_0,(v4_1,v4_2)),(v5,()))))=some ((),((g v0 v1).1,((g v0 v1).2,())))
def ok:Spec:=λm k hb=>⟨0,λN hN=>by
 simp only[Z0,z1t,g,z1y.g,z3l.g,z0v.g]
 cases h1:(z23 m&&!decide (z3u m=[]))
 ·rfl
 have hs:z23 m=true:=by
  simp only[Bool.and_eq_true]at h1
  exact h1.1
 have hd:=z1r (z1m hs)
 obtain⟨n,r,hn,hr,hn1,hn5,hnr,hr8,hl⟩:=z12 hd
 rw[z1c (by omega) (by omega)]
 cases h2:inK k 0 (m.1-1)
 ·rfl
 have h3:=z2b.1 h2
 have hP:z0h.P m k=true:=by
  simp only[z0h.P,Bool.and_eq_true,decide_eq_true_eq]
  exact⟨z1m hs,by omega,by omega⟩
 rw[hP]
 have hg:z0h.g m k=z6h m k.toNat:=rfl
 rw[hg]
 cases z23 (z6h m k.toNat)<;>rfl⟩
end z0u
end
end Go.Fw
namespace Go.Fw
section
variable {ρ : Type}
namespace z18
def P(b:List Int)(r:Int×Int)(n:Int):Bool:=z1z b r&&inK n 0 5
def stepN(b:List Int)(s:(Int×Int)×List Int)(k:Nat):(Int×Int)×List Int :=
 ((z00.g b s.1 ((s.2.length:Int)+1)).1,s.2.take (z00.g b s.1 ((s.2.length:Int)+1)).2.toNat++[(k:Int)]++s.2.drop (z00.g b s.1 ((s.2.length:Int)+1)).2.toNat)
def g(b:List Int)(r:Int×Int)(n:Int):(Int×Int)×List Int:=(List.range n.toNat).foldl (stepN b) (r,[])
end z18
namespace z18
def Z1{ρ:Type}(N:Nat)(b0:List Int)(r0:Int×Int)(a:Int)(kn:Int->List Int->I2 (Option ρ)):Option ρ :=
 kn a b0 r0.1 r0.2
def Z3{ρ:Type}(N:Nat)(a:Int)(b:List Int)(c d:Int)(kn:LI->Int->List Int->I2 (Option ρ)):Option ρ :=
 kn ([]:List Int) a b c d
def Z6{ρ:Type}(N:Nat)(a:LI)(b:Int)(c:List Int)(d e:Int)(kn:LI->I2 (List Int->I2 (Option ρ))):Option ρ :=
 kn a b 0 c d e
def Z9{ρ:Type}(N:Nat)(a:LI)(f b:Int)(c:List Int)(d e:Int)(kn:LI->I2 (List Int->I2 (Option ρ)))(k0:LI->List Int->I2 (Option ρ)):Option ρ :=
 let x1_:=(z00.g c (d,e) (w64 ((a.length:Int)+1)))
 let x4_:=(lk N (leB 0 x1_.2&&leB x1_.2 a.length))
 let x7_:=(lk N (Nat.blt (([]:List Int).length+((a.drop 0).take x1_.2.toNat).length) 1099511627776))
 let x8_:=(([]:List Int)++((a.drop 0).take x1_.2.toNat))
 let x0_:=(
   cond (lk N (Nat.blt ((x8_++([b]:List Int)).length+((a.drop x1_.2.toNat).take (a.length-x1_.2).toNat).length) 1099511627776)) (
   kn ((x8_++([b]:List Int))++((a.drop x1_.2.toNat).take (a.length-x1_.2).toNat)) f (w64 (b+1)) c x1_.1.1 x1_.1.2) none)
 let x5_:=(lk N (Nat.blt (x8_.length+([b]:List Int).length) 1099511627776))
 let x9_:=(
   z6d (
   cond x5_ (
   cond x4_ x0_ none) none)
   (
   cond x4_ (
   cond x5_ x0_ none) none))
 let x2_:=(
   cond x7_ (
   cond x5_ x0_ none) none)
 let x3_:=(
   z6d (
   cond x7_ x9_ none)
   (
   cond x4_ x2_ none))
 let x6_:=(
   z6d (
   cond x7_ (
   z6d x9_
   (
   cond x4_ (
   cond x5_ x0_ none) none)) none)
   (
   z6d x3_
   (
   cond x4_ (
   bo x2_) none)))
 let x10_:=(
   z6d (
   cond x4_ x3_ none)
   (
   cond x4_ (
   cond x4_ x2_ none) none))
 let x11_:=(
   z6d (
   cond x4_ (
   bo x2_) none)
   (
   cond x4_ x2_ none))
 cond (lk N (decide (b<f)))
 (
 cond (lk N (z00.P c (d,e) (w64 ((a.length:Int)+1)))) (
 z6d (
 z6d (
 cond x4_ x6_ none)
 (
 z6d x10_
 (
 cond x4_ x11_ none)))
 (
 z6d (
 cond x4_ (
 z6d x6_
 (
 z6d (
 z6d x3_
 (
 cond x4_ x2_ none))
 (
 cond x4_ (
 z6d (
 bo x2_)
 x2_) none))) none)
 (
 z6d (
 z6d x10_
 (
 z6d (
 cond x4_ (
 z6d x3_
 (
 cond x4_ x2_ none)) none)
 (
 cond x4_ (
 bo (
 cond x4_ x2_ none)) none)))
 (
 cond x4_ (
 z6d x11_
 (
 z6d (
 cond x4_ (
 z6d (
 bo x2_)
 x2_) none)
 (
 bo (
 cond x4_ x2_ none)))) none)))) none)
 (
 k0 a c d e)
def Z8L{ρ:Type}(N:Nat)(k0:LI->List Int->I2 (Option ρ)):Nat->LI->Int->Int->List Int->Int->Int->Option ρ
 | 0,_,_,_,_,_,_=>none
 | M+1,a,b,c,d,e,f=>Z9 N a b c d e f (λa b c d e f=>Z8L N k0 M a b c d e f) k0
def Z8 N a b c d e f k0:=(Z8L N k0 N a b c d e f:Option ρ)
def Z7 N a b c d e f kn:=(Z8 N a b c d e f kn:Option ρ)
def Z5 N a b c d e kn:=(Z6 N a b c d e (λa b f c d e=>Z7 N a b f c d e kn):Option ρ)
def Z10{ρ:Type}(N:Nat)(a:LI)(b:List Int)(c d:Int)(kr:LI->List Int->I2 (Option ρ)):Option ρ :=
 kr a b c d
def Z4 N a e b c d kr:=(Z5 N a e b c d (λa b c d=>Z10 N a b c d kr):Option ρ)
def Z2 N a b c d kr:=(Z3 N a b c d (λe a b c d=>Z4 N e a b c d kr):Option ρ)
def Z0 N b0 r0 a kr:=(Z1 N b0 r0 a (λa b c d=>Z2 N a b c d kr):Option ρ)
def Spec:Prop:=∀{U:Type} (u:U) (b0:List Int) (r0:Int×Int) (v1:Int),Ty.bd (.sl 0 (.int .u8)) b0->P b0 r0 v1=true->∃N0,∀N,N0<=N->Z0 N b0 r0 v1 (λv4 w0_0 w0_1 w0_2=>some (u,((w0_1,w0_2),((),(v4,())))))=some (u,((g b0 r0 v1).1,((),((g b0 r0 v1).2,()))))
def zij(b:List Int)(s:(Int×Int)×List Int)(k:Nat):(stepN b s k).2.Perm ((k:Int)::s.2):=by
 unfold stepN
 generalize(z00.g b s.1 ((s.2.length:Int)+1)).2.toNat=q
 simp only
 have h:(s.2.take q++[(k:Int)]++s.2.drop q).Perm ([(k:Int)]++s.2.take q++s.2.drop q):=List.Perm.append_right _ List.perm_append_comm
 rw[List.append_assoc [(k:Int)],List.take_append_drop]at h
 exact h
def zfg(b:List Int):∀(l:List Nat) (s:(Int×Int)×List Int),(l.foldl (stepN b) s).2.Perm (z39 l++s.2)
 | [],s=>List.Perm.refl _
 | k::l,s=>by
  rw[List.foldl_cons]
  refine(zfg b l (stepN b s k)).trans ?_
  show(z39 l++(stepN b s k).2).Perm ((k:Int)::(z39 l++s.2))
  refine(List.Perm.append_left _ (zij b s k)).trans ?_
  exact List.perm_middle
def keeps(b:List Int):∀(l:List Nat) (s:(Int×Int)×List Int),z1z b s.1=true->z1z b (l.foldl (stepN b) s).1=true
 | [],_,h=>h
 | k::l,s,h=>keeps b l (stepN b s k) (z00.keep h)
def keep{b:List Int}{r:Int×Int}{n:Int}(h:z1z b r=true):z1z b (g b r n).1=true:=keeps b _ _ h
def names_of{l:List Int}{n:Nat}(h:l.Perm (z39 (List.range n))):z6l l (n:Int)=true:=by
 have hl:l.length=n:=by rw[h.length_eq,z27,List.length_range]
 have hnd:l.Nodup:=by
  refine h.nodup_iff.2 ?_
  unfold z39
  refine List.Pairwise.map _ (λa b hab=>?_) (List.nodup_range (n:=n))
  show((a:Nat):Int)≠((b:Nat):Int)
  omega
 simp only[z6l,Bool.and_eq_true,decide_eq_true_eq]
 refine⟨by omega,List.all_eq_true.2 λi hi=>?_⟩
 have hi:=List.mem_range.1 hi
 have hm:=z1l (l:=l) (j:=i) 0 hi
 have hm2:=h.mem_iff.1 hm
 unfold z39 at hm2
 obtain⟨x,hx,hxe⟩:=List.mem_map.1 hm2
 have hx:=List.mem_range.1 hx
 simp only[zlj,Bool.and_eq_true,z2b,Bool.not_eq_true',List.any_eq_false,decide_eq_true_eq]
 refine⟨by omega,λy hy e=>?_⟩
 obtain⟨j,hj,hje⟩:=List.getElem_of_mem hy
 rw[List.length_take]at hj
 rw[List.getElem_take]at hje
 have:l[j]'(by omega)=l[i]:=by
  rw[hje,e,List.getD_eq_getElem?_getD,List.getElem?_eq_getElem hi]
  rfl
 exact(List.pairwise_iff_getElem.1 hnd) j i (by omega) hi (by omega) this
def names{b:List Int}{r:Int×Int}(n:Nat):z6l (g b r (n:Int)).2 (n:Int)=true:=by
 have:=zfg b (List.range n) (r,[])
 rw[List.append_nil]at this
 refine names_of ?_
 unfold g
 rw[Int.toNat_natCast]
 exact this
def loop{ρ:Type}{N:Nat}{b:List Int}(kk:List Int->List Int->Int->Int->Option ρ){n:Nat}(hn:n<=5):∀(M k:Nat) (s:(Int×Int)×List Int),k<=n->z1z b s.1=true->s.2.length=k->n-k<M ->
  Z8L N kk M s.2 (n:Int) (k:Int) b s.1.1 s.1.2=kk (((List.range n).drop k).foldl (stepN b) s).2 b (((List.range n).drop k).foldl (stepN b) s).1.1 (((List.range n).drop k).foldl (stepN b) s).1.2:=by
 intro M
 induction M with
 | zero=>intro k s _ _ _ h;omega
 | succ M ih =>
  intro k s hk hs hl hM
  simp only[Z8L,Z9]
  by_cases h:k<n
  ·have es:((s.1.1,s.1.2):Int×Int)=s.1:=rfl
   have w0:w64 ((s.2.length:Int)+1)=(s.2.length:Int)+1:=z1c (by omega) (by omega)
   have hr:=z00.range (b:=b) (r:=s.1) (n:=(s.2.length:Int)+1) (by omega) (by omega)
   have hP:z00.P b s.1 ((s.2.length:Int)+1)=true:=hs
   have hst:stepN b s k=((z00.g b s.1 ((s.2.length:Int)+1)).1,s.2.take (z00.g b s.1 ((s.2.length:Int)+1)).2.toNat++[(k:Int)]++s.2.drop (z00.g b s.1 ((s.2.length:Int)+1)).2.toNat):=rfl
   have hstl:(stepN b s k).2.length=k+1:=by
    have:=(zij b s k).length_eq
    rw[List.length_cons]at this
    omega
   have hkeep:z1z b (stepN b s k).1=true:=z00.keep hs
   rw[ct (dt (by omega)),z4e h,List.foldl_cons]
   have nxt:=ih (k+1) (stepN b s k) h hkeep hstl (by omega)
   rw[hst]at nxt ⊢
   rw[<-nxt]
   simp only[es,w0]
   generalize hx:z00.g b s.1 ((s.2.length:Int)+1)=x at hr
   obtain⟨q,hq⟩:=Int.eq_ofNat_of_zero_le hr.1
   have hq1:q<=s.2.length:=by omega
   have c1:(leB 0 x.2&&leB x.2 s.2.length)=true:=by rw[hq,zbd (by omega),zbd (by omega)];rfl
   have c2:∀l:List Int,l.length<=20->∀m:List Int,m.length<=20->Nat.blt (l.length+m.length) 1099511627776=true:=λl h1 m h2=>Nat.ble_eq_true_of_le (by omega)
   have l1:((s.2.drop 0).take x.2.toNat).length<=6:=by rw[List.length_take,List.length_drop];omega
   have l2:((s.2.drop x.2.toNat).take ((s.2.length:Int)-x.2).toNat).length<=6:=by rw[List.length_take,List.length_drop];omega
   have e2:(s.2.drop x.2.toNat).take ((s.2.length:Int)-x.2).toNat=s.2.drop x.2.toNat:=List.take_of_length_le (by rw[List.length_drop];omega)
   have w1:w64 ((k:Int)+1)=((k+1:Nat):Int):=z1d (by rw[z0y];omega)
   have l3:(s.2.take x.2.toNat).length<=6:=by rw[List.length_take];omega
   have l4:(s.2.drop x.2.toNat).length<=6:=by rw[List.length_drop];omega
   have d1:=c2 [] (by simp) (s.2.take x.2.toNat) (by omega)
   have d2:=c2 (s.2.take x.2.toNat) (by omega) [(k:Int)] (by simp)
   have d3:=c2 (s.2.take x.2.toNat++[(k:Int)]) (by rw[List.length_append,List.length_singleton];omega) (s.2.drop x.2.toNat) (by omega)
   simp only[z1t,hP,c1,d1,d2,d3,cond_true,z30,w1,e2,List.nil_append,List.drop_zero,hx]
  ·rw[cf (df (by omega)),List.drop_of_length_le (by rw[List.length_range];omega)]
   rfl
def ok:Spec:=λu b r n hb hp=>⟨10,λN hN=>by
 simp only[P,Bool.and_eq_true,z2b]at hp
 obtain⟨h,h0,h5⟩:=hp
 obtain⟨k,rfl⟩:=Int.eq_ofNat_of_zero_le h0
 simp only[Z0,Z1,Z2,Z3,Z4,Z5,Z6,Z7,Z8]
 refine(loop _ (by omega) N 0 (r,[]) (Nat.zero_le _) h rfl (by omega)).trans ?_
 rw[List.drop_zero]
 rfl⟩
end z18
end
end Go.Fw
namespace Go.Fw
section
variable {ρ : Type}
namespace z0p
def P(m:Int×Int×List Int)(names:List Int):Bool:=z3i m&&z6l names m.1
def g(m:Int×Int×List Int)(names:List Int):Int×Int×List Int:=z94 m names
end z0p
namespace z0p
def Z1{ρ:Type}(N:Nat)(a:MT)(b:LI)(kn:LI->I2 (LI->I2 (Option ρ))):Option ρ :=
 kn b a.1 a.2.1 a.2.2 0 0
def Z3{ρ:Type}(N:Nat)(d:LI)(a b:Int)(c:LI)(e f:Int)(kn:LI->LI->I2 (LI->I4 (Option ρ))):Option ρ :=
 cond (lk N (z0m.P (a,(b,c)))) (
  kn (z0m.g (a,(b,c))).2.2 d a b c e f (z0m.g (a,(b,c))).1 (z0m.g (a,(b,c))).2.1) none
def Z6{ρ:Type}(N:Nat)(a b:LI)(c d:Int)(e:LI)(f g h i:Int)(kn:LI->LI->I3 (LI->I4 (Option ρ))):Option ρ :=
 kn a b 0 c d e f g h i
def Z10{ρ:Type}(N:Nat)(a h:LI)(b i c:Int)(j:LI)(d e f g:Int)(kn:LI->LI->I3 (LI->I4 (Option ρ)))(k0:LI->I4 (Option ρ)):Option ρ :=
 cond (lk N (decide (b<c)))
 (
  kn a h b i c j d e f g)
 (
  k0 a d e f g)
def Z14{ρ:Type}(N:Nat)(b c:LI)(a d e:Int)(f:LI)(g h i j:Int)(kn:LI->LI->I4 (LI->I4 (Option ρ))):Option ρ :=
 kn b c a a d e f g h i j
def Z16{ρ:Type}(N:Nat)(d b:LI)(a l c e:Int)(f:LI)(g h i j:Int)(kn:LI->LI->I4 (LI->I4 (Option ρ))):Option ρ :=
 cond (lk N (decide (a<c)))
 (
  cond (lk N (inB a b.length)) (
   kn d b a (b.getD a.toNat 0) c e f g h i j) none)
 (
  kn d b a l c e f g h i j)
def Z18{ρ:Type}(N:Nat)(a b:LI)(c d e f:Int)(g:LI)(h i j l:Int)(kn:LI->LI->I5 (LI->I4 (Option ρ))):Option ρ :=
 kn a b c d 0 e f g h i j l
def Z21{ρ:Type}(N:Nat)(h c:LI)(d i a b e:Int)(f:LI)(j l m o:Int)(kn:LI->LI->I5 (LI->I4 (Option ρ)))(k2:LI->LI->I3 (LI->I4 (Option ρ))):Option ρ :=
 cond (lk N (decide (a<b)))
 (
  cond (lk N (inB a c.length)) (
   cond (lk N (z13.P (b,(e,f)) d a)) (
    cond (lk N (inB (w64 ((w64 (i*b))+(c.getD a.toNat 0))) h.length)) (
     kn (h.set (w64 ((w64 (i*b))+(c.getD a.toNat 0))).toNat (z13.g (b,(e,f)) d a)) c d i (w64 (a+1)) b e f j l m o) none) none) none)
 (
  k2 h c d b e f j l m o)
def Z20L{ρ:Type}(N:Nat)(k2:LI->LI->I3 (LI->I4 (Option ρ))):Nat->LI->LI->Int->Int->Int->Int->Int->LI->Int->Int->Int->Int->Option ρ
 | 0,_,_,_,_,_,_,_,_,_,_,_,_=>none
 | M+1,a,b,c,d,e,f,g,h,i,j,l,m=>Z21 N a b c d e f g h i j l m (λa b c d e f g h i j l m=>Z20L N k2 M a b c d e f g h i j l m) k2
def Z20 N a b c d e f g h i j l m k2:=(Z20L N k2 N a b c d e f g h i j l m:Option ρ)
def Z19 N a b c d e f g h i j l m kn:=(Z20 N a b c d e f g h i j l m kn:Option ρ)
def Z17 N a b c d e f g h i j l kn:=(Z18 N a b c d e f g h i j l (λa b c d m e f g h i j l=>Z19 N a b c d m e f g h i j l kn):Option ρ)
def Z15 N a b c d e f g h i j l kn:=(Z16 N a b c d e f g h i j l (λa b c d e f g h i j l=>Z17 N a b c d e f g h i j l kn):Option ρ)
def Z13 N a b c d e f g h i j kn:=(Z14 N a b c d e f g h i j (λa b c l d e f g h i j=>Z15 N a b c l d e f g h i j kn):Option ρ)
def Z12 N a b c d e f g h i j kn:=(Z13 N a b c d e f g h i j kn:Option ρ)
def Z22{ρ:Type}(N:Nat)(a b:LI)(c d e:Int)(f:LI)(g h i j:Int)(kn:LI->LI->I3 (LI->I4 (Option ρ))):Option ρ :=
 kn a b (w64 (c+1)) d e f g h i j
def Z11 N a b c d e f g h i j kn:=(Z12 N a b c d e f g h i j (λa b c d e f g h i j=>Z22 N a b c d e f g h i j kn):Option ρ)
def Z9 N a b c d e f g h i j kn k0:=(Z10 N a b c d e f g h i j (λa b c d e f g h i j=>Z11 N a b c d e f g h i j kn) k0:Option ρ)
def Z8L{ρ:Type}(N:Nat)(k0:LI->I4 (Option ρ)):Nat->LI->LI->Int->Int->Int->LI->Int->Int->Int->Int->Option ρ
 | 0,_,_,_,_,_,_,_,_,_,_=>none
 | M+1,a,b,c,d,e,f,g,h,i,j=>Z9 N a b c d e f g h i j (λa b c d e f g h i j=>Z8L N k0 M a b c d e f g h i j) k0
def Z8 N a b c d e f g h i j k0:=(Z8L N k0 N a b c d e f g h i j:Option ρ)
def Z7 N a b c d e f g h i j kn:=(Z8 N a b c d e f g h i j kn:Option ρ)
def Z5 N a b c d e f g h i kn:=(Z6 N a b c d e f g h i (λa b j c d e f g h i=>Z7 N a b j c d e f g h i kn):Option ρ)
def Z23{ρ:Type}(N:Nat)(a:LI)(d e b c:Int)(kr:LI->I2 (Option ρ)):Option ρ :=
 kr a b c
def Z4 N a f g h i b c d e kr:=(Z5 N a f g h i b c d e (λa b c d e=>Z23 N a b c d e kr):Option ρ)
def Z2 N a b c d e f kr:=(Z3 N a b c d e f (λg a b c d e f h i=>Z4 N g a b c d e f h i kr):Option ρ)
def Z0 N b a kr:=(Z1 N b a (λa c d e f g=>Z2 N a c d e f g kr):Option ρ)
def Spec:Prop:=∀ (v0:MT) (v1:LI),Ty.bd (.pair (.int .i64) (.pair (.int .i64) (.sl 0 (.int .i64)))) v0->Ty.bd (.sl 0 (.int .i64)) v1->P v0 v1=true->∃N0,∀N,N0<=N->Z0 N v0 v1 (λv4_2 v4_0 v4_1=>some ((),((v4_0,(v4_1,v4_2)),())))=some ((),((g v0 v1),()))
section
variable {ρ : Type} {N : Nat} {m : Int × Int × List Int} {L : List Nat}
def at_g(hd:0<=m.1)(a b:Nat):z13.g (m.1,(m.2.1,m.2.2)) (a:Int) (b:Int)=ent m a b:=za5 hd a b
def at_p(hd:z3i m=true){a b:Nat}(ha:a<m.2.1.toNat)(hb:b<m.1.toNat):z13.P (m.1,(m.2.1,m.2.2)) (a:Int) (b:Int)=true:=zmi hd ha hb
def cur(m:Int×Int×List Int)(L:List Nat)(st:List Int)(t:Nat):List Int:=zqp m.2.2.length t (za4 m.1.toNat L) (λp=>m.2.2.getD (za4 m.1.toNat L p) 0) (λp=>st.getD p 0)
def inner(hd:z3i m=true)(h1:L.Nodup)(h2:∀x∈L,x<m.1.toNat)(h3:L.length=m.1.toNat)(st:List Int)(k2:List Int->List Int->Int->Int->Int->List Int->Int->Int->Int->Int->Option ρ)(t0 t1 o0 o1:Int){i:Nat}(hi:i<m.2.1.toNat):∀(M j:Nat),j<=m.1.toNat->m.1.toNat-j<M ->
  Z20L N k2 M (cur m L st (i*m.1.toNat+j)) (z39 L) (i:Int) ((zd4 m.1.toNat L i:Nat):Int) (j:Int) m.1 m.2.1 m.2.2 t0 t1 o0 o1=k2 (cur m L st (i*m.1.toNat+m.1.toNat)) (z39 L) (i:Int) m.1 m.2.1 m.2.2 t0 t1 o0 o1:=by
 obtain⟨n,r,hn,hr,hn1,hn5,hnr,hr8,hl⟩:=z12 hd
 have hnr':m.1.toNat<=m.2.1.toNat:=by omega
 intro M
 induction M with
 | zero=>intro j _ h;omega
 | succ M ih =>
  intro j hj hM
  simp only[Z20L,Z21]
  by_cases h:j<m.1.toNat
  ·have hx:=h2 _ (z1l (l:=L) (j:=j) 0 (by omega))
   have hrow:=zqs h1 h2 h3 hnr' hi
   have hlt:zd4 m.1.toNat L i*m.1.toNat+L.getD j 0<m.2.2.length:=by
    have:=z7t (n:=m.1.toNat) (r:=m.2.1.toNat) hrow hx
    rw[hl]
    have e:m.2.1.toNat*m.1.toNat=r*n:=by rw[hn,hr];rfl
    omega
   have hidx:w64 (w64 (((zd4 m.1.toNat L i:Nat):Int)*m.1)+((L.getD j 0:Nat):Int))=((zd4 m.1.toNat L i*m.1.toNat+L.getD j 0:Nat):Int):=by
    have e:((zd4 m.1.toNat L i:Nat):Int)*m.1=((zd4 m.1.toNat L i*m.1.toNat:Nat):Int):=by rw[hn,Int.natCast_mul];simp
    have hb:zd4 m.1.toNat L i*m.1.toNat<=8*5:=Nat.mul_le_mul (by omega) (by omega)
    have e2:w64 (((zd4 m.1.toNat L i*m.1.toNat:Nat):Int))=((zd4 m.1.toNat L i*m.1.toNat:Nat):Int):=z1c (by omega) (by omega)
    rw[e,e2,z1c (by omega) (by omega)]
    omega
   have hset:(cur m L st (i*m.1.toNat+j)).set (zd4 m.1.toNat L i*m.1.toNat+L.getD j 0) (ent m i j)=cur m L st (i*m.1.toNat+(j+1)):=by
    have e:=scat_set (total:=m.2.2.length) (t:=i*m.1.toNat+j) (p:=zd4 m.1.toNat L i*m.1.toNat+L.getD j 0) (back:=za4 m.1.toNat L) (F:=λp=>m.2.2.getD (za4 m.1.toNat L p) 0) (G:=λp=>st.getD p 0) hlt (zo4 h1 h2 h3 hnr' h) (λq _ hq=>back_inj h1 h2 h3 hnr' h hq)
    simp only[zo4 h1 h2 h3 hnr' h]at e
    exact e
   rw[ct (dt (by omega)),ct (z1g (by rw[z27];omega)),ct (at_p hd hi h)]
   simp only[Int.toNat_natCast,z40,hidx]
   rw[ct (z1g (by rw[cur,zd3];exact hlt)),at_g (by omega),hset,z1d (by rw[z0y];omega)]
   exact ih (j+1) h (by omega)
  ·rw[cf (df (by omega)),show j=m.1.toNat by omega]
def outer(hN:10<=N)(hd:z3i m=true)(h1:L.Nodup)(h2:∀x∈L,x<m.1.toNat)(h3:L.length=m.1.toNat)(st:List Int)(k0:List Int->Int->Int->Int->Int->Option ρ)(t0 t1 o0 o1:Int):∀(M i:Nat),i<=m.2.1.toNat->m.2.1.toNat-i<M ->
  Z8L N k0 M (cur m L st (i*m.1.toNat)) (z39 L) (i:Int) m.1 m.2.1 m.2.2 t0 t1 o0 o1=k0 (cur m L st (m.2.1.toNat*m.1.toNat)) t0 t1 o0 o1:=by
 obtain⟨n,r,hn,hr,hn1,hn5,hnr,hr8,hl⟩:=z12 hd
 intro M
 induction M with
 | zero=>intro i _ h;omega
 | succ M ih =>
  intro i hi hM
  simp only[Z8L,Z9,Z10]
  by_cases h:i<m.2.1.toNat
  ·have hin:=inner (ρ:=ρ) (N:=N) hd h1 h2 h3 st (λout5_2 names1 i6 m2_0 m2_1 m2_2 t4_0 t4_1 out5_0 out5_1=>Z22 N out5_2 names1 i6 m2_0 m2_1 m2_2 t4_0 t4_1 out5_0 out5_1 (λout5_2 names1 i6 m2_0 m2_1 m2_2 t4_0 t4_1 out5_0 out5_1=>Z8L N k0 M out5_2 names1 i6 m2_0 m2_1 m2_2 t4_0 t4_1 out5_0 out5_1)) t0 t1 o0 o1 h N 0 (by omega) (by omega)
   rw[show((0:Nat):Int)=0 from rfl,Nat.add_zero]at hin
   have hnext:=ih (i+1) h (by omega)
   rw[Nat.add_mul,Nat.one_mul]at hnext
   rw[ct (dt (by omega))]
   simp only[Z11,Z12,Z13,Z14,Z15,Z16]
   by_cases hin':i<m.1.toNat
   ·rw[ct (dt (by omega)),ct (z1g (by rw[z27];omega)),Int.toNat_natCast,z40]
    rw[zd4,if_pos hin']at hin
    simp only[Z17,Z18,Z19,Z20]
    rw[hin]
    simp only[Z22]
    rw[z1d (by rw[z0y];omega)]
    exact hnext
   ·rw[cf (df (by omega))]
    rw[zd4,if_neg hin']at hin
    simp only[Z17,Z18,Z19,Z20]
    rw[hin]
    simp only[Z22]
    rw[z1d (by rw[z0y];omega)]
    exact hnext
  ·rw[cf (df (by omega)),show i=m.2.1.toNat by omega]
def ztw(L:List Nat):cur m L m.2.2 0=m.2.2:=by
 unfold cur
 rw[zqn]
 exact zd7 0 rfl
def cur_end(hd:z3i m=true)(h1:L.Nodup)(h2:∀x∈L,x<m.1.toNat)(h3:L.length=m.1.toNat)(st:List Int):cur m L st (m.2.1.toNat*m.1.toNat)=(z94 m (z39 L)).2.2:=by
 obtain⟨n,r,hn,hr,hn1,hn5,hnr,hr8,hl⟩:=z12 hd
 have e:m.2.1.toNat*m.1.toNat=m.2.2.length:=by rw[hl,hn,hr];simp
 rw[e]
 unfold cur z94
 rw[z43]
 exact zqo (λp hp=>by
  have:=back_lt h1 h2 h3 (r:=m.2.1.toNat) (by omega) (by omega) (q:=p) (by omega)
  omega)
end
def ok:Spec:=λm names hb hv hp=>⟨10,λN hN=>by
 simp only[P,Bool.and_eq_true]at hp
 obtain⟨hd,hnm⟩:=hp
 obtain⟨L,rfl,h1,h2,h3⟩:=z6y hnm
 obtain⟨n,r,hn,hr,hn1,hn5,hnr,hr8,hl⟩:=z12 hd
 have hlen:m.2.2.length<=8*5:=by rw[hl];exact Nat.mul_le_mul hr8 hn5
 simp only[Z0,Z1,Z2,Z3]
 rw[ct (show z0m.P (m.1,(m.2.1,m.2.2))=true from dt (show m.2.2.length<1099511627776 by omega))]
 simp only[Z4,Z5,Z6,Z7,Z8]
 have:=outer (ρ:=Unit×(Int×Int×List Int)×Unit) hN hd h1 h2 h3 m.2.2 (λout5_2 t4_0 t4_1 out5_0 out5_1=>Z23 N out5_2 t4_0 t4_1 out5_0 out5_1 (λt4_2 t4_0 t4_1=>some ((),((t4_0,(t4_1,t4_2)),())))) 0 0 m.1 m.2.1 N 0 (by omega) (by omega)
 rw[Nat.zero_mul,ztw,cur_end hd h1 h2 h3]at this
 exact this⟩
end z0p
end
end Go.Fw
namespace Go.Fw
section
variable {ρ : Type}
namespace z0r
def P(b:List Int)(r:Int×Int)(m:Int×Int×List Int):Bool:=z1z b r&&z3i m
abbrev S:=(Int×Int)×(Int×Int×List Int)
def moveS(b:List Int)(s:S):S :=
 ((z00.g b s.1 s.2.1).1,if(z0u.g s.2 (z00.g b s.1 s.2.1).2).2=true then(z0u.g s.2 (z00.g b s.1 s.2.1).2).1 else s.2)
def walkS(b:List Int):Nat->S->S
 | 0,s=>s
 | n+1,s=>walkS b n (moveS b s)
def walked(b:List Int)(r:Int×Int)(m:Int×Int×List Int):S:=walkS b (z00.g b r 4).2.toNat ((z00.g b r 4).1,m)
def g(b:List Int)(r:Int×Int)(m:Int×Int×List Int):(Int×Int)×(Int×Int×List Int) :=
 ((z18.g b (walked b r m).1 (walked b r m).2.1).1,z0p.g (walked b r m).2 (z18.g b (walked b r m).1 (walked b r m).2.1).2)
end z0r
namespace z0r
def Z1{ρ:Type}(N:Nat)(b0:List Int)(r0:Int×Int)(a:MT)(kn:List Int->I4 (LI->I2 (Option ρ))):Option ρ :=
 kn b0 r0.1 r0.2 a.1 a.2.1 a.2.2 0 0
def Z3{ρ:Type}(N:Nat)(a:List Int)(b c d e:Int)(f:LI)(h i:Int)(kn:Int->List Int->I4 (LI->I2 (Option ρ))):Option ρ :=
 cond (lk N (z00.P a (b,c) 4)) (
  kn (z00.g a (b,c) 4).2 a (z00.g a (b,c) 4).1.1 (z00.g a (b,c) 4).1.2 d e f h i) none
def Z6{ρ:Type}(N:Nat)(a:Int)(b:List Int)(c d e f:Int)(g:LI)(h i:Int)(kn:I2 (List Int->I4 (LI->I2 (Option ρ)))):Option ρ :=
 kn a 0 b c d e f g h i
def Z9{ρ:Type}(N:Nat)(c d:Int)(a:List Int)(e f b h:Int)(i:LI)(j l:Int)(kn:I2 (List Int->I4 (LI->I2 (Option ρ))))(k0:List Int->I4 (LI->I2 (Option ρ))):Option ρ :=
 let x1_:=(z00.g a (e,f) b)
 let x2_:=(z0u.g (b,(h,i)) x1_.2)
 let x3_:=(lk N (z00.P a (e,f) b))
 let x0_:=(
   cond (lk N (x2_.2))
   (
   kn c (w64 (d+1)) a x1_.1.1 x1_.1.2 x2_.1.1 x2_.1.2.1 x2_.1.2.2 j l)
   (
   kn c (w64 (d+1)) a x1_.1.1 x1_.1.2 b h i j l))
 cond (lk N (decide (d<c)))
 (
 z6d (
 z6d (
 cond x3_ (
 bo x0_) none)
 (
 cond x3_ x0_ none))
 (
 z6d (
 cond x3_ (
 z6d (
 bo x0_)
 x0_) none)
 (
 bo (
 cond x3_ x0_ none))))
 (
 k0 a e f b h i j l)
def Z8L{ρ:Type}(N:Nat)(k0:List Int->I4 (LI->I2 (Option ρ))):Nat->Int->Int->List Int->Int->Int->Int->Int->LI->Int->Int->Option ρ
 | 0,_,_,_,_,_,_,_,_,_,_=>none
 | M+1,a,b,c,d,e,f,g,h,i,j=>Z9 N a b c d e f g h i j (λa b c d e f g h i j=>Z8L N k0 M a b c d e f g h i j) k0
def Z8 N a b c d e f g h i j k0:=(Z8L N k0 N a b c d e f g h i j:Option ρ)
def Z7 N a b c d e f g h i j kn:=(Z8 N a b c d e f g h i j kn:Option ρ)
def Z5 N a b c d e f g h i kn:=(Z6 N a b c d e f g h i (λa j b c d e f g h i=>Z7 N a j b c d e f g h i kn):Option ρ)
def Z10{ρ:Type}(N:Nat)(b:List Int)(c d a e:Int)(f:LI)(h i:Int)(kr:LI->I2 (List Int->I2 (Option ρ))):Option ρ :=
 bo (
  cond (lk N (z18.P b (c,d) a)) (
   cond (lk N (z0p.P (a,(e,f)) (z18.g b (c,d) a).2)) (
    kr (z0p.g (a,(e,f)) (z18.g b (c,d) a).2).2.2 (z0p.g (a,(e,f)) (z18.g b (c,d) a).2).1 (z0p.g (a,(e,f)) (z18.g b (c,d) a).2).2.1 b (z18.g b (c,d) a).1.1 (z18.g b (c,d) a).1.2) none) none)
def Z4 N i a b c d e f g h kr:=(Z5 N i a b c d e f g h (λa b c d e f g h=>Z10 N a b c d e f g h kr):Option ρ)
def Z2 N a b c d e f g h kr:=(Z3 N a b c d e f g h (λi a b c d e f g h=>Z4 N i a b c d e f g h kr):Option ρ)
def Z0 N b0 r0 a kr:=(Z1 N b0 r0 a (λb c d e f g h i=>Z2 N b c d e f g h i kr):Option ρ)
def Spec:Prop:=∀{U:Type} (u:U) (b0:List Int) (r0:Int×Int) (v1:MT),Ty.bd (.sl 0 (.int .u8)) b0->Ty.bd (.pair (.int .i64) (.pair (.int .i64) (.sl 0 (.int .i64)))) v1->P b0 r0 v1=true->∃N0,∀N,N0<=N->Z0 N b0 r0 v1 (λv4_2 v4_0 v4_1 w0_0 w0_1 w0_2=>some (u,((w0_1,w0_2),((),((v4_0,(v4_1,v4_2)),())))))=some (u,((g b0 r0 v1).1,((),((g b0 r0 v1).2,()))))
def mut_step{m:Int×Int×List Int}{k:Int}(h:(z0u.g m k).2=true):(z0u.g m k).1=z6h m k.toNat:=by
 unfold z0u.g at h ⊢
 split at h
 ·rename_i hc
  rw[if_pos hc]
 ·cases h
structure J(b:List Int)(n q:Int)(s:S):Prop where
 cur:z1z b s.1=true
 dim:z3i s.2=true
 hn:s.2.1=n
 hr:s.2.2.1=q
def J.move{b:List Int}{n q:Int}{s:S}(h:J b n q s):J b n q (moveS b s):=by
 unfold moveS
 by_cases hc:(z0u.g s.2 (z00.g b s.1 s.2.1).2).2=true
 ·rw[if_pos hc,mut_step hc]
  exact⟨z00.keep h.cur,za2 h.dim _,h.hn,h.hr⟩
 ·rw[if_neg hc]
  exact⟨z00.keep h.cur,h.dim,h.hn,h.hr⟩
def J.walk{b:List Int}{n q:Int}:∀(c:Nat) {s:S},J b n q s->J b n q (walkS b c s)
 | 0,_,h=>h
 | c+1,s,h=>J.walk c h.move
def zgh{b:List Int}{r:Int×Int}{m:Int×Int×List Int}(h:z1z b r=true)(hd:z3i m=true):J b m.1 m.2.1 (walked b r m) :=
 J.walk _ ⟨z00.keep h,hd,rfl,rfl⟩
def keep{b:List Int}{r:Int×Int}{m:Int×Int×List Int}(h:z1z b r=true)(hd:z3i m=true):z1z b (g b r m).1=true:=z18.keep (zgh h hd).cur
def dim{b:List Int}{r:Int×Int}{m:Int×Int×List Int}(h:z1z b r=true)(hd:z3i m=true):z3i (g b r m).2=true/\(g b r m).2.1=m.1/\(g b r m).2.2.1=m.2.1:=by
 have hj:=zgh h hd
 refine⟨?_,hj.hn,hj.hr⟩
 have:=hj.dim
 simpa[z3i,g,z0p.g,z94]using this
def loop{ρ:Type}{N:Nat}{b:List Int}(kk:List Int->Int->Int->Int->Int->List Int->Int->Int->Option ρ)(t0 t1 n0 q0:Int){c:Nat}(hc:c<=5):∀(M i:Nat) (s:S),i<=c->J b n0 q0 s->c-i<M ->
  Z8L N kk M (c:Int) (i:Int) b s.1.1 s.1.2 s.2.1 s.2.2.1 s.2.2.2 t0 t1=kk b (walkS b (c-i) s).1.1 (walkS b (c-i) s).1.2 (walkS b (c-i) s).2.1 (walkS b (c-i) s).2.2.1 (walkS b (c-i) s).2.2.2 t0 t1:=by
 intro M
 induction M with
 | zero=>intro i s _ _ h;omega
 | succ M ih =>
  intro i s hi hs hM
  simp only[Z8L,Z9]
  by_cases h:i<c
  ·have es:((s.1.1,s.1.2):Int×Int)=s.1:=rfl
   have em:((s.2.1,(s.2.2.1,s.2.2.2)):Int×Int×List Int)=s.2:=rfl
   have hP:z00.P b s.1 s.2.1=true:=hs.cur
   have w1:w64 ((i:Int)+1)=((i+1:Nat):Int):=z1d (by rw[z0y];omega)
   rw[ct (dt (by omega))]
   have nxt:=ih (i+1) (moveS b s) h hs.move (by omega)
   have ec:c-i=(c-(i+1))+1:=by omega
   rw[ec]
   show _=kk b (walkS b (c-(i+1)) (moveS b s)).1.1 (walkS b (c-(i+1)) (moveS b s)).1.2 (walkS b (c-(i+1)) (moveS b s)).2.1 (walkS b (c-(i+1)) (moveS b s)).2.2.1 (walkS b (c-(i+1)) (moveS b s)).2.2.2 t0 t1
   rw[<-nxt]
   simp only[z1t,es,em,hP,cond_true,z30,w1]
   unfold moveS
   cases hq:(z0u.g s.2 (z00.g b s.1 s.2.1).2).2
   ·rw[if_neg (by simp)]
    rfl
   ·rw[if_pos rfl]
    rfl
  ·rw[cf (df (by omega)),show c-i=0 by omega]
   rfl
def ok:Spec:=λu b r m hb hbm hp=>⟨10,λN hN=>by
 simp only[P,Bool.and_eq_true]at hp
 obtain⟨h,hd⟩:=hp
 have h0:=z00.keep (n:=4) h
 have p0:z00.P b r 4=true:=h
 have er:((r.1,r.2):Int×Int)=r:=rfl
 have hr:=z00.range (b:=b) (r:=r) (n:=4) (by omega) (by omega)
 simp only[Z0,Z1,Z2,Z3,z1t,er,p0,cond_true,Z4,Z5,Z6,Z7,Z8]
 have hj:=zgh h hd
 obtain⟨c,hc⟩:=Int.eq_ofNat_of_zero_le hr.1
 have hw:walked b r m=walkS b (c-0) ((z00.g b r 4).1,m):=by
  unfold walked
  rw[hc]
  rfl
 rw[hc]
 refine(loop _ 0 0 m.1 m.2.1 (by omega) N 0 ((z00.g b r 4).1,m) (Nat.zero_le _) ⟨h0,hd,rfl,rfl⟩ (by omega)).trans ?_
 simp only[g]
 rw[<-hw]
 have es:(((walked b r m).1.1,(walked b r m).1.2):Int×Int)=(walked b r m).1:=rfl
 have em:(((walked b r m).2.1,((walked b r m).2.2.1,(walked b r m).2.2.2)):Int×Int×List Int)=(walked b r m).2:=rfl
 obtain⟨n,q,hn,_,hn1,hn5,_⟩:=z12 hj.dim
 have pn:z18.P b (walked b r m).1 (walked b r m).2.1=true:=by
  simp only[z18.P,Bool.and_eq_true,z2b]
  exact⟨hj.cur,by omega,by omega⟩
 have hnm:z6l (z18.g b (walked b r m).1 (walked b r m).2.1).2 (walked b r m).2.1=true:=by
  rw[hn]
  exact z18.names n
 have pr:z0p.P (walked b r m).2 (z18.g b (walked b r m).1 (walked b r m).2.1).2=true:=by
  simp only[z0p.P,Bool.and_eq_true]
  exact⟨hj.dim,hnm⟩
 simp only[Z10,z1t,es,em,pn,pr,cond_true,z30]⟩
end z0r
end
end Go.Fw
namespace Go.Fw
section
variable {ρ : Type}
namespace z1q
def P(b:List Int)(r:Int×Int)(most:Int):Bool:=z1z b r&&inK most 1 4
def g(b:List Int)(r:Int×Int)(most:Int):(Int×Int)×(Int×Int×List Int)×ByteArray :=
 ((z0r.g b (spec_dTree.g b r most).1 (spec_dTree.g b r most).2.1).1,(z0r.g b (spec_dTree.g b r most).1 (spec_dTree.g b r most).2.1).2,(spec_dTree.g b r most).2.2)
end z1q
namespace z1q
def Z0{ρ:Type}(N:Nat)(b0:List Int)(r0:Int×Int)(a:Int)(kr:LI->ByteArray->I2 (List Int->I2 (Option ρ))):Option ρ :=
 cond (lk N (spec_dTree.P b0 r0 a)) (
  cond (lk N (z0r.P b0 (spec_dTree.g b0 r0 a).1 (spec_dTree.g b0 r0 a).2.1)) (
   kr (z0r.g b0 (spec_dTree.g b0 r0 a).1 (spec_dTree.g b0 r0 a).2.1).2.2.2 (spec_dTree.g b0 r0 a).2.2 (z0r.g b0 (spec_dTree.g b0 r0 a).1 (spec_dTree.g b0 r0 a).2.1).2.1 (z0r.g b0 (spec_dTree.g b0 r0 a).1 (spec_dTree.g b0 r0 a).2.1).2.2.1 b0 (z0r.g b0 (spec_dTree.g b0 r0 a).1 (spec_dTree.g b0 r0 a).2.1).1.1 (z0r.g b0 (spec_dTree.g b0 r0 a).1 (spec_dTree.g b0 r0 a).2.1).1.2) none) none
def Spec:Prop:=∀{U:Type} (u:U) (b0:List Int) (r0:Int×Int) (v1:Int),Ty.bd (.sl 0 (.int .u8)) b0->P b0 r0 v1=true->∃N0,∀N,N0<=N->Z0 N b0 r0 v1 (λv4_2 v5 v4_0 v4_1 w0_0 w0_1 w0_2=>some (u,((w0_1,w0_2),((),((v4_0,(v4_1,v4_2)),(v5,()))))))=some (u,((g b0 r0 v1).1,((),((g b0 r0 v1).2.1,((g b0 r0 v1).2.2,())))))
def facts{b:List Int}{r:Int×Int}{most:Int}(h:z1z b r=true)(h1:1<=most)(h4:most<=4):z1z b (g b r most).1=true/\z3i (g b r most).2.1=true/\(g b r most).2.1.1<=4/\(g b r most).2.1.2.1=(g b r most).2.1.1:=by
 obtain⟨q,q1,q4,hj⟩:=spec_dTree.facts h h1 h4
 obtain⟨d1,d2,d3⟩:=z0r.dim hj.cur hj.dim
 have e1:=hj.hn
 have e2:=hj.hr
 exact⟨z0r.keep hj.cur hj.dim,d1,by show(z0r.g b _ _).2.1<=4;rw[d2,e1];exact q4,by show(z0r.g b _ _).2.2.1=(z0r.g b _ _).2.1;rw[d2,d3,e1,e2]⟩
def ok:Spec:=λu b r most hb hp=>⟨0,λN hN=>by
 simp only[P,Bool.and_eq_true,z2b]at hp
 obtain⟨q,q1,q4,hj⟩:=spec_dTree.facts hp.1 hp.2.1 hp.2.2
 have p1:spec_dTree.P b r most=true:=by
  simp only[spec_dTree.P,Bool.and_eq_true,z2b]
  exact⟨hp.1,hp.2⟩
 have p2:z0r.P b (spec_dTree.g b r most).1 (spec_dTree.g b r most).2.1=true:=by
  simp only[z0r.P,Bool.and_eq_true]
  exact⟨hj.cur,hj.dim⟩
 simp only[Z0,z1t,p1,p2,cond_true]
 rfl⟩
end z1q
end
end Go.Fw
namespace Go.Fw
section
variable {ρ : Type}
namespace z05
def P(b:List Int)(r:Int×Int):Bool:=z1z b r
def g(b:List Int)(r:Int×Int):(Int×Int)×(Int×Int×List Int) :=
 if(z0i.g b r 3).2=true then z0e.g b (z0i.g b r 3).1 else((z1q.g b (z0i.g b r 3).1 4).1,(z1q.g b (z0i.g b r 3).1 4).2.1)
end z05
namespace z05
def Z0{ρ:Type}(N:Nat)(b0:List Int)(r0:Int×Int)(kr:LI->I2 (List Int->I2 (Option ρ))):Option ρ :=
 cond (lk N (z0i.P b0 r0 3)) (
  cond (lk N ((z0i.g b0 r0 3).2))
  (
   cond (lk N (z0e.P b0 (z0i.g b0 r0 3).1)) (
    kr (z0e.g b0 (z0i.g b0 r0 3).1).2.2.2 (z0e.g b0 (z0i.g b0 r0 3).1).2.1 (z0e.g b0 (z0i.g b0 r0 3).1).2.2.1 b0 (z0e.g b0 (z0i.g b0 r0 3).1).1.1 (z0e.g b0 (z0i.g b0 r0 3).1).1.2) none)
  (
   cond (lk N (z1q.P b0 (z0i.g b0 r0 3).1 4)) (
    kr (z1q.g b0 (z0i.g b0 r0 3).1 4).2.1.2.2 (z1q.g b0 (z0i.g b0 r0 3).1 4).2.1.1 (z1q.g b0 (z0i.g b0 r0 3).1 4).2.1.2.1 b0 (z1q.g b0 (z0i.g b0 r0 3).1 4).1.1 (z1q.g b0 (z0i.g b0 r0 3).1 4).1.2) none)) none
def Spec:Prop:=∀{U:Type} (u:U) (b0:List Int) (r0:Int×Int),Ty.bd (.sl 0 (.int .u8)) b0->P b0 r0=true->∃N0,∀N,N0<=N->Z0 N b0 r0 (λv2_2 v2_0 v2_1 w0_0 w0_1 w0_2=>some (u,((w0_1,w0_2),((),((v2_0,(v2_1,v2_2)),())))))=some (u,((g b0 r0).1,((),((g b0 r0).2,()))))
def wild4(b:List Int)(r:Int×Int):(z0e.g b r).2.1<=4:=by
 unfold z0e.g
 split
 ·show(3:Int)<=4
  decide
 split
 ·show(2:Int)<=4
  decide
 split
 ·show(3:Int)<=4
  decide
 ·show(4:Int)<=4
  decide
def facts{b:List Int}{r:Int×Int}(h:z1z b r=true):z1z b (g b r).1=true/\z3i (g b r).2=true/\(g b r).2.1<=4/\(g b r).2.2.1=(g b r).2.1:=by
 have h0:=z0i.keep (n:=3) h
 unfold g
 split
 ·have:=z0e.dim h0
  exact⟨z0e.keep h0,this.1,wild4 b _,this.2.symm⟩
 ·exact z1q.facts h0 (by omega) (by omega)
def ok:Spec:=λu b r hb hp=>⟨0,λN hN=>by
 have h0:=z0i.keep (n:=3) hp
 have p0:z0i.P b r 3=true:=hp
 have p1:z0e.P b (z0i.g b r 3).1=true:=h0
 have p2:z1q.P b (z0i.g b r 3).1 4=true:=by
  simp only[z1q.P,Bool.and_eq_true,z2b]
  exact⟨h0,by omega,by omega⟩
 simp only[Z0,z1t,p0,p1,p2,cond_true,g]
 cases(z0i.g b r 3).2
 ·rw[if_neg (by simp)]
  rfl
 ·rw[if_pos rfl]
  rfl⟩
end z05
end
end Go.Fw
namespace Go.Fw
def zey(_:Nat):Int:=1
def z7e(i:Nat):0<zey i:=by
 show(0:Int)<1
 decide
def zej{b:List Int}{d:Nat->Int}:∀(l:List Nat) {s:spec_dTree.S},(∀i∈l,i+1<s.2.1.toNat/\d i=d (i+1))->z2u s.2 d->z2u (l.foldl (spec_dTree.chainS b) s).2 d/\(l.foldl (spec_dTree.chainS b) s).2.1=s.2.1
 | [],_,_,h=>⟨h,rfl⟩
 | i::l,s,hl,h=>by
  obtain⟨h1,h2⟩:=hl i List.mem_cons_self
  have g:z2u (spec_dTree.chainS b s i).2 d:=z3d h rfl (show(i:Int)+1=((i+1:Nat):Int) by omega) (by omega) h1 (by omega) (by omega) (by omega) (by rw[h2])
  exact zej l (s:=spec_dTree.chainS b s i) (λx hx=>hl x (List.mem_cons_of_mem _ hx)) g
def zfh{b:List Int}:∀(l:List Nat) {s:spec_dTree.S},(∀i∈l,0<i/\i<s.2.1.toNat)->z2u s.2 zey->z2u (l.foldl (spec_dTree.starS b) s).2 zey
 | [],_,_,h=>h
 | i::l,s,hl,h=>by
  obtain⟨h1,h2⟩:=hl i List.mem_cons_self
  have g:z2u (spec_dTree.starS b s i).2 zey:=z3d (i:=0) (j:=i) h rfl rfl (by omega) h2 (by omega) (by omega) (by omega) rfl
  exact zfh l (s:=spec_dTree.starS b s i) (λx hx=>hl x (List.mem_cons_of_mem _ hx)) g
def zck{b:List Int}{r:Int×Int}{n c:Nat}{d:Nat->Int}(hd:∀i,0<d i)(h1:1<=n)(h4:n<=4)(hc:∀i,i<c->i+1<n/\d i=d (i+1)):z2u (spec_dTree.chainG b r n c).2 d/\(spec_dTree.chainG b r n c).2.1=(n:Int):=by
 refine zej (List.range c) (s:=(r,z02.g (n:Int))) (λi hi=>?_) (z4d (by omega) (by omega) hd)
 have:=hc i (List.mem_range.1 hi)
 exact this
def lastD(n:Nat)(x y:Int)(i:Nat):Int:=if i+1<n then x else y
def zoi{b:List Int}{r:Int×Int}(k:Int){n:Nat}(h1:1<=n)(h4:n<=4)(hk:k=4\/k=5->2<=n):∃d,z2u (spec_dTree.tree b r k n).1.2 d:=by
 have big:∀(x y u v:Int),2<=n->0<u->0<v->-99<=x/\x<=99->-99<=y/\y<=99->u*x=v*y->∃d,z2u (spec_dTree.endB b (spec_dTree.chainG b r n (n-2)) n x y).2 d:=by
  intro x y u v h2 hu hv hx hy he
  obtain⟨g1,g2⟩:=zck (b:=b) (r:=r) (n:=n) (c:=n-2) (d:=lastD n u v) (λi=>by unfold lastD;split<;>omega) h1 h4 (λi hi=>⟨by omega,by unfold lastD;rw[if_pos (by omega),if_pos (by omega)]⟩)
  refine⟨_,z3d (i:=n-2) (j:=n-1) g1 (show(n:Int)-2=((n-2:Nat):Int) by omega) (show(n:Int)-1=((n-1:Nat):Int) by omega) (by omega) (by omega) (by omega) hx hy ?_⟩
  unfold lastD
  rw[if_pos (by omega),if_neg (by omega)]
  exact he
 unfold spec_dTree.tree
 split
 ·rename_i e
  exact big 2 1 1 2 (hk (.inl e)) (by omega) (by omega) (by omega) (by omega) (by omega)
 split
 ·rename_i e
  split
  ·exact big 2 1 1 2 (hk (.inr e)) (by omega) (by omega) (by omega) (by omega) (by omega)
  ·exact big 1 2 2 1 (hk (.inr e)) (by omega) (by omega) (by omega) (by omega) (by omega)
 split
 ·exact⟨zey,z4d (by omega) (by omega) z7e⟩
 split
 ·exact⟨λi=>if i=0 then 1 else 3,z3d (i:=0) (j:=1) (z4d (n:=2) (by omega) (by omega) (λi=>by split<;>omega)) rfl rfl (by decide) (by decide) (by omega) (by omega) (by omega) (by decide)⟩
 split
 ·exact⟨zey,zfh _ (λi hi=>by
   have:i∈(List.range 4).drop 1:=hi
   have h:∀i∈(List.range 4).drop 1,0<i/\i<4:=by decide
   exact h i this) (z4d (n:=4) (by omega) (by omega) z7e)⟩
 split
 ·let d:Nat->Int:=λi=>if i<2 then 1 else 2
  have z:z2u (z02.g 4) d:=z4d (by omega) (by omega) (λi=>by show 0<(if i<2 then(1:Int)else 2);split<;>omega)
  have z1:z2u (spec_dTree.f1 b r).2 d:=z3d (i:=0) (j:=1) z rfl rfl (by decide) (by decide) (by omega) (by omega) (by omega) (by decide)
  have z2:z2u (spec_dTree.f2 b r).2 d:=z3d (i:=1) (j:=2) z1 rfl rfl (show 1<4 by decide) (show 2<4 by decide) (by omega) (by omega) (by omega) (by decide)
  exact⟨d,z3d (i:=2) (j:=3) z2 rfl rfl (show 2<4 by decide) (show 3<4 by decide) (by omega) (by omega) (by omega) (by decide)⟩
 split
 ·exact⟨zey,z3d (i:=0) (j:=1) (z4d (n:=3) (by omega) (by omega) z7e) rfl rfl (by decide) (by decide) (by omega) (by omega) (by omega) (by decide)⟩
 ·exact⟨zey,(zck z7e h1 h4 (λi hi=>⟨by omega,rfl⟩)).1⟩
def kinds{k n most:Int}(h:spec_dTree.k2 (spec_dTree.k1 k n most) most=4\/spec_dTree.k2 (spec_dTree.k1 k n most) most=5):2<=n:=by
 unfold spec_dTree.k2 spec_dTree.k1 at h
 by_cases hn:n<2
 ·exfalso
  rw[dt hn]at h
  by_cases h4:4<=k<;>by_cases h6:k<=6<;>by_cases h7:k=7<;>by_cases hm:most<2<;>simp[h4,h6,h7,hm]at h<;>first | omega | (revert h;generalize(decide (k=8)&&decide (most<4))=b1;generalize(decide (k=9)&&decide (most<4))=b2;generalize(decide (k=10)&&decide (most<3))=b3;intro h;cases b1<;>cases b2<;>cases b3<;>simp at h<;>omega) | skip
 ·omega
def treeD{b:List Int}{r:Int×Int}{most:Int}(h1:1<=most)(h4:most<=4):∃d,z2u (spec_dTree.g b r most).2.1 d:=by
 have rn:=z00.range (b:=b) (r:=(z00.g b r 11).1) (n:=most) h1 (by omega)
 refine zoi (b:=b) _ (n:=(1+(z00.g b (z00.g b r 11).1 most).2).toNat) (by omega) (by omega) λh=>?_
 have:=kinds h
 omega
def zp0{b:List Int}{d:Nat->Int}{s:z0r.S}(h:z2u s.2 d)(hc:z1z b s.1=true):z2u (z0r.moveS b s).2 d/\(z0r.moveS b s).2.1=s.2.1/\z1z b (z0r.moveS b s).1=true:=by
 unfold z0r.moveS
 refine⟨?_, ?_,z00.keep hc⟩
 ·by_cases hq:(z0u.g s.2 (z00.g b s.1 s.2.1).2).2=true
  ·simp only[hq,if_true]
   rw[z0r.mut_step hq]
   unfold z0u.g at hq
   split at hq
   ·rename_i h3
    simp only[Bool.and_eq_true]at h3
    have:=z2b.1 h3.2.1
    exact h.mut (by omega) h3.2.2
   ·cases hq
  ·simp only[hq]
   exact h
 ·by_cases hq:(z0u.g s.2 (z00.g b s.1 s.2.1).2).2=true
  ·simp only[hq,if_true]
   rw[z0r.mut_step hq]
   rfl
  ·simp only[hq]
   rfl
def zfd{b:List Int}{d:Nat->Int}:∀(c:Nat) {s:z0r.S},z2u s.2 d->z1z b s.1=true->z2u (z0r.walkS b c s).2 d
 | 0,_,h,_=>h
 | c+1,s,h,hc=>by
  obtain⟨h1,h2,h3⟩:=zp0 h hc
  exact zfd c h1 h3
def movedD{b:List Int}{r:Int×Int}{m:Int×Int×List Int}{d:Nat->Int}(h:z2u m d)(hc:z1z b r=true):∃d',z2u (z0r.g b r m).2 d':=by
 have hw:z2u (z0r.walked b r m).2 d:=zfd _ h (z00.keep hc)
 obtain⟨n,q,hn,_⟩:=z12 hw.dim
 refine⟨_,z2u.ren hw ?_⟩
 rw[hn]
 exact z18.names n
def finiteD{b:List Int}{r:Int×Int}{most:Int}(h:z1z b r=true)(h1:1<=most)(h4:most<=4):∃d,z2u (z1q.g b r most).2.1 d:=by
 obtain⟨d,hd⟩:=treeD (b:=b) (r:=r) h1 h4
 obtain⟨q,_,_,hj⟩:=spec_dTree.facts h h1 h4
 exact movedD hd hj.cur
def zlp{m:Int×Int×List Int}(h:∀u,u<m.1.toNat->∀v,v<m.1.toNat->ent m u v=-ent m v u):za8 m.1.toNat (ent m) zey:=λu hu=>⟨z7e u,λv hv=>by
 show 1*ent m u v=-(1*ent m v u)
 rw[h u hu v hv];omega⟩
def zje:z2u z0e.markov zey:=by
 refine⟨by decide +kernel,zlp ?_⟩
 show ∀u,u<3->∀v,v<3->ent z0e.markov u v=-ent z0e.markov v u
 decide +kernel
def twoD{b:List Int}{r:Int×Int}:∃d,z2u (z0e.two b r).2 d:=by
 have r1:=z00.range (b:=b) (r:=r) (n:=4) (by omega) (by omega)
 have r2:=z00.range (b:=b) (r:=(z00.g b r 4).1) (n:=4) (by omega) (by omega)
 let d:Nat->Int:=λi=>if i=0 then 1+(z00.g b (z00.g b r 4).1 4).2 else 1+(z00.g b r 4).2
 refine⟨d,z3d (i:=0) (j:=1) (z4d (n:=2) (by omega) (by omega) (λi=>?_)) rfl rfl (by decide) (by decide) (by omega) (by omega) (by omega) ?_⟩
 ·show 0<(if i=0 then 1+(z00.g b (z00.g b r 4).1 4).2 else 1+(z00.g b r 4).2)
  split<;>omega
 ·show(1+(z00.g b (z00.g b r 4).1 4).2)*(1+(z00.g b r 4).2)=(1+(z00.g b r 4).2)*(1+(z00.g b (z00.g b r 4).1 4).2)
  exact Int.mul_comm _ _
def threeD{b:List Int}{r:Int×Int}:z2u (z0e.three b r).2 zey:=by
 have z1:z2u (z0e.j1 b r).2 zey:=z3d (i:=0) (j:=1) (z4d (n:=3) (by omega) (by omega) z7e) rfl rfl (by decide) (by decide) (by omega) (by omega) (by omega) (by decide)
 have z2:z2u (z0e.j2 b r).2 zey:=z3d (i:=1) (j:=2) z1 rfl rfl (show 1<3 by decide) (show 2<3 by decide) (by omega) (by omega) (by omega) (by decide)
 have rr:=z00.range (b:=b) (r:=(z0e.j2 b r).1) (n:=2) (by omega) (by omega)
 let x:Int:=1+(z00.g b (z0e.j2 b r).1 2).2
 have hx:1<=x/\x<=2:=by show 1<=1+_/\1+_<=(2:Int);omega
 let s:Bool:=(z0i.g b (z00.g b (z0e.j2 b r).1 2).1 2).2
 have z3:z2u (z06.joinM s (z0e.j2 b r).2 0 2 x x) zey:=z3d (i:=0) (j:=2) z2 rfl rfl (show 0<3 by decide) (show 2<3 by decide) (by omega) (by omega) (by omega) rfl
 have hl:(z0e.j2 b r).2.2.2.length=9:=by simp[z0e.j2,z0e.j1,z06.g,z06.joinM,z02.g]
 have e:(z0e.three b r).2=z06.joinM s (z0e.j2 b r).2 0 2 x x:=by
  have h1:(z0e.j3 b r).2.2.2=((z0e.j2 b r).2.2.2.set 2 (if s=true then -x else x)).set 6 (if s=true then 1 else -1):=rfl
  have h2:(((z0e.j2 b r).2.2.2.set 2 (if s=true then -x else x)).set 6 (if s=true then 1 else -1)).getD 2 0=if s=true then -x else x:=by
   rw[List.getD_eq_getElem?_getD,List.getElem?_set_ne (by decide),List.getElem?_set_self (by omega)]
   rfl
  have h3:w64 (0-(if s=true then -x else x))=if s=true then x else -x:=by
   split
   ·rw[z1c (by omega) (by omega)];omega
   ·rw[z1c (by omega) (by omega)];omega
  show((3:Int),(3:Int),(z0e.j3 b r).2.2.2.set 6 (w64 (0-(z0e.j3 b r).2.2.2.getD 2 0)))=(3,3,((z0e.j2 b r).2.2.2.set 2 (if s=true then -x else x)).set 6 (if s=true then x else -x))
  rw[h1,h2,h3,List.set_set]
 rw[e]
 exact z3
def zoj{b:List Int}{i j:Nat}{s:(Int×Int)×List Int}(hj:j<i)(hi:i<4)(h:z2u (4,4,s.2) zey):z2u (4,4,(z0e.step4 b i s j).2) zey:=by
 have rr:=z00.range (b:=b) (r:=s.1) (n:=5) (by omega) (by omega)
 have:=z3d (s:=false) (i:=i) (j:=j) (a:=(z00.g b s.1 5).2-2) (c:=(z00.g b s.1 5).2-2) h rfl rfl hi (show j<4 by omega) (by omega) (by omega) (by omega) rfl
 have e1:((i:Int)*4+(j:Int)).toNat=i*4+j:=by omega
 have e2:((j:Int)*4+(i:Int)).toNat=j*4+i:=by omega
 have e3:-((z00.g b s.1 5).2-2)=2-(z00.g b s.1 5).2:=by omega
 have e:z06.joinM false (4,4,s.2) (i:Int) (j:Int) ((z00.g b s.1 5).2-2) ((z00.g b s.1 5).2-2)=(4,4,(z0e.step4 b i s j).2):=by
  unfold z06.joinM z0e.step4
  simp only[e1,e2,e3,Bool.false_eq_true,if_false]
 rwa [e]at this
def zdg{b:List Int}{i:Nat}(hi:i<4):∀(l:List Nat) {s:(Int×Int)×List Int},(∀j∈l,j<i)->z2u (4,4,s.2) zey->z2u (4,4,(l.foldl (z0e.step4 b i) s).2) zey
 | [],_,_,h=>h
 | j::l,_,hl,h=>zdg hi l (λx hx=>hl x (List.mem_cons_of_mem _ hx)) (zoj (hl j List.mem_cons_self) hi h)
def zfk{b:List Int}:∀(l:List Nat) {s:(Int×Int)×List Int},(∀i∈l,i<4)->z2u (4,4,s.2) zey->z2u (4,4,(l.foldl (z0e.row4 b) s).2) zey
 | [],_,_,h=>h
 | i::l,_,hl,h=>zfk l (λx hx=>hl x (List.mem_cons_of_mem _ hx)) (zdg (hl i List.mem_cons_self) (List.range i) (λj hj=>List.mem_range.1 hj) h)
def wildD{b:List Int}{r:Int×Int}:∃d,z2u (z0e.g b r).2 d:=by
 unfold z0e.g
 split
 ·exact⟨_,zje⟩
 split
 ·exact twoD
 split
 ·exact⟨_,threeD⟩
 ·exact⟨zey,zfk (List.range 4) (s:=((z00.g b r 4).1,List.replicate 16 0)) (λi hi=>List.mem_range.1 hi) (z4d (n:=4) (by omega) (by omega) z7e)⟩
def matrixD{b:List Int}{r:Int×Int}(h:z1z b r=true):∃d,z2u (z05.g b r).2 d:=by
 unfold z05.g
 split
 ·exact wildD
 ·exact finiteD (z0i.keep h) (by omega) (by omega)
end Go.Fw
namespace Go.Fw
end Go.Fw
namespace Go.Fw
end Go.Fw
namespace Go.Fw
section
variable {m : Int × Int × List Int} {L : List Nat} (hd : z3i m = true) (h1 : L.Nodup) (h2 : ∀ x ∈ L, x < m.1.toNat) (h3 : L.length = m.1.toNat)
include hd h1 h2 h3
end
def z4i{m:Int×Int×List Int}(hd:z3i m=true){i j:Nat}(hi:i<m.1.toNat)(hj:j<m.1.toNat):ent (z3p m) i j=ent m i j:=by
 obtain⟨n,r,hn,hr,hn1,hn5,hnr,hr8,hl⟩:=z12 hd
 have e0:m.1.toNat=n:=by omega
 have e1:(m.1*m.1).toNat=n*n:=by rw[hn];norm_cast
 have:=z7t (n:=n) (r:=n) (i:=i) (j:=j) (by omega) (by omega)
 unfold ent z3p
 show(m.2.2.take (m.1*m.1).toNat).getD (i*m.1.toNat+j) 0=_
 rw[e1,List.getD_eq_getElem?_getD,List.getElem?_take,if_pos (by rw[e0];omega),<-List.getD_eq_getElem?_getD]
def z71{m:Int×Int×List Int}(hd:z3i m=true):z3i (z3p m)=true:=by
 obtain⟨n,r,hn,hr,hn1,hn5,hnr,hr8,hl⟩:=z12 hd
 have e1:(m.1*m.1).toNat=n*n:=by rw[hn];norm_cast
 have h2:n*n<=r*n:=Nat.mul_le_mul_right n hnr
 have h3:((z3p m).2.2.length:Int)=m.1*m.1:=by
  show((m.2.2.take (m.1*m.1).toNat).length:Int)=m.1*m.1
  rw[e1,List.length_take,hl,Nat.min_eq_left h2,hn]
  norm_cast
 simp only[z3i,Bool.and_eq_true,z2b,decide_eq_true_eq]
 exact⟨by show 1<=m.1/\m.1<=5;omega,by show m.1<=m.1/\m.1<=8;omega,h3⟩
def z2u.square{m:Int×Int×List Int}{d:Nat->Int}(h:z2u m d):z2u (z3p m) d:=by
 refine⟨z44.2 ⟨z71 h.dim,λx hx=>(z44.1 h.shaped).2 x (List.mem_of_mem_take hx)⟩,λu hu=>⟨(h.good u hu).1,λv hv=>?_⟩⟩
 rw[z4i h.dim hu hv,z4i h.dim hv hu]
 exact(h.good u hu).2 v hv
end Go.Fw
namespace Go.Fw
section
variable {ρ : Type}
namespace z2p
def g(n low high:Int):Bool:=inK n low high
end z2p
namespace z2p
def Z0{ρ:Type}(N:Nat)(a b c:Int)(kr:Bool->Option ρ):Option ρ :=
 cond (lk N (decide (b<=a)))
 (
  kr (lk N (decide (a<=c))))
 (
  kr false)
def Spec:Prop:=∀ (v0 v1 v2:Int),∃N0,∀N,N0<=N->Z0 N v0 v1 v2 (λv6=>some ((),(v6,())))=some ((),((g v0 v1 v2),()))
def ok:Spec:=λn low high=>⟨0,λN hN=>by
 simp only[Z0,z1t,g,inK]
 cases decide (low<=n)<;>rfl⟩
end z2p
end
end Go.Fw
namespace Go.Fw
section
variable {ρ : Type}
namespace z2a
def g(x:Int):Bool:=!inK x (-99) 99
end z2a
namespace z2a
def Z0{ρ:Type}(N:Nat)(a:Int)(kr:Bool->Option ρ):Option ρ :=
 kr (!(lk N ((z2p.g a (-99) 99))))
def Spec:Prop:=∀ (v0:Int),∃N0,∀N,N0<=N->Z0 N v0 (λv2=>some ((),(v2,())))=some ((),((g v0),()))
def ok:Spec:=λn=>⟨0,λN hN=>by
 simp only[Z0,g,z1t,z2p.g]⟩
end z2a
end
end Go.Fw
namespace Go.Fw
section
variable {ρ : Type}
namespace z0c
def go(p:Int->Bool):List Int->Nat->Int
 | [],_=>-1
 | x::xs,j=>if p x=true then(j:Int)else go p xs (j+1)
def g(s:List Int)(_:Unit):Int:=go z2a.g s 0
end z0c
namespace z0c
def Z1{ρ:Type}(N:Nat)(a:LI)(b:Unit)(kn:LI->Option ρ):Option ρ :=
 kn a
def Z4{ρ:Type}(N:Nat)(a:LI)(kn:LI->I2 (Option ρ)):Option ρ :=
 kn a (a.length:Int) 0
def Z7{ρ:Type}(N:Nat)(b:LI)(c a:Int)(kn:LI->I2 (Option ρ))(k0:Option ρ)(kr:Int->Option ρ):Option ρ :=
 cond (lk N (decide (a<c)))
 (
  cond (lk N (inB a b.length)) (
   cond (lk N ((z2a.g (b.getD a.toNat 0))))
   (
    kr a)
   (
    kn b c (w64 (a+1)))) none)
 (
  k0)
def Z6L{ρ:Type}(N:Nat)(k0:Option ρ)(kr:Int->Option ρ):Nat->LI->Int->Int->Option ρ
 | 0,_,_,_=>none
 | M+1,a,b,c=>Z7 N a b c (λa b c=>Z6L N k0 kr M a b c) k0 kr
def Z6 N a b c k0 kr:=(Z6L N k0 kr N a b c:Option ρ)
def Z5 N a b c kn kr:=(Z6 N a b c kn kr:Option ρ)
def Z3 N a kn kr:=(Z4 N a (λa b c=>Z5 N a b c kn kr):Option ρ)
def Z8{ρ:Type}(N:Nat) (kr:Int->Option ρ):Option ρ :=
 kr (-1)
def Z2 N a kr:=(Z3 N a (Z8 N kr) kr:Option ρ)
def Z0 N a b kr:=(Z1 N a b (λa=>Z2 N a kr):Option ρ)
def Spec:Prop:=∀ (v0:LI) (v1:Unit),Ty.bd (.sl 0 (.int .i64)) v0->∃N0,∀N,N0<=N->Z0 N v0 v1 (λv4=>some ((),(v4,())))=some ((),((g v0 v1),()))
def loop{ρ:Type}(N:Nat)(kr:Int->Option ρ)(a:List Int)(ha:a.length<=maxLen):∀(M j:Nat),j<=a.length->a.length-j<M ->
  Z6L N (kr (-1)) kr M a (a.length:Int) (j:Int)=kr (go z2a.g (a.drop j) j):=by
 intro M
 induction M with
 | zero=>intro j _ h;omega
 | succ M ih =>
  intro j hj hM
  simp only[Z6L,Z7]
  by_cases h:j<a.length
  ·rw[ct (dt (by omega)),ct (z1g h),Int.toNat_natCast,z1d (by omega),ih (j+1) h (by omega),z4c 0 h,go]
   cases e:z2a.g (a.getD j 0)
   ·rw[cf rfl,if_neg (by simp)]
   ·rw[ct rfl,if_pos rfl]
  ·rw[cf (df (by omega)),List.drop_of_length_le (by omega),go]
def ok:Spec:=λa _ ha=>⟨a.length+1,λN hN=>by
 simp only[Z1,Z4,Z7,Z6,Z5,Z3,Z8,Z2,Z0]
 exact(loop N (λt=>some ((),(t,()))) a ha.1 N 0 (by omega) (by omega)).trans rfl⟩
def go_pos(p:Int->Bool):∀(l:List Int) (j:Nat),0<=go p l j↔∃x∈l,p x=true
 | [],j=>by simp[go]
 | x::xs,j=>by
  rw[go]
  by_cases h:p x=true
  ·rw[if_pos h];simp[h]
  ·rw[if_neg h,go_pos p xs];simp[h]
end z0c
end
end Go.Fw
namespace Go.Fw
section
variable {ρ : Type}
namespace z17
def g(s:List Int)(_:Unit):Bool:=s.any z2a.g
end z17
namespace z17
def Z0{ρ:Type}(N:Nat)(a:LI)(b:Unit)(kr:Bool->Option ρ):Option ρ :=
 kr (lk N (decide (0<=(z0c.g a ()))))
def Spec:Prop:=∀ (v0:LI) (v1:Unit),Ty.bd (.sl 0 (.int .i64)) v0->∃N0,∀N,N0<=N->Z0 N v0 v1 (λv4=>some ((),(v4,())))=some ((),((g v0 v1),()))
def ok:Spec:=λa _ ha=>⟨0,λN hN=>by
 simp only[Z0,z1t,g]
 have:=(show 0<=z0c.g a ()↔∃x∈a,z2a.g x=true from z0c.go_pos z2a.g a 0)
 cases e:a.any z2a.g
 ·rw[df (λh=>by have:=this.1 h;rw[<-List.any_eq_true,e]at this;cases this)]
 ·rw[dt (this.2 (List.any_eq_true.1 e))]⟩
end z17
end
end Go.Fw
namespace Go.Fw
section
variable {ρ : Type}
namespace z3x
def g(m:Int×Int×List Int):Bool:=z0t m
end z3x
namespace z3x
def Z0{ρ:Type}(N:Nat)(a:MT)(kr:Bool->Option ρ):Option ρ :=
 cond (lk N ((z2p.g a.1 1 5)))
 (
  cond (lk N ((z2p.g a.2.1 a.1 8)))
  (
   cond (lk N (decide ((a.2.2.length:Int)=(w64 (a.1*a.2.1)))))
   (
    kr (!(lk N ((z17.g a.2.2 ())))))
   (
    kr false))
  (
   kr false))
 (
  kr false)
def Spec:Prop:=∀ (v0:MT),Ty.bd (.pair (.int .i64) (.pair (.int .i64) (.sl 0 (.int .i64)))) v0->∃N0,∀N,N0<=N->Z0 N v0 (λv2=>some ((),(v2,())))=some ((),((g v0),()))
def ok:Spec:=λm hb=>⟨0,λN hN=>by
 simp only[Z0,g,z1t,z2p.g,z0t,z3i,z17.g,List.not_any_eq_all_not,entK]
 cases h1:inK m.1 1 5
 ·rfl
 cases h2:inK m.2.1 m.1 8
 ·rfl
 have e1:=z2b.1 h1
 have e2:=z2b.1 h2
 have e3:0<=m.1*m.2.1:=Int.mul_nonneg (by omega) (by omega)
 have e4:m.1*m.2.1<=5*8:=Int.mul_le_mul (by omega) (by omega) (by omega) (by omega)
 rw[z1c (by omega) (by omega)]
 cases h3:decide ((m.2.2.length:Int)=m.1*m.2.1)
 ·rfl
 simp[z2a.g]⟩
end z3x
end
end Go.Fw
namespace Go.Fw
section
variable {ρ : Type}
namespace z1k
def P(m:Int×Int×List Int)(i j:Int):Bool:=atP m i j
def g(m:Int×Int×List Int)(i j:Int):Int:=atK m i j
end z1k
namespace z1k
def Z0{ρ:Type}(N:Nat)(a:MT)(b c:Int)(kr:Int->Option ρ):Option ρ :=
 cond (lk N (inB (w64 ((w64 (b*a.1))+c)) a.2.2.length)) (
  kr (a.2.2.getD (w64 ((w64 (b*a.1))+c)).toNat 0)) none
def Spec:Prop:=∀ (v0:MT) (v1 v2:Int),Ty.bd (.pair (.int .i64) (.pair (.int .i64) (.sl 0 (.int .i64)))) v0->P v0 v1 v2=true->∃N0,∀N,N0<=N->Z0 N v0 v1 v2 (λv6=>some ((),(v6,())))=some ((),((g v0 v1 v2),()))
def ok:Spec:=λm i j hb hp=>⟨0,λN hN=>by
 obtain⟨h1,h2,h3⟩:=zo6 hb.2.2.1 hp
 simp only[Z0,g,atK,h1]
 rw[ct (ze5 h2 h3)]⟩
end z1k
end
end Go.Fw
namespace Go.Fw
section
variable {ρ : Type}
namespace z2f
def P(a b:Int):Bool:=decide (0<=a)&&(decide (a<9223372036854775808)&&(decide (0<=b)&&decide (b<9223372036854775808)))
def g(a b:Int):Int:=(Int.gcd a b:Int)
end z2f
namespace z2f
def Z1{ρ:Type}(N:Nat)(a b:Int)(kn:I2 (Option ρ)):Option ρ :=
 kn a b
def Z5{ρ:Type}(N:Nat)(b a:Int)(kn:I2 (Option ρ))(k0:Int->Option ρ):Option ρ :=
 cond (lk N (!(decide (a=0))))
 (
  cond (lk N (!(decide (a=0)))) (
   kn a (Int.tmod b a)) none)
 (
  k0 b)
def Z4L{ρ:Type}(N:Nat)(k0:Int->Option ρ):Nat->Int->Int->Option ρ
 | 0,_,_=>none
 | M+1,a,b=>Z5 N a b (λa b=>Z4L N k0 M a b) k0
def Z4 N a b k0:=(Z4L N k0 N a b:Option ρ)
def Z3 N a b kn:=(Z4 N a b kn:Option ρ)
def Z6{ρ:Type}(N:Nat)(a:Int)(kr:Int->Option ρ):Option ρ :=
 kr (mx a (w64 (0-a)))
def Z2 N a b kr:=(Z3 N a b (λa=>Z6 N a kr):Option ρ)
def Z0 N a b kr:=(Z1 N a b (λa b=>Z2 N a b kr):Option ρ)
def Spec:Prop:=∀ (v0 v1:Int),P v0 v1=true->∃N0,∀N,N0<=N->Z0 N v0 v1 (λv4=>some ((),(v4,())))=some ((),((g v0 v1),()))
def loop{ρ:Type}(N:Nat)(k0:Int->Option ρ):∀(M:Nat) (a b:Nat),b<M->Z4L N k0 M (a:Int) (b:Int)=k0 (Nat.gcd b a:Nat):=by
 intro M
 induction M with
 | zero=>intro a b h;omega
 | succ M ih =>
  intro a b hM
  simp only[Z4L,Z5]
  by_cases h:b=0
  ·subst h
   rw[cf (by simp),Nat.gcd_zero_left]
  ·rw[ct (nt (by omega)),ct (nt (by omega)),show Int.tmod (a:Int) (b:Int)=((a%b:Nat):Int)from rfl,ih _ _ (by have:=Nat.mod_lt a (Nat.pos_of_ne_zero h);omega),<-Nat.gcd_rec]
def ok:Spec:=λa b hp=>⟨b.toNat+1,λN hN=>by
 simp only[P,Bool.and_eq_true,decide_eq_true_eq]at hp
 obtain⟨h1,h2,h3,h4⟩:=hp
 obtain⟨x,rfl⟩:=Int.eq_ofNat_of_zero_le h1
 obtain⟨y,rfl⟩:=Int.eq_ofNat_of_zero_le h3
 simp only[Z1,Z5,Z4,Z3,Z6,Z2,Z0,g]
 rw[loop N _ N x y (by omega),Nat.gcd_comm]
 have hl:Nat.gcd x y<=max x y:=by
  rcases Nat.eq_zero_or_pos x with h | h
  ·subst h;rw[Nat.gcd_zero_left];omega
  ·have:=Nat.gcd_le_left y h;omega
 show some ((),(mx ((Nat.gcd x y:Nat):Int) (w64 (0-((Nat.gcd x y:Nat):Int))),()))=some ((),(((Nat.gcd x y:Nat):Int),()))
 rw[z1c (by omega) (by omega),mx_eq]
 congr 3
 omega⟩
end z2f
end
end Go.Fw
namespace Go.Fw
section
variable {ρ : Type}
namespace z03
def P(m:Int×Int×List Int):Bool:=z0t m
abbrev g(m:Int×Int×List Int):List Int:=z3u m
end z03
namespace z03
def Z1{ρ:Type}(N:Nat)(a:MT)(kn:I2 (LI->Option ρ)):Option ρ :=
 kn a.1 a.2.1 a.2.2
def Z3{ρ:Type}(N:Nat)(a b:Int)(c:LI)(kn:LI->LI->I2 (LI->Option ρ)):Option ρ :=
 bo (
  cond (lk N (leB 0 a&&decide (a<1099511627776))) (
   cond (lk N (leB 0 a&&decide (a<1099511627776))) (
    kn (List.replicate a.toNat (0:Int)) (List.replicate a.toNat (0:Int)) a b c) none) none)
def Z5{ρ:Type}(N:Nat)(b c:LI)(a d:Int)(e:LI)(kn:LI->LI->LI->I2 (LI->Option ρ)):Option ρ :=
 cond (lk N (leB 0 a&&decide (a<1099511627776))) (
  kn b c (List.replicate a.toNat (0:Int)) a d e) none
def Z8{ρ:Type}(N:Nat)(a b c:LI)(d e:Int)(f:LI)(kn:LI->LI->LI->I4 (LI->Option ρ)):Option ρ :=
 kn a b c (a.length:Int) 0 d e f
def Z12{ρ:Type}(N:Nat)(c d e:LI)(a b f g:Int)(h:LI)(kn:LI->LI->LI->I2 (Bool->I2 (LI->Option ρ))):Option ρ :=
 kn c d e a b (lk N (decide (b<a))) f g h
def Z14{ρ:Type}(N:Nat)(b c a:LI)(d e:Int)(f:Bool)(g h:Int)(i:LI)(kn:LI->LI->LI->I4 (LI->Option ρ))(k0:LI->Option ρ):Option ρ :=
 cond (f)
 (
  kn b c a d e g h i)
 (
  k0 a)
def Z18{ρ:Type}(N:Nat)(b c d:LI)(e a f g:Int)(h:LI)(kn:LI->LI->LI->I5 (LI->Option ρ)):Option ρ :=
 kn b c d a e a f g h
def Z20{ρ:Type}(N:Nat)(a c d:LI)(b e f g h:Int)(i:LI)(kn:LI->LI->LI->I5 (LI->Option ρ))(k1:LI->LI->LI->I4 (LI->Option ρ)):Option ρ :=
 cond (lk N (inB b a.length)) (
  cond (lk N (!(decide ((a.getD b.toNat 0)=0))))
  (
   k1 a c d e f g h i)
  (
   kn a c d b e f g h i)) none
def Z22{ρ:Type}(N:Nat)(b c d:LI)(a e f g h:Int)(i:LI)(kn:LI->LI->LI->I5 (LI->Option ρ)):Option ρ :=
 cond (lk N (inB a b.length)) (
  cond (lk N (inB a c.length)) (
   kn (b.set a.toNat 1) (c.set a.toNat 1) d a e f g h i) none) none
def Z24{ρ:Type}(N:Nat)(a b c:LI)(d e f g h:Int)(i:LI)(kn:LI->LI->LI->LI->I4 (LI->Option ρ)):Option ρ :=
 kn a b c ([d]:List Int) e f g h i
def Z27{ρ:Type}(N:Nat)(a b c d:LI)(e f g h:Int)(i:LI)(kn:LI->LI->LI->LI->I5 (LI->Option ρ)):Option ρ :=
 kn a b c d 0 e f g h i
def Z31{ρ:Type}(N:Nat)(b c d a:LI)(e f g h i:Int)(j:LI)(kn:LI->LI->LI->LI->I5 (LI->Option ρ))(k2:LI->LI->LI->LI->I4 (LI->Option ρ)):Option ρ :=
 cond (lk N (decide (e<(a.length:Int))))
 (
  kn b c d a e f g h i j)
 (
  k2 b c d a f g h i j)
def Z35{ρ:Type}(N:Nat)(c d e a:LI)(b f g h i:Int)(j:LI)(kn:LI->LI->LI->LI->I6 (LI->Option ρ)):Option ρ :=
 cond (lk N (inB b a.length)) (
  kn c d e a b (a.getD b.toNat 0) f g h i j) none
def Z37{ρ:Type}(N:Nat)(a b c d:LI)(e f g h i j:Int)(l:LI)(kn:LI->LI->LI->LI->I8 (LI->Option ρ)):Option ρ :=
 kn a b c d e f g h (a.length:Int) 0 i j l
def Z41{ρ:Type}(N:Nat)(c d e f:LI)(g h i j a b l m:Int)(o:LI)(kn:LI->LI->LI->LI->I6 (Bool->I2 (LI->Option ρ))):Option ρ :=
 kn c d e f g h i j a b (lk N (decide (b<a))) l m o
def Z43{ρ:Type}(N:Nat)(a b c d:LI)(e l f g m o:Int)(p:Bool)(h i:Int)(j:LI)(kn:LI->LI->LI->LI->I8 (LI->Option ρ))(k4:LI->LI->LI->LI->I5 (LI->Option ρ)):Option ρ :=
 cond (p)
 (
  kn a b c d e l f g m o h i j)
 (
  k4 a b c d e f g h i j)
def Z47{ρ:Type}(N:Nat)(b c d e:LI)(f g h i j a l m:Int)(o:LI)(kn:LI->LI->LI->LI->Int->I8 (LI->Option ρ)):Option ρ :=
 kn b c d e f g a h i j a l m o
def Z49{ρ:Type}(N:Nat)(f h i j:LI)(l a b m o p q c d:Int)(e:LI)(kn:LI->LI->LI->LI->I3 (I8 (LI->Option ρ))):Option ρ :=
 cond (lk N (z1k.P (c,(d,e)) a b)) (
  cond (lk N (z1k.P (c,(d,e)) b a)) (
   kn f h i j l a b (z1k.g (c,(d,e)) a b) (w64 (0-(z1k.g (c,(d,e)) b a))) m o p q c d e) none) none
def Z51{ρ:Type}(N:Nat)(a b c d:LI)(e f r g h i j l m o p:Int)(q:LI)(kn:LI->LI->LI->LI->I3 (I8 (LI->Option ρ)))(k5:LI->LI->LI->LI->I8 (LI->Option ρ)):Option ρ :=
 cond (lk N (decide (g=0)))
 (
  cond (lk N (decide (h=0)))
  (
   k5 a b c d e f i j l m o p q)
  (
   kn a b c d e f r g h i j l m o p q))
 (
  kn a b c d e f r g h i j l m o p q)
def Z52{ρ:Type}(N:Nat)(b c i h:LI)(j d a e f l m o p q r:Int)(s:LI)(kn:LI->LI->LI->LI->I8 (LI->Option ρ))(kr:LI->Option ρ):Option ρ :=
 let x1_:=(w64 ((b.getD d.toNat 0)*(mx e (w64 (0-e)))))
 let x2_:=(w64 ((c.getD d.toNat 0)*(mx f (w64 (0-f)))))
 let x0_:=(z2f.g x1_ x2_)
 cond (lk N (decide (e=0)))
 (
 kr ([]:List Int))
 (
 cond (lk N (decide (f=0)))
 (
 kr ([]:List Int))
 (
 cond (lk N (!(((lk N (decide (0<e))) == (lk N (decide (0<f)))))))
 (
 kr ([]:List Int))
 (
 cond (lk N (decide (d=a)))
 (
 kr ([]:List Int))
 (
 cond (lk N (inB d b.length)) (
 cond (lk N (inB d c.length)) (
 cond (lk N (z2f.P x1_ x2_)) (
 cond (lk N (!(decide (x0_=0)))) (
 cond (lk N (!(decide (x0_=0)))) (
 cond (lk N (inB a b.length)) (
 cond (lk N (decide ((b.getD a.toNat 0)=0)))
 (
 cond (lk N (inB a b.length)) (
 cond (lk N (inB a c.length)) (
 cond (lk N (Nat.blt (h.length+([a]:List Int).length) 1099511627776)) (
 kn (b.set a.toNat (w64 (Int.tdiv x1_ x0_))) (c.set a.toNat (w64 (Int.tdiv x2_ x0_))) i (h++([a]:List Int)) j d l m o p q r s) none) none) none)
 (
 cond (lk N (inB a b.length)) (
 cond (lk N (!(decide ((b.getD a.toNat 0)=(w64 (Int.tdiv x1_ x0_))))))
 (
 kr ([]:List Int))
 (
 cond (lk N (inB a c.length)) (
 cond (lk N (!(decide ((c.getD a.toNat 0)=(w64 (Int.tdiv x2_ x0_))))))
 (
 kr ([]:List Int))
 (
 kn b c i h j d l m o p q r s)) none)) none)) none) none) none) none) none) none))))
def Z50 N a b c d e f g h i j l m o p q r kn k5 kr:=(Z51 N a b c d e f g h i j l m o p q r (λa b c d e f g h i j l m o p q r=>Z52 N a b c d e f g h i j l m o p q r kn kr) k5:Option ρ)
def Z48 N a b c d e f g h i j l m o p kn k5 kr:=(Z49 N a b c d e f g h i j l m o p (λa b c d e f g q r h i j l m o p=>Z50 N a b c d e f g q r h i j l m o p kn k5 kr):Option ρ)
def Z46 N a b c d e f g h i j l m o kn k5 kr:=(Z47 N a b c d e f g h i j l m o (λa b c d e f p g h i j l m o=>Z48 N a b c d e f p g h i j l m o kn k5 kr):Option ρ)
def Z45 N a b c d e f g h i j l m o kn kr:=(Z46 N a b c d e f g h i j l m o kn kn kr:Option ρ)
def Z53{ρ:Type}(N:Nat)(a b c d:LI)(e f g h i j l m:Int)(o:LI)(kn:LI->LI->LI->LI->I8 (LI->Option ρ)):Option ρ :=
 kn a b c d e f g h i (w64 (j+1)) l m o
def Z44 N a b c d e f g h i j l m o kn kr:=(Z45 N a b c d e f g h i j l m o (λa b c d e f g h i j l m o=>Z53 N a b c d e f g h i j l m o kn) kr:Option ρ)
def Z42 N a b c d e f g h i j p l m o kn k4 kr:=(Z43 N a b c d e f g h i j p l m o (λa b c d e f g h i j l m o=>Z44 N a b c d e f g h i j l m o kn kr) k4:Option ρ)
def Z40 N a b c d e f g h i j l m o kn k4 kr:=(Z41 N a b c d e f g h i j l m o (λa b c d e f g h i j p l m o=>Z42 N a b c d e f g h i j p l m o kn k4 kr):Option ρ)
def Z39L{ρ:Type}(N:Nat)(k4:LI->LI->LI->LI->I5 (LI->Option ρ))(kr:LI->Option ρ):Nat->LI->LI->LI->LI->Int->Int->Int->Int->Int->Int->Int->Int->LI->Option ρ
 | 0,_,_,_,_,_,_,_,_,_,_,_,_,_=>none
 | M+1,a,b,c,d,e,f,g,h,i,j,l,m,o=>Z40 N a b c d e f g h i j l m o (λa b c d e f g h i j l m o=>Z39L N k4 kr M a b c d e f g h i j l m o) k4 kr
def Z39 N a b c d e f g h i j l m o k4 kr:=(Z39L N k4 kr N a b c d e f g h i j l m o:Option ρ)
def Z38 N a b c d e f g h i j l m o kn kr:=(Z39 N a b c d e f g h i j l m o kn kr:Option ρ)
def Z36 N a b c d e f g h i j l kn kr:=(Z37 N a b c d e f g h i j l (λa b c d e f g h m o i j l=>Z38 N a b c d e f g h m o i j l kn kr):Option ρ)
def Z34 N a b c d e f g h i j kn kr:=(Z35 N a b c d e f g h i j (λa b c d e l f g h i j=>Z36 N a b c d e l f g h i j kn kr):Option ρ)
def Z33 N a b c d e f g h i j kn kr:=(Z34 N a b c d e f g h i j kn kr:Option ρ)
def Z54{ρ:Type}(N:Nat)(a b c d:LI)(e f g h i:Int)(j:LI)(kn:LI->LI->LI->LI->I5 (LI->Option ρ)):Option ρ :=
 kn a b c d (w64 (e+1)) f g h i j
def Z32 N a b c d e f g h i j kn kr:=(Z33 N a b c d e f g h i j (λa b c d e f g h i j=>Z54 N a b c d e f g h i j kn) kr:Option ρ)
def Z30 N a b c d e f g h i j kn k2 kr:=(Z31 N a b c d e f g h i j (λa b c d e f g h i j=>Z32 N a b c d e f g h i j kn kr) k2:Option ρ)
def Z29L{ρ:Type}(N:Nat)(k2:LI->LI->LI->LI->I4 (LI->Option ρ))(kr:LI->Option ρ):Nat->LI->LI->LI->LI->Int->Int->Int->Int->Int->LI->Option ρ
 | 0,_,_,_,_,_,_,_,_,_,_=>none
 | M+1,a,b,c,d,e,f,g,h,i,j=>Z30 N a b c d e f g h i j (λa b c d e f g h i j=>Z29L N k2 kr M a b c d e f g h i j) k2 kr
def Z29 N a b c d e f g h i j k2 kr:=(Z29L N k2 kr N a b c d e f g h i j:Option ρ)
def Z28 N a b c d e f g h i j kn kr:=(Z29 N a b c d e f g h i j kn kr:Option ρ)
def Z26 N a b c d e f g h i kn kr:=(Z27 N a b c d e f g h i (λa b c d j e f g h i=>Z28 N a b c d j e f g h i kn kr):Option ρ)
def Z56{ρ:Type}(N:Nat)(a b c d:LI)(e f g h:Int)(i:LI)(kn:LI->LI->LI->LI->I5 (LI->Option ρ)):Option ρ :=
 kn a b c d 1 e f g h i
def Z59{ρ:Type}(N:Nat)(b c d a:LI)(e f g h i:Int)(j:LI)(kn:LI->LI->LI->LI->I7 (LI->Option ρ)):Option ρ :=
 kn b c d a e f g (a.length:Int) 0 h i j
def Z62{ρ:Type}(N:Nat)(e c f a:LI)(d h i j b l m:Int)(o:LI)(kn:LI->LI->LI->LI->I7 (LI->Option ρ))(k6:LI->LI->LI->LI->I5 (LI->Option ρ)):Option ρ :=
 cond (lk N (decide (b<j)))
 (
  cond (lk N (inB b a.length)) (
   cond (lk N (inB (a.getD b.toNat 0) c.length)) (
    cond (lk N (inB (a.getD b.toNat 0) c.length)) (
     cond (lk N (z2f.P d (c.getD (a.getD b.toNat 0).toNat 0))) (
      cond (lk N (!(decide ((z2f.g d (c.getD (a.getD b.toNat 0).toNat 0))=0)))) (
       kn e c f a (w64 ((w64 (Int.tdiv d (z2f.g d (c.getD (a.getD b.toNat 0).toNat 0))))*(c.getD (a.getD b.toNat 0).toNat 0))) h i j (w64 (b+1)) l m o) none) none) none) none) none)
 (
  k6 e c f a d h i l m o)
def Z61L{ρ:Type}(N:Nat)(k6:LI->LI->LI->LI->I5 (LI->Option ρ)):Nat->LI->LI->LI->LI->Int->Int->Int->Int->Int->Int->Int->LI->Option ρ
 | 0,_,_,_,_,_,_,_,_,_,_,_,_=>none
 | M+1,a,b,c,d,e,f,g,h,i,j,l,m=>Z62 N a b c d e f g h i j l m (λa b c d e f g h i j l m=>Z61L N k6 M a b c d e f g h i j l m) k6
def Z61 N a b c d e f g h i j l m k6:=(Z61L N k6 N a b c d e f g h i j l m:Option ρ)
def Z60 N a b c d e f g h i j l m kn:=(Z61 N a b c d e f g h i j l m kn:Option ρ)
def Z58 N a b c d e f g h i j kn:=(Z59 N a b c d e f g h i j (λa b c d e f g l m h i j=>Z60 N a b c d e f g l m h i j kn):Option ρ)
def Z64{ρ:Type}(N:Nat)(a b c d:LI)(e f g h i:Int)(j:LI)(kn:LI->LI->LI->LI->I6 (LI->Option ρ)):Option ρ :=
 kn a b c d e 0 f g h i j
def Z67{ρ:Type}(N:Nat)(b c d a:LI)(e f g h i j:Int)(l:LI)(kn:LI->LI->LI->LI->I8 (LI->Option ρ)):Option ρ :=
 kn b c d a e f g h (a.length:Int) 0 i j l
def Z70{ρ:Type}(N:Nat)(d c e a:LI)(f h i j l b m o:Int)(p:LI)(kn:LI->LI->LI->LI->I8 (LI->Option ρ))(k8:LI->LI->LI->LI->I5 (LI->Option ρ)):Option ρ :=
 cond (lk N (decide (b<l)))
 (
  cond (lk N (inB b a.length)) (
   cond (lk N (inB (a.getD b.toNat 0) c.length)) (
    cond (lk N (!(decide ((c.getD (a.getD b.toNat 0).toNat 0)=0)))) (
     cond (lk N (inB (a.getD b.toNat 0) d.length)) (
      cond (lk N (inB (a.getD b.toNat 0) e.length)) (
       cond (lk N (inB (a.getD b.toNat 0) (e.set (a.getD b.toNat 0).toNat (w64 ((w64 (Int.tdiv f (c.getD (a.getD b.toNat 0).toNat 0)))*(d.getD (a.getD b.toNat 0).toNat 0)))).length)) (
        cond (lk N (z2f.P h ((e.set (a.getD b.toNat 0).toNat (w64 ((w64 (Int.tdiv f (c.getD (a.getD b.toNat 0).toNat 0)))*(d.getD (a.getD b.toNat 0).toNat 0)))).getD (a.getD b.toNat 0).toNat 0))) (
         kn d c (e.set (a.getD b.toNat 0).toNat (w64 ((w64 (Int.tdiv f (c.getD (a.getD b.toNat 0).toNat 0)))*(d.getD (a.getD b.toNat 0).toNat 0)))) a f (z2f.g h ((e.set (a.getD b.toNat 0).toNat (w64 ((w64 (Int.tdiv f (c.getD (a.getD b.toNat 0).toNat 0)))*(d.getD (a.getD b.toNat 0).toNat 0)))).getD (a.getD b.toNat 0).toNat 0)) i j l (w64 (b+1)) m o p) none) none) none) none) none) none) none)
 (
  k8 d c e a h i j m o p)
def Z69L{ρ:Type}(N:Nat)(k8:LI->LI->LI->LI->I5 (LI->Option ρ)):Nat->LI->LI->LI->LI->Int->Int->Int->Int->Int->Int->Int->Int->LI->Option ρ
 | 0,_,_,_,_,_,_,_,_,_,_,_,_,_=>none
 | M+1,a,b,c,d,e,f,g,h,i,j,l,m,o=>Z70 N a b c d e f g h i j l m o (λa b c d e f g h i j l m o=>Z69L N k8 M a b c d e f g h i j l m o) k8
def Z69 N a b c d e f g h i j l m o k8:=(Z69L N k8 N a b c d e f g h i j l m o:Option ρ)
def Z68 N a b c d e f g h i j l m o kn:=(Z69 N a b c d e f g h i j l m o kn:Option ρ)
def Z66 N a b c d e f g h i j l kn:=(Z67 N a b c d e f g h i j l (λa b c d e f g h m o i j l=>Z68 N a b c d e f g h m o i j l kn):Option ρ)
def Z72{ρ:Type}(N:Nat)(b c d a:LI)(e f g h i:Int)(j:LI)(kn:LI->LI->LI->LI->I7 (LI->Option ρ)):Option ρ :=
 kn b c d a e f g (a.length:Int) 0 h i j
def Z75{ρ:Type}(N:Nat)(e f c b:LI)(d g h i a j l:Int)(m:LI)(kn:LI->LI->LI->LI->I7 (LI->Option ρ))(k10:LI->LI->LI->I4 (LI->Option ρ)):Option ρ :=
 cond (lk N (decide (a<i)))
 (
  cond (lk N (inB a b.length)) (
   cond (lk N (inB (b.getD a.toNat 0) c.length)) (
    cond (lk N (!(decide (d=0)))) (
     cond (lk N (inB (b.getD a.toNat 0) c.length)) (
      kn e f (c.set (b.getD a.toNat 0).toNat (w64 (Int.tdiv (c.getD (b.getD a.toNat 0).toNat 0) d))) b d g h i (w64 (a+1)) j l m) none) none) none) none)
 (
  k10 e f c g h j l m)
def Z74L{ρ:Type}(N:Nat)(k10:LI->LI->LI->I4 (LI->Option ρ)):Nat->LI->LI->LI->LI->Int->Int->Int->Int->Int->Int->Int->LI->Option ρ
 | 0,_,_,_,_,_,_,_,_,_,_,_,_=>none
 | M+1,a,b,c,d,e,f,g,h,i,j,l,m=>Z75 N a b c d e f g h i j l m (λa b c d e f g h i j l m=>Z74L N k10 M a b c d e f g h i j l m) k10
def Z74 N a b c d e f g h i j l m k10:=(Z74L N k10 N a b c d e f g h i j l m:Option ρ)
def Z73 N a b c d e f g h i j l m kn:=(Z74 N a b c d e f g h i j l m kn:Option ρ)
def Z71 N a b c j d e f g h i kn:=(Z72 N a b c j d e f g h i (λa b c l d e f m o g h i=>Z73 N a b c l d e f m o g h i kn):Option ρ)
def Z65 N a b c d l e f g h i j kn:=(Z66 N a b c d l e f g h i j (λa b c d e f g h i j=>Z71 N a b c d e f g h i j kn):Option ρ)
def Z63 N a b c d e f g h i j kn:=(Z64 N a b c d e f g h i j (λa b c d e l f g h i j=>Z65 N a b c d e l f g h i j kn):Option ρ)
def Z57 N a b c d e f g h i j kn:=(Z58 N a b c d e f g h i j (λa b c d e f g h i j=>Z63 N a b c d e f g h i j kn):Option ρ)
def Z55 N a b c d e f g h i kn:=(Z56 N a b c d e f g h i (λa b c d j e f g h i=>Z57 N a b c d j e f g h i kn):Option ρ)
def Z25 N a b c d e f g h i kn kr:=(Z26 N a b c d e f g h i (λa b c d e f g h i=>Z55 N a b c d e f g h i kn) kr:Option ρ)
def Z23 N a b c i d e f g h kn kr:=(Z24 N a b c i d e f g h (λa b c j d e f g h=>Z25 N a b c j d e f g h kn kr):Option ρ)
def Z21 N a b c d e f g h i kn kr:=(Z22 N a b c d e f g h i (λa b c d e f g h i=>Z23 N a b c d e f g h i kn kr):Option ρ)
def Z19 N a b c d e f g h i kn k1 kr:=(Z20 N a b c d e f g h i (λa b c d e f g h i=>Z21 N a b c d e f g h i kn kr) k1:Option ρ)
def Z17 N a b c d e f g h kn k1 kr:=(Z18 N a b c d e f g h (λa b c i d e f g h=>Z19 N a b c i d e f g h kn k1 kr):Option ρ)
def Z16 N a b c d e f g h kn kr:=(Z17 N a b c d e f g h kn kn kr:Option ρ)
def Z76{ρ:Type}(N:Nat)(a b c:LI)(d e f g:Int)(h:LI)(kn:LI->LI->LI->I4 (LI->Option ρ)):Option ρ :=
 kn a b c d (w64 (e+1)) f g h
def Z15 N a b c d e f g h kn kr:=(Z16 N a b c d e f g h (λa b c d e f g h=>Z76 N a b c d e f g h kn) kr:Option ρ)
def Z13 N a b c d e i f g h kn k0 kr:=(Z14 N a b c d e i f g h (λa b c d e f g h=>Z15 N a b c d e f g h kn kr) k0:Option ρ)
def Z11 N a b c d e f g h kn k0 kr:=(Z12 N a b c d e f g h (λa b c d e i f g h=>Z13 N a b c d e i f g h kn k0 kr):Option ρ)
def Z10L{ρ:Type}(N:Nat)(k0 kr:LI->Option ρ):Nat->LI->LI->LI->Int->Int->Int->Int->LI->Option ρ
 | 0,_,_,_,_,_,_,_,_=>none
 | M+1,a,b,c,d,e,f,g,h=>Z11 N a b c d e f g h (λa b c d e f g h=>Z10L N k0 kr M a b c d e f g h) k0 kr
def Z10 N a b c d e f g h k0 kr:=(Z10L N k0 kr N a b c d e f g h:Option ρ)
def Z9 N a b c d e f g h kn kr:=(Z10 N a b c d e f g h kn kr:Option ρ)
def Z7 N a b c d e f kn kr:=(Z8 N a b c d e f (λa b c g h d e f=>Z9 N a b c g h d e f kn kr):Option ρ)
def Z77{ρ:Type}(N:Nat)(a:LI)(kr:LI->Option ρ):Option ρ :=
 cond (Nat.blt 0 a.length) (
  kr a) none
def Z6 N b c a d e f kr:=(Z7 N b c a d e f (λa=>Z77 N a kr) kr:Option ρ)
def Z4 N a b c d e kr:=(Z5 N a b c d e (λa b f c d e=>Z6 N a b f c d e kr):Option ρ)
def Z2 N a b c kr:=(Z3 N a b c (λd e a b c=>Z4 N d e a b c kr):Option ρ)
def Z0 N a kr:=(Z1 N a (λb c d=>Z2 N b c d kr):Option ρ)
def Spec:Prop:=∀ (v0:MT),Ty.bd (.pair (.int .i64) (.pair (.int .i64) (.sl 0 (.int .i64)))) v0->P v0=true->∃N0,∀N,N0<=N->Z0 N v0 (λv2=>some ((),(v2,())))=some ((),((g v0),()))
def mx_abs{a:Int}(h:-99<=a/\a<=99):mx a (w64 (0-a))=z62 a:=by
 rw[z1c (by omega) (by omega),mx_eq]
 unfold z62
 omega
def absK_neg(a:Int):z62 (-a)=z62 a:=by unfold z62;omega
def pow4{k:Nat}(h:k<=4):(99:Int) ^ k<=96059601:=by
 have h1:99 ^ k<=99 ^ 4:=Nat.pow_le_pow_right (by omega) h
 have h2:(99:Int) ^ k=((99 ^ k:Nat):Int):=by rw[Int.natCast_pow];rfl
 rw[h2]
 omega
def zrl{n:Nat}{A:Nat->Nat->Int}{x j:Nat}(hx:x<n)(hj:j<n)(h:¬ (A x j=0/\A j x=0))(h':A x j=0\/A j x=0):¬ ∃e,za8 n A e:=by
 rintro ⟨e,he⟩
 rcases h' with z | z
 ·exact h ⟨z,zaz he hx hj z⟩
 ·exact h ⟨zaz he hj hx z,z⟩
section
variable {ρ : Type} {N : Nat} {m : Int × Int × List Int} {s p x j : Nat} {num0 num den out : List Int} {L : List Nat}
def core(hm:z0t m=true)(hn:m.1.toNat<=5)(hcl:zoh m.1.toNat (ent m) num0)(hf:zia m.1.toNat (ent m) s num0 L num den)(hp:p<L.length)(hx:L.getD p 0=x)(hj:j<m.1.toNat)(h0:¬ (ent m x j=0/\ent m j x=0))
  (kn:List Int->List Int->List Int->List Int->Int->Int->Int->Int->Int->Int->Int->Int->List Int->Option ρ) (kr:List Int->Option ρ) (t34 t35 t62 t63:Int) :
  (Z52 N num den out (z39 L) (p:Int) (x:Int) (j:Int) (ent m x j) (-(ent m j x)) t34 t35 t62 t63 m.1 m.2.1 m.2.2 kn kr=kr []/\¬ ∃e,za8 m.1.toNat (ent m) e) \/
  (∃L' num' den',zia m.1.toNat (ent m) s num0 L' num' den'/\(∃u,L'=L++u)/\(∀y∈L,∀k,zl0 (ent m) L num den y k->zl0 (ent m) L' num' den' y k)/\zl0 (ent m) L' num' den' x j /\
   Z52 N num den out (z39 L) (p:Int) (x:Int) (j:Int) (ent m x j) (-(ent m j x)) t34 t35 t62 t63 m.1 m.2.1 m.2.2 kn kr=kn num' den' out (z39 L') (p:Int) (x:Int) t34 t35 t62 t63 m.1 m.2.1 m.2.2):=by
 have hxm:x∈L:=by rw[<-hx];exact z1l 0 hp
 have hxn:=hf.lt x hxm
 have hle:=hf.le
 simp only[Z52]
 by_cases z1:ent m x j=0
 ·rw[ct (dt z1)]
  exact Or.inl ⟨rfl,zrl hxn hj h0 (Or.inl z1)⟩
 rw[cf (df z1)]
 by_cases z2:ent m j x=0
 ·rw[ct (dt (by omega))]
  exact Or.inl ⟨rfl,zrl hxn hj h0 (Or.inr z2)⟩
 rw[cf (df (by omega))]
 by_cases sg:(0<ent m x j↔0 < -(ent m j x))
 ·have sgb:(!(((lk N (decide (0<ent m x j))) == (lk N (decide (0 < -(ent m j x)))))))=false:=by
   rw[z1t,z1t]
   by_cases h1:0<ent m x j
   ·rw[dt h1,dt (sg.1 h1)];rfl
   ·rw[df h1,df (λh=>h1 (sg.2 h))];rfl
  rw[cf sgb]
  have hne:¬ ((x:Int)=(j:Int)):=λe=>by
   have e':x=j:=by omega
   subst e'
   omega
  rw[cf (df hne)]
  obtain⟨Q,q1,q2,q3⟩:=hf.frac
  obtain⟨c1,c2,c3,c4,c5⟩:=q3 x hxm
  have st:=stepN (A:=ent m) (num:=num) (den:=den) x j c1 c3 z1 z2
  have sk:=skew_of z1 z2 sg
  have hb:=z3n hm
  have e1:=mx_abs (hb x j)
  have e2:mx (-(ent m j x)) (w64 (0 - -(ent m j x)))=z62 (ent m j x):=by
   rw[mx_abs (by have:=hb j x;omega),absK_neg]
  have pw:=pow4 (k:=L.length-1) (by omega)
  have hdQ:=Int.le_of_dvd q1 c4
  have a1:=zep (hb x j)
  have a2:=zep (hb j x)
  have a1':=z92 z1
  have a2':=z92 z2
  have b1:num.getD x 0*z62 (ent m x j)<=96059601*99:=Int.mul_le_mul (by omega) a1 (by omega) (by omega)
  have b2:den.getD x 0*z62 (ent m j x)<=96059601*99:=Int.mul_le_mul (by omega) a2 (by omega) (by omega)
  have hA:=st.a0p
  have hB:=st.b0p
  simp only[e1,e2,Int.toNat_natCast,z1c (show -9223372036854775808<=num.getD x 0*z62 (ent m x j) by omega) (by omega),z1c (show -9223372036854775808<=den.getD x 0*z62 (ent m j x) by omega) (by omega),z2f.g]
  generalize hA0:num.getD x 0*z62 (ent m x j)=A0 at *
  generalize hB0:den.getD x 0*z62 (ent m j x)=B0 at *
  generalize hG:(Int.gcd A0 B0:Int)=G at *
  generalize ha:Int.tdiv A0 G=a at *
  generalize hb':Int.tdiv B0 G=b at *
  have gp:=st.gp
  have ap:=st.ap
  have bp:=st.bp
  have al:a<=A0:=by
   have h1:=Int.mul_le_mul_of_nonneg_left (show(1:Int)<=G by omega) (Int.le_of_lt ap)
   have h2:=st.ea
   omega
  have bl:b<=B0:=by
   have h1:=Int.mul_le_mul_of_nonneg_left (show(1:Int)<=G by omega) (Int.le_of_lt bp)
   have h2:=st.eb
   omega
  have i1:inB (x:Int) num.length=true:=z1g (by rw[hf.nl];exact hxn)
  have i2:inB (x:Int) den.length=true:=z1g (by rw[hf.dl];exact hxn)
  have i3:inB (j:Int) num.length=true:=z1g (by rw[hf.nl];exact hj)
  have i4:inB (j:Int) den.length=true:=z1g (by rw[hf.dl];exact hj)
  have hP:z2f.P A0 B0=true:=by
   simp only[z2f.P,Bool.and_eq_true,decide_eq_true_eq]
   omega
  rw[ct i1,ct i2,ct hP,ct (nt (by omega)),ct (nt (by omega)),ct i3]
  simp only[z1c (show -9223372036854775808<=a by omega) (by omega),z1c (show -9223372036854775808<=b by omega) (by omega)]
  by_cases hz:num.getD j 0=0
  ·obtain⟨hg,hnj⟩:=hf.grow hp hj hz (by rw[hx];exact st) (λy k=>zep (hb y k))
   have hxj:∀y∈L,j≠y:=λy hy e=>hnj (e▸hy)
   have hnl:j<num.length:=by rw[hf.nl];exact hj
   have hdl:j<den.length:=by rw[hf.dl];exact hj
   rw[ct (dt hz),ct i3,ct i4,ct (show Nat.blt ((z39 L).length+([(j:Int)]).length) 1099511627776=true by simp[z27,Nat.blt_eq];omega),z9s]
   refine Or.inr ⟨L++[j],num.set j a,den.set j b,hg,⟨_,rfl⟩,λy hy k he=>he.grow hxj hnl hdl hy,Or.inr ⟨by simp, ?_⟩,rfl⟩
   have:=zil st sk
   rw[z28 hnl,if_neg (hxj x hxm),z28 hdl,if_pos rfl,z28 hnl,if_pos rfl,z28 hdl,if_neg (hxj x hxm)]
   exact this
  ·have hjm:j∈L:=Classical.byContradiction λhc=>by
    have h1:num0.getD j 0≠0:=by rw[<-hf.out j hj hc];exact hz
    exact hcl j hj h1 x hxn (Or.inr z1) (hf.new x hxm)
   obtain⟨d1,d2,d3,d4,d5⟩:=q3 j hjm
   have hgood:(∃e,za8 m.1.toNat (ent m) e)->num.getD j 0=a/\den.getD j 0=b:=by
    rintro ⟨e,he⟩
    have g1:=zik st hxn hj he (hf.good e he x hxm)
    have g2:=hf.good e he j hjm
    have p1:=(he j hj).1
    have p2:0<e s:=(he s (by rw[<-hf.hd];exact hf.lt _ (z1l 0 hf.pos))).1
    have g3:(e s*e j)*(num.getD j 0*b)=(e s*e j)*(a*den.getD j 0):=by grind
    have p3:=Int.mul_pos p2 p1
    exact frac_eq d1 d3 ap bp d5 st.co (Int.eq_of_mul_eq_mul_left (by omega) g3)
   rw[cf (df hz),ct i3]
   by_cases ea:num.getD j 0=a
   ·rw[cf (nf ea),ct i4]
    by_cases eb:den.getD j 0=b
    ·rw[cf (nf eb)]
     refine Or.inr ⟨L,num,den,hf,⟨[],by simp⟩,λ_ _ _ h=>h,Or.inr ⟨hjm, ?_⟩,rfl⟩
     rw[ea,eb]
     exact zil st sk
    ·rw[ct (nt eb)]
     exact Or.inl ⟨rfl,λh=>eb (hgood h).2⟩
   ·rw[ct (nt ea)]
    exact Or.inl ⟨rfl,λh=>ea (hgood h).1⟩
 ·have sgb:(!(((lk N (decide (0<ent m x j))) == (lk N (decide (0 < -(ent m j x)))))))=true:=by
   rw[z1t,z1t]
   by_cases h1:0<ent m x j
   ·rw[dt h1,df (λh2=>sg ⟨λ_=>h2,λ_=>h1⟩)];rfl
   ·rw[df h1,dt (Classical.byContradiction λh2=>sg ⟨λh=>absurd h h1,λh=>absurd h h2⟩)];rfl
  rw[ct sgb]
  refine Or.inl ⟨rfl, ?_⟩
  rintro ⟨e,he⟩
  have h1:=z8f he hxn hj
  rw[zcr,Bool.and_eq_true,beq_iff_eq,decide_eq_decide]at h1
  have:=h1.1
  omega
def at_g(hd:0<=m.1)(a b:Nat):z1k.g (m.1,(m.2.1,m.2.2)) (a:Int) (b:Int)=ent m a b:=za5 hd a b
def at_p(hd:z3i m=true){a b:Nat}(ha:a<m.1.toNat)(hb:b<m.1.toNat):z1k.P (m.1,(m.2.1,m.2.2)) (a:Int) (b:Int)=true:=by
 obtain⟨n,r,hn,hr,hn1,hn5,hnr,hr8,hl⟩:=z12 hd
 exact zmi hd (by omega) hb
def inner(hm:z0t m=true)(hcl:zoh m.1.toNat (ent m) num0)(k4:List Int->List Int->List Int->List Int->Int->Int->Int->Int->Int->List Int->Option ρ)(kr:List Int->Option ρ)(t34 t35:Int):∀(M j:Nat) (L:List Nat) (num den:List Int),zia m.1.toNat (ent m) s num0 L num den->p<L.length->L.getD p 0=x->j<=m.1.toNat->m.1.toNat-j<M ->
  (∀k',k'<p->∀k,k<m.1.toNat->zl0 (ent m) L num den (L.getD k' 0) k)->(∀k,k<j->zl0 (ent m) L num den x k) ->
  (Z39L N k4 kr M num den out (z39 L) (p:Int) (x:Int) t34 t35 (m.1.toNat:Int) (j:Int) m.1 m.2.1 m.2.2=kr []/\¬ ∃e,za8 m.1.toNat (ent m) e) \/
  (∃L' num' den',zia m.1.toNat (ent m) s num0 L' num' den'/\p<L'.length/\(∀k',k'<p+1->∀k,k<m.1.toNat->zl0 (ent m) L' num' den' (L'.getD k' 0) k) /\
   Z39L N k4 kr M num den out (z39 L) (p:Int) (x:Int) t34 t35 (m.1.toNat:Int) (j:Int) m.1 m.2.1 m.2.2=k4 num' den' out (z39 L') (p:Int) t34 t35 m.1 m.2.1 m.2.2):=by
 have hdim:=z1r hm
 obtain⟨n,r,hn,hr,hn1,hn5,hnr,hr8,hl⟩:=z12 hdim
 intro M
 induction M with
 | zero=>intro j _ _ _ _ _ _ _ h;omega
 | succ M ih =>
  intro j L num den hf hp hx hj hM hE1 hE2
  have hxm:x∈L:=by rw[<-hx];exact z1l 0 hp
  have hxn:=hf.lt x hxm
  simp only[Z39L,Z40,Z41,Z42,Z43]
  by_cases hlt:j<m.1.toNat
  ·rw[ct' (by rw[z1t];exact dt (by omega))]
   simp only[Z44,Z45,Z46,Z47,Z48,Z49]
   rw[ct (at_p hdim hxn hlt),ct (at_p hdim hlt hxn),at_g (by omega),at_g (by omega)]
   have hb:=z3n hm j x
   rw[show w64 (0-ent m j x)=-(ent m j x) by rw[z1c (by omega) (by omega)];omega]
   simp only[Z50,Z51]
   have next:∀(L':List Nat) (num' den':List Int),zia m.1.toNat (ent m) s num0 L' num' den'->(∃u,L'=L++u)->(∀y∈L,∀k,zl0 (ent m) L num den y k->zl0 (ent m) L' num' den' y k)->zl0 (ent m) L' num' den' x j ->
     (Z39L N k4 kr M num' den' out (z39 L') (p:Int) (x:Int) t34 t35 (m.1.toNat:Int) ((j+1:Nat):Int) m.1 m.2.1 m.2.2=kr []/\¬ ∃e,za8 m.1.toNat (ent m) e) \/
     (∃L'' num'' den'',zia m.1.toNat (ent m) s num0 L'' num'' den''/\p<L''.length/\(∀k',k'<p+1->∀k,k<m.1.toNat->zl0 (ent m) L'' num'' den'' (L''.getD k' 0) k) /\
      Z39L N k4 kr M num' den' out (z39 L') (p:Int) (x:Int) t34 t35 (m.1.toNat:Int) ((j+1:Nat):Int) m.1 m.2.1 m.2.2=k4 num'' den'' out (z39 L'') (p:Int) t34 t35 m.1 m.2.1 m.2.2):=by
    intro L' num' den' hf' hu hk he
    obtain⟨u,hu⟩:=hu
    have hget:∀k',k'<L.length->L'.getD k' 0=L.getD k' 0:=λk' hk'=>by rw[hu,z2t hk']
    refine ih (j+1) L' num' den' hf' (by rw[hu];simp;omega) (by rw[hget p hp];exact hx) hlt (by omega) (λk' hk' k hkn=>?_) (λk hk'=>?_)
    ·rw[hget k' (by omega)]
     exact hk _ (z1l 0 (by omega)) k (hE1 k' hk' k hkn)
    ·by_cases e:k=j
     ·subst e;exact he
     ·exact hk x hxm k (hE2 k (by omega))
   by_cases h0:ent m x j=0/\ent m j x=0
   ·rw[ct (dt h0.1),ct (dt (by omega))]
    simp only[Z53]
    rw[z1d (by rw[z0y];omega)]
    exact next L num den hf ⟨[],by simp⟩ (λ_ _ _ h=>h) (Or.inl h0)
   ·have hz:∀(X Y:Option ρ),(cond (lk N (decide (ent m x j=0))) (cond (lk N (decide (-(ent m j x)=0))) X Y) Y)=Y:=by
     intro X Y
     by_cases z1:ent m x j=0
     ·rw[ct (dt z1),cf (df (λz2=>h0 ⟨z1,by omega⟩))]
     ·rw[cf (df z1)]
    rw[hz]
    rcases core (N:=N) (out:=out) hm (by omega) hcl hf hp hx hlt h0 (λnum3 den4 out5 piece7 at8 i9 t34 t35 t62 t63 m1_0 m1_1 m1_2=>Z53 N num3 den4 out5 piece7 at8 i9 t34 t35 t62 t63 m1_0 m1_1 m1_2 (λnum3 den4 out5 piece7 at8 i9 t34 t35 t62 t63 m1_0 m1_1 m1_2=>Z39L N k4 kr M num3 den4 out5 piece7 at8 i9 t34 t35 t62 t63 m1_0 m1_1 m1_2)) kr t34 t35 (m.1.toNat:Int) (j:Int)with hc | ⟨L',num',den',h1,h2,h3,h4,h5⟩
    ·exact Or.inl hc
    ·rw[h5]
     simp only[Z53]
     rw[z1d (by rw[z0y];omega)]
     exact next L' num' den' h1 h2 h3 h4
  ·rw[cf' (by rw[z1t];exact df (by omega))]
   refine Or.inr ⟨L,num,den,hf,hp,λk' hk' k hk=>?_,rfl⟩
   by_cases e:k'=p
   ·subst e;rw[hx];exact hE2 k (by omega)
   ·exact hE1 k' (by omega) k hk
def middle(hN:10<=N)(hm:z0t m=true)(hcl:zoh m.1.toNat (ent m) num0)(k2:List Int->List Int->List Int->List Int->Int->Int->Int->Int->List Int->Option ρ)(kr:List Int->Option ρ)(t34 t35:Int):∀(M p:Nat) (L:List Nat) (num den:List Int),zia m.1.toNat (ent m) s num0 L num den->p<=L.length->m.1.toNat-p<M ->
  (∀k',k'<p->∀k,k<m.1.toNat->zl0 (ent m) L num den (L.getD k' 0) k) ->
  (Z29L N k2 kr M num den out (z39 L) (p:Int) t34 t35 m.1 m.2.1 m.2.2=kr []/\¬ ∃e,za8 m.1.toNat (ent m) e) \/
  (∃L' num' den',zia m.1.toNat (ent m) s num0 L' num' den'/\(∀x∈L',∀k,k<m.1.toNat->zl0 (ent m) L' num' den' x k) /\
   Z29L N k2 kr M num den out (z39 L) (p:Int) t34 t35 m.1 m.2.1 m.2.2=k2 num' den' out (z39 L') t34 t35 m.1 m.2.1 m.2.2):=by
 have hdim:=z1r hm
 obtain⟨n,r,hn,hr,hn1,hn5,hnr,hr8,hl⟩:=z12 hdim
 intro M
 induction M with
 | zero=>intro p _ _ _ _ _ h;omega
 | succ M ih =>
  intro p L num den hf hp hM hE
  have hle:=hf.le
  simp only[Z29L,Z30,Z31]
  by_cases hlt:p<L.length
  ·rw[ct (dt (by rw[z27];omega))]
   simp only[Z32,Z33,Z34,Z35]
   rw[ct (z1g (by rw[z27];exact hlt))]
   simp only[Z36,Z37,Z38,Z39,Int.toNat_natCast,z40,hf.nl]
   have hin:=inner (ρ:=ρ) (N:=N) (out:=out) hm hcl (λnum3 den4 out5 piece7 at8 t34 t35 m1_0 m1_1 m1_2=>Z54 N num3 den4 out5 piece7 at8 t34 t35 m1_0 m1_1 m1_2 (λnum3 den4 out5 piece7 at8 t34 t35 m1_0 m1_1 m1_2=>Z29L N k2 kr M num3 den4 out5 piece7 at8 t34 t35 m1_0 m1_1 m1_2)) kr t34 t35 N 0 L num den hf hlt rfl (by omega) (by omega) hE (λk hk=>by omega)
   rw[show((0:Nat):Int)=0 from rfl]at hin
   rcases hin with hc | ⟨L',num',den',h1,h2,h3,h4⟩
   ·exact Or.inl hc
   ·rw[h4]
    simp only[Z54]
    rw[z1d (by rw[z0y];omega)]
    exact ih (p+1) L' num' den' h1 h2 (by omega) h3
  ·rw[cf (df (by rw[z27];omega))]
   refine Or.inr ⟨L,num,den,hf,λx hx k hk=>?_,rfl⟩
   obtain⟨k',hk',e⟩:=z7f hx
   rw[<-e]
   exact hE k' (by omega) k hk
def common(hf:zia m.1.toNat (ent m) s num0 L num den)(h5:m.1.toNat<=5){Q:Int}(q1:0<Q)(q2:Q<=96059601)(q3:∀x∈L,0<den.getD x 0/\den.getD x 0∣Q)(k6:List Int->List Int->List Int->List Int->Int->Int->Int->Int->Int->List Int->Option ρ)(t34 t35:Int):∀(M k:Nat) (c:Int),k<=L.length->L.length-k<M->0<c->c∣Q->(∀k',k'<k->den.getD (L.getD k' 0) 0∣c) ->
  ∃c',0<c'/\c'∣Q/\(∀x∈L,den.getD x 0∣c') /\
   Z61L N k6 M num den out (z39 L) c t34 t35 ((z39 L).length:Int) (k:Int) m.1 m.2.1 m.2.2=k6 num den out (z39 L) c' t34 t35 m.1 m.2.1 m.2.2:=by
 have hle:=hf.le
 intro M
 induction M with
 | zero=>intro k _ _ h;omega
 | succ M ih =>
  intro k c hk hM hc hcQ hd
  simp only[Z61L,Z62]
  by_cases hlt:k<L.length
  ·have hxm:L.getD k 0∈L:=z1l 0 hlt
   obtain⟨d1,d2⟩:=q3 _ hxm
   have i1:inB (k:Int) (z39 L).length=true:=z1g (by rw[z27];exact hlt)
   have i2:inB ((L.getD k 0:Nat):Int) den.length=true:=z1g (by rw[hf.dl];exact hf.lt _ hxm)
   obtain⟨g1,g2,g3,g4,g5,g6,g7⟩:=lcm_step hc d1 hcQ d2 q1
   have b1:=Int.le_of_dvd q1 hcQ
   have b2:=Int.le_of_dvd q1 d2
   have b3:=Int.le_of_dvd q1 g5
   rw[ct (dt (by rw[z27];omega)),ct i1]
   simp only[Int.toNat_natCast,z40]
   rw[ct i2,ct i2,ct (show z2f.P c (den.getD (L.getD k 0) 0)=true by
    simp only[z2f.P,Bool.and_eq_true,decide_eq_true_eq]
    omega)]
   have eg:z2f.g c (den.getD (L.getD k 0) 0)=(Int.gcd c (den.getD (L.getD k 0) 0):Int):=rfl
   rw[ct (nt (by rw[eg];omega)),eg,z1c (n:=Int.tdiv c _) (by omega) (by omega),z1c (by omega) (by omega),z1d (by rw[z0y];omega)]
   refine ih (k+1) _ hlt (by omega) g4 g5 (λk' hk'=>?_)
   by_cases e:k'=k
   ·subst e;exact g7
   ·exact Int.dvd_trans (hd k' (by omega)) g6
  ·rw[cf (df (by rw[z27];omega))]
   refine⟨c,hc,hcQ,λx hx=>?_,rfl⟩
   obtain⟨k',hk',e⟩:=z7f hx
   rw[<-e]
   exact hd k' (by omega)
structure O2(n:Nat)(L:List Nat)(num den out0:List Int)(c:Int)(k:Nat)(out:List Int)(g:Int):Prop where
 len:out.length=n
 old:∀x,x<n->(∀k',k'<k->x≠L.getD k' 0)->out.getD x 0=out0.getD x 0
 val:∀k',k'<k->out.getD (L.getD k' 0) 0*den.getD (L.getD k' 0) 0=c*num.getD (L.getD k' 0) 0/\0<out.getD (L.getD k' 0) 0/\out.getD (L.getD k' 0) 0<=9227446944279201
 gcd:g=((z7q ((List.range k).map λt=>out.getD (L.getD t 0) 0):Nat):Int)
def O2.g_range{n:Nat}{out0:List Int}{c g:Int}{k:Nat}(h:O2 n L num den out0 c k out g):0<=g/\g<=9227446944279201/\(0<k->0<g):=by
 have h0:0<=g:=by rw[h.gcd];omega
 by_cases e:k=0
 ·subst e
  have:=h.gcd
  simp[z7q]at this
  omega
 ·obtain⟨_,a1,a2⟩:=h.val 0 (by omega)
  have hd:g∣out.getD (L.getD 0 0) 0:=by
   rw[h.gcd]
   exact zda (List.mem_map.2 ⟨0,List.mem_range.2 (by omega),rfl⟩)
  have:=Int.le_of_dvd a1 hd
  refine⟨h0,by omega,λ_=>?_⟩
  rcases Int.lt_or_le 0 g with h' | h'
  ·exact h'
  ·have e:g=0:=by omega
   rw[e]at hd
   have:=Int.zero_dvd.1 hd
   omega
def outs(hf:zia m.1.toNat (ent m) s num0 L num den)(h5:m.1.toNat<=5){c:Int}(c1:0<c)(c2:c<=96059601)(q3:∀x∈L,0<num.getD x 0/\num.getD x 0<=96059601/\0<den.getD x 0/\den.getD x 0∣c)(out0:List Int)(k8:List Int->List Int->List Int->List Int->Int->Int->Int->Int->Int->List Int->Option ρ)(t34 t35:Int):∀(M k:Nat) (out:List Int) (g:Int),k<=L.length->L.length-k<M->O2 m.1.toNat L num den out0 c k out g ->
  ∃out' g',O2 m.1.toNat L num den out0 c L.length out' g' /\
   Z69L N k8 M num den out (z39 L) c g t34 t35 ((z39 L).length:Int) (k:Int) m.1 m.2.1 m.2.2=k8 num den out' (z39 L) g' t34 t35 m.1 m.2.1 m.2.2:=by
 have hle:=hf.le
 intro M
 induction M with
 | zero=>intro k _ _ _ h;omega
 | succ M ih =>
  intro k out g hk hM ho
  simp only[Z69L,Z70]
  by_cases hlt:k<L.length
  ·have hxm:L.getD k 0∈L:=z1l 0 hlt
   have hxn:=hf.lt _ hxm
   obtain⟨d1,d2,d3,d4⟩:=q3 _ hxm
   have i1:inB (k:Int) (z39 L).length=true:=z1g (by rw[z27];exact hlt)
   have i2:inB ((L.getD k 0:Nat):Int) den.length=true:=z1g (by rw[hf.dl];exact hxn)
   have i3:inB ((L.getD k 0:Nat):Int) num.length=true:=z1g (by rw[hf.nl];exact hxn)
   have i4:inB ((L.getD k 0:Nat):Int) out.length=true:=z1g (by rw[ho.len];exact hxn)
   have hxo:L.getD k 0<out.length:=by rw[ho.len];exact hxn
   have hg:=ho.g_range
   have t1:Int.tdiv c (den.getD (L.getD k 0) 0)*den.getD (L.getD k 0) 0=c:=Int.tdiv_mul_cancel d4
   have t2:0<Int.tdiv c (den.getD (L.getD k 0) 0)/\Int.tdiv c (den.getD (L.getD k 0) 0)<=c:=by
    generalize Int.tdiv c (den.getD (L.getD k 0) 0)=t at t1 ⊢
    have:0<t:=by
     rcases Int.lt_or_le 0 t with h' | h'
     ·exact h'
     ·have:=Int.mul_nonpos_of_nonpos_of_nonneg h' (Int.le_of_lt d3);omega
    have:=Int.mul_le_mul_of_nonneg_left (show(1:Int)<=den.getD (L.getD k 0) 0 by omega) (Int.le_of_lt this)
    exact⟨by omega,by omega⟩
   have t3:0<Int.tdiv c (den.getD (L.getD k 0) 0)*num.getD (L.getD k 0) 0:=Int.mul_pos t2.1 d1
   have t4:Int.tdiv c (den.getD (L.getD k 0) 0)*num.getD (L.getD k 0) 0<=96059601*96059601:=Int.mul_le_mul (by omega) d2 (by omega) (by omega)
   rw[ct (dt (by rw[z27];omega)),ct i1]
   simp only[Int.toNat_natCast,z40]
   rw[ct i2,ct (nt (by omega)),ct i3,ct i4]
   simp only[z1c (show -9223372036854775808<=Int.tdiv c (den.getD (L.getD k 0) 0) by omega) (by omega)]
   simp only[z1c (show -9223372036854775808<=Int.tdiv c (den.getD (L.getD k 0) 0)*num.getD (L.getD k 0) 0 by omega) (by omega)]
   generalize hv:Int.tdiv c (den.getD (L.getD k 0) 0)*num.getD (L.getD k 0) 0=v at t3 t4 ⊢
   have hself:(out.set (L.getD k 0) v).getD (L.getD k 0) 0=v:=by rw[z28 hxo,if_pos rfl]
   have hget:∀t,t<k->(out.set (L.getD k 0) v).getD (L.getD t 0) 0=out.getD (L.getD t 0) 0:=λt ht'=>by
    rw[z28 hxo,if_neg (λe=>by have:=z4x hf.nd hlt (by omega) e;omega)]
   rw[ct (z1g (by rw[List.length_set];exact hxo)),hself,ct (show z2f.P g v=true by
    simp only[z2f.P,Bool.and_eq_true,decide_eq_true_eq]
    omega),z1d (by rw[z0y];omega)]
   refine ih (k+1) _ _ hlt (by omega) ⟨by rw[List.length_set];exact ho.len, ?_, ?_, ?_⟩
   ·intro x hx hall
    rw[z28 hxo,if_neg (λe=>hall k (by omega) e.symm)]
    exact ho.old x hx (λt ht'=>hall t (by omega))
   ·intro t ht'
    by_cases e:t=k
    ·subst e
     rw[hself]
     refine⟨?_,t3,by omega⟩
     rw[<-hv]
     have e1:=t1
     grind
    ·rw[hget t (by omega)]
     exact ho.val t (by omega)
   ·rw[List.range_succ,List.map_append,List.map_cons,List.map_nil,hself]
    rw[show(List.range k).map (λt=>(out.set (L.getD k 0) v).getD (L.getD t 0) 0)=(List.range k).map (λt=>out.getD (L.getD t 0) 0)from List.map_congr_left (λt ht'=>hget t (List.mem_range.1 ht'))]
    rw[ho.gcd]
    exact znh _ _ v (by omega) rfl
  ·have e:k=L.length:=by omega
   subst e
   exact⟨out,g,ho,by rw[cf (df (by rw[z27];omega))]⟩
def divs(hf:zia m.1.toNat (ent m) s num0 L num den)(h5:m.1.toNat<=5){out2:List Int}{g:Int}(hg:0<g)(hv:∀x∈L,0<out2.getD x 0/\out2.getD x 0<=9227446944279201)(k10:List Int->List Int->List Int->Int->Int->Int->Int->List Int->Option ρ)(t34 t35:Int):∀(M k:Nat) (d:List Int),k<=L.length->L.length-k<M->T3 m (L,[]) out2 g k d ->
  ∃d',T3 m (L,[]) out2 g L.length d'/\Z74L N k10 M num den d (z39 L) g t34 t35 ((z39 L).length:Int) (k:Int) m.1 m.2.1 m.2.2=k10 num den d' t34 t35 m.1 m.2.1 m.2.2:=by
 have hle:=hf.le
 intro M
 induction M with
 | zero=>intro k _ _ h;omega
 | succ M ih =>
  intro k d hk hM ht
  simp only[Z74L,Z75]
  by_cases hlt:k<L.length
  ·have hxm:L.getD k 0∈L:=z1l 0 hlt
   have hxn:=hf.lt _ hxm
   obtain⟨v1,v2⟩:=hv _ hxm
   have hcur:=ht.cur hf.nd hf.lt hlt
   have hdv:0<=Int.tdiv (out2.getD (L.getD k 0) 0) g/\Int.tdiv (out2.getD (L.getD k 0) 0) g<=9227446944279201:=by
    rw[Int.tdiv_eq_ediv_of_nonneg (by omega)]
    refine⟨Int.ediv_nonneg (by omega) (by omega), ?_⟩
    have:=Int.ediv_le_self (a:=out2.getD (L.getD k 0) 0) g (by omega)
    omega
   have i4:inB ((L.getD k 0:Nat):Int) d.length=true:=z1g (by rw[ht.len];exact hxn)
   have hcur':d.getD (L.getD k 0) 0=out2.getD (L.getD k 0) 0:=hcur
   rw[ct (dt (by rw[z27];omega)),ct (z1g (by rw[z27];exact hlt))]
   simp only[Int.toNat_natCast,z40]
   rw[ct i4,ct (nt (by omega)),ct i4,hcur',z1c (by omega) (by omega),z1d (by rw[z0y];omega)]
   exact ih (k+1) _ hlt (by omega) (ht.step hf.nd hf.lt hlt)
  ·have e:k=L.length:=by omega
   subst e
   exact⟨d,ht,by rw[cf (df (by rw[z27];omega))]⟩
def outer(hN:10<=N)(hm:z0t m=true)(kr:List Int->Option ρ):∀(M i:Nat) (num den out:List Int),OInv m.1.toNat (ent m) num out->den.length=m.1.toNat->i<=m.1.toNat->(∀x,x<i->num.getD x 0≠0)->m.1.toNat-i<M ->
  Z10L N (λout5=>Z77 N out5 kr) kr M num den out (m.1.toNat:Int) (i:Int) m.1 m.2.1 m.2.2=kr (z3u m):=by
 have hdim:=z1r hm
 obtain⟨n,r,hn,hr,hn1,hn5,hnr,hr8,hl⟩:=z12 hdim
 intro M
 induction M with
 | zero=>intro i _ _ _ _ _ _ _ h;omega
 | succ M ih =>
  intro i num den out hO hdl hi hpos hM
  simp only[Z10L,Z11,Z12,Z13,Z14]
  by_cases hlt:i<m.1.toNat
  ·rw[ct' (by rw[z1t];exact dt (by omega))]
   simp only[Z15,Z16,Z17,Z18,Z19,Z20]
   rw[ct (z1g (by rw[hO.nl];exact hlt)),Int.toNat_natCast]
   by_cases hz:num.getD i 0=0
   ·rw[cf (nf hz)]
    simp only[Z21,Z22]
    rw[ct (z1g (by rw[hO.nl];exact hlt)),ct (z1g (by rw[hdl];exact hlt)),Int.toNat_natCast]
    simp only[Z23,Z24,Z25,Z26,Z27,Z28,Z29]
    have hnl:i<num.length:=by rw[hO.nl];exact hlt
    have hdl':i<den.length:=by rw[hdl];exact hlt
    have f0:zia m.1.toNat (ent m) i num [i] (num.set i 1) (den.set i 1):=by
     refine⟨by rw[List.length_set];exact hO.nl,by rw[List.length_set];exact hdl,by simp,λx hx=>by rw[List.mem_singleton]at hx;omega,rfl,by simp, ?_, ?_, ?_, ?_⟩
     ·intro x hx hni
      rw[z28 hnl,if_neg (λe=>hni (by simp[e]))]
     ·intro x hx
      rw[List.mem_singleton]at hx;subst hx;exact hz
     ·refine⟨1,by omega,by simp,λx hx=>?_⟩
      rw[List.mem_singleton]at hx
      subst hx
      rw[z28 hnl,if_pos rfl,z28 hdl',if_pos rfl]
      exact⟨by omega,by simp,by omega,Int.dvd_refl _,by decide⟩
     ·intro e he x hx
      rw[List.mem_singleton]at hx
      subst hx
      rw[z28 hnl,if_pos rfl,z28 hdl',if_pos rfl]
    have hmid:=middle (ρ:=ρ) (out:=out) hN hm hO.closed (λnum3 den4 out5 piece7 t34 t35 m1_0 m1_1 m1_2=>Z55 N num3 den4 out5 piece7 t34 t35 m1_0 m1_1 m1_2 (λnum3 den4 out5 t34 t35 m1_0 m1_1 m1_2=>Z76 N num3 den4 out5 t34 t35 m1_0 m1_1 m1_2 (λnum3 den4 out5 t34 t35 m1_0 m1_1 m1_2=>Z10L N (λout5=>Z77 N out5 kr) kr M num3 den4 out5 t34 t35 m1_0 m1_1 m1_2))) kr (m.1.toNat:Int) (i:Int) N 0 [i] (num.set i 1) (den.set i 1) f0 (by omega) (by omega) (λk' hk'=>by omega)
    rw[show((0:Nat):Int)=0 from rfl,show z39 [i]=[(i:Int)]from rfl]at hmid
    rcases hmid with⟨h1,h2⟩ | ⟨L,num',den',hf,hE,h1⟩
    ·rw[h1,znl h2]
    ·rw[h1]
     have hle:=hf.le
     obtain⟨Q,q1,q2,q3⟩:=hf.frac
     have pw:=pow4 (k:=L.length-1) (by omega)
     simp only[Z55,Z56,Z57,Z58,Z59,Z60,Z61]
     obtain⟨c,c1,c2,c3,c4⟩:=common (ρ:=ρ) (N:=N) (out:=out) (num:=num') (m:=m) hf (by omega) q1 (by omega) (λx hx=>⟨(q3 x hx).2.2.1,(q3 x hx).2.2.2.1⟩) (λnum3 den4 out5 piece7 common16 t34 t35 m1_0 m1_1 m1_2=>Z63 N num3 den4 out5 piece7 common16 t34 t35 m1_0 m1_1 m1_2 (λnum3 den4 out5 t34 t35 m1_0 m1_1 m1_2=>Z76 N num3 den4 out5 t34 t35 m1_0 m1_1 m1_2 (λnum3 den4 out5 t34 t35 m1_0 m1_1 m1_2=>Z10L N (λout5=>Z77 N out5 kr) kr M num3 den4 out5 t34 t35 m1_0 m1_1 m1_2))) (m.1.toNat:Int) (i:Int) N 0 1 (by omega) (by omega) (by omega) (Int.one_dvd _) (λk' hk'=>by omega)
     rw[show((0:Nat):Int)=0 from rfl]at c4
     rw[c4]
     have cQ:=Int.le_of_dvd q1 c2
     simp only[Z63,Z64,Z65,Z66,Z67,Z68,Z69]
     obtain⟨out2,g2,o1,o2⟩:=outs (ρ:=ρ) (N:=N) (num:=num') (m:=m) hf (by omega) c1 (by omega) (λx hx=>⟨(q3 x hx).1,by have:=(q3 x hx).2.1;omega,(q3 x hx).2.2.1,c3 x hx⟩) out (λnum3 den4 out5 piece7 g19 t34 t35 m1_0 m1_1 m1_2=>Z71 N num3 den4 out5 piece7 g19 t34 t35 m1_0 m1_1 m1_2 (λnum3 den4 out5 t34 t35 m1_0 m1_1 m1_2=>Z76 N num3 den4 out5 t34 t35 m1_0 m1_1 m1_2 (λnum3 den4 out5 t34 t35 m1_0 m1_1 m1_2=>Z10L N (λout5=>Z77 N out5 kr) kr M num3 den4 out5 t34 t35 m1_0 m1_1 m1_2))) (m.1.toNat:Int) (i:Int) N 0 out 0 (by omega) (by omega) ⟨hO.ol,λ_ _ _=>rfl,λk hk=>by omega,rfl⟩
     rw[show((0:Nat):Int)=0 from rfl]at o2
     rw[o2]
     have hg2:=o1.g_range.2.2 hf.pos
     have hval:∀x∈L,out2.getD x 0*den'.getD x 0=c*num'.getD x 0/\0<out2.getD x 0/\out2.getD x 0<=9227446944279201:=by
      intro x hx
      obtain⟨k,hk,e⟩:=z7f hx
      rw[<-e]
      exact o1.val k hk
     simp only[Z71,Z72,Z73,Z74]
     obtain⟨out3,p1,p2⟩:=divs (ρ:=ρ) (N:=N) (num:=num') (m:=m) hf (by omega) hg2 (λx hx=>(hval x hx).2) (λnum3 den4 out5 t34 t35 m1_0 m1_1 m1_2=>Z76 N num3 den4 out5 t34 t35 m1_0 m1_1 m1_2 (λnum3 den4 out5 t34 t35 m1_0 m1_1 m1_2=>Z10L N (λout5=>Z77 N out5 kr) kr M num3 den4 out5 t34 t35 m1_0 m1_1 m1_2)) (m.1.toNat:Int) (i:Int) N 0 out2 (by omega) (by omega) ⟨o1.len,λ_ _ _=>rfl,λk hk=>by omega⟩
     rw[show((0:Nat):Int)=0 from rfl]at p2
     rw[p2]
     have hgl:g2=((z7q (L.map λx=>out2.getD x 0):Nat):Int):=by
      rw[<-zfq L (λx=>out2.getD x 0)]
      exact o1.gcd
     obtain⟨r1,r2,r3⟩:=hO.piece (out3:=out3) hf hE c1 hg2 (λx hx=>(hval x hx).1) hgl (λx hx=>by
      obtain⟨k,hk,e⟩:=z7f hx
      have:=p1.val k hk
      rw[<-e]
      rw[show out3.getD (L.getD k 0) 0=_ from this]
      refine Int.tdiv_mul_cancel ?_
      rw[hgl]
      exact zda (List.mem_map.2 ⟨L.getD k 0,z1l 0 hk,rfl⟩)) (λx hx hni=>by
      have hne:∀k',k'<L.length->x≠L.getD k' 0:=λk' hk' e=>hni (by rw[e];exact z1l 0 hk')
      rw[p1.out x hx hne,o1.old x hx hne]) p1.len
     simp only[Z76]
     rw[z1d (by rw[z0y];omega)]
     exact ih (i+1) num' den' out3 r1 hf.dl hlt (λx hx=>by
      by_cases e:x=i
      ·subst e;exact r2
      ·exact r3 x (by omega) (hpos x (by omega))) (by omega)
   ·rw[ct (nt hz)]
    simp only[Z76]
    rw[z1d (by rw[z0y];omega)]
    exact ih (i+1) num den out hO hdl hlt (λx hx=>by
     by_cases e:x=i
     ·subst e;exact hz
     ·exact hpos x (by omega)) (by omega)
  ·rw[cf' (by rw[z1t];exact df (by omega))]
   simp only[Z77]
   rw[hO.fac (λx hx=>hpos x (by omega)),ct' (by rw[hO.ol,Nat.blt_eq];omega)]
end
def ok:Spec:=λm hb hp=>⟨10,λN hN=>by
 have hm:z0t m=true:=hp
 have hdim:=z1r hm
 obtain⟨n,r,hn,hr,hn1,hn5,hnr,hr8,hl⟩:=z12 hdim
 have hz:∀x,(List.replicate m.1.toNat (0:Int)).getD x 0=0:=λx=>by
  rw[List.getD_eq_getElem?_getD,List.getElem?_replicate]
  split<;>rfl
 have hc:(leB 0 m.1&&decide (m.1<1099511627776))=true:=by rw[zbd (by omega),dt (by omega)];rfl
 simp only[Z0,Z1,Z2,Z3]
 rw[ct hc,ct hc]
 have key:Z4 N (List.replicate m.1.toNat 0) (List.replicate m.1.toNat 0) m.1 m.2.1 m.2.2 (λt2=>some ((),(t2,())))=some ((),(g m,())):=by
  simp only[Z4,Z5]
  rw[ct hc]
  simp only[Z6,Z7,Z8,Z9,Z10,List.length_replicate]
  have:=outer (ρ:=Unit×List Int×Unit) hN hm (λt2=>some ((),(t2,()))) N 0 (List.replicate m.1.toNat 0) (List.replicate m.1.toNat 0) (List.replicate m.1.toNat 0) ⟨by simp,by simp,λy hy h=>absurd (hz y) h,λj hj h=>absurd (hz j) h⟩ (by simp) (by omega) (λx hx=>by omega) (by omega)
  exact this
 rw[key]
 simp only[bo,z30]⟩
end z03
end
end Go.Fw
namespace Go.Fw
section
variable {ρ : Type}
namespace z1o
def g(m:Int×Int×List Int):Bool:=z0t m&&!decide (z3u m=[])
end z1o
namespace z1o
def Z0{ρ:Type}(N:Nat)(a:MT)(kr:Bool->Option ρ):Option ρ :=
 cond (lk N ((z3x.g a)))
 (
  cond (lk N (z03.P a)) (
   kr (lk N (!(decide ((z03.g a).length=0))))) none)
 (
  kr false)
def Spec:Prop:=∀ (v0:MT),Ty.bd (.pair (.int .i64) (.pair (.int .i64) (.sl 0 (.int .i64)))) v0->∃N0,∀N,N0<=N->Z0 N v0 (λv2=>some ((),(v2,())))=some ((),((g v0),()))
def ok:Spec:=λm hb=>⟨0,λN hN=>by
 simp only[Z0,z1t,g,z3x.g,z03.P,z03.g]
 cases z0t m
 ·rfl
 ·by_cases h:z3u m=[]
  ·rw[dt h,dt (by rw[h];rfl)];rfl
  ·rw[df h,df (λe=>h (List.length_eq_zero_iff.1 e))];rfl⟩
end z1o
end
end Go.Fw
namespace Go.Fw
section
variable {ρ : Type}
namespace z0f
def P(a:List Int):Bool:=decide (a.length<1099511627776)
abbrev g(a:List Int):List Int:=a
end z0f
namespace z0f
def Z0{ρ:Type}(N:Nat)(a:LI)(kr:LI->Option ρ):Option ρ :=
 cond (lk N (decide (0<a.length)))
 (
  cond (lk N (Nat.blt (([]:List Int).length+a.length) 1099511627776)) (
   kr (([]:List Int)++a)) none)
 (
  z6d (
   kr ([]:List Int))
  (
   cond (lk N (Nat.blt (([]:List Int).length+a.length) 1099511627776)) (
    kr (([]:List Int)++a)) none))
def Spec:Prop:=∀ (v0:LI),Ty.bd (.sl 0 (.int .i64)) v0->P v0=true->∃N0,∀N,N0<=N->Z0 N v0 (λv2=>some ((),(v2,())))=some ((),((g v0),()))
def ok:Spec:=λa hb hp=>⟨0,λN hN=>by
 have hl:a.length<1099511627776:=by simpa[P]using hp
 have hc:Nat.blt (([]:List Int).length+a.length) 1099511627776=true:=by simpa using hl
 simp only[Z0,z1t,g,hc,cond_true,List.nil_append]
 by_cases h:0<a.length
 ·simp[h]
 ·have:a=[]:=List.eq_nil_of_length_eq_zero (by omega)
  subst this
  simp[z30]⟩
end z0f
end
end Go.Fw
namespace Go.Fw
section
variable {ρ : Type}
namespace z0n
def P(m:Int×Int×List Int)(k:Int):Bool:=z0t m&&(decide (0<=k)&&decide (k<m.1))
def g(m:Int×Int×List Int)(k:Int):Int×Int×List Int:=z6h m k.toNat
end z0n
namespace z0n
def Z1{ρ:Type}(N:Nat)(a:MT)(b:Int)(kn:I3 (LI->I2 (Option ρ))):Option ρ :=
 kn b a.1 a.2.1 a.2.2 0 0
def Z3{ρ:Type}(N:Nat)(d b c:Int)(a:LI)(e f:Int)(kn:LI->I3 (LI->I4 (Option ρ))):Option ρ :=
 z6d (
  cond (lk N (z0f.P a)) (
   bo (
    kn (z0f.g a) d b c a e f b c)) none)
 (
  cond (lk N (z0f.P a)) (
   kn (z0f.g a) d b c a e f b c) none)
def Z6{ρ:Type}(N:Nat)(a:LI)(b c d:Int)(e:LI)(f g h i:Int)(kn:LI->I4 (LI->I4 (Option ρ))):Option ρ :=
 kn a b 0 c d e f g h i
def Z10{ρ:Type}(N:Nat)(a:LI)(h b i c:Int)(j:LI)(d e f g:Int)(kn:LI->I4 (LI->I4 (Option ρ)))(k0:LI->I4 (Option ρ)):Option ρ :=
 cond (lk N (decide (b<c)))
 (
  kn a h b i c j d e f g)
 (
  k0 a d e f g)
def Z14{ρ:Type}(N:Nat)(a:LI)(b c d e:Int)(f:LI)(g h i j:Int)(kn:LI->I5 (LI->I4 (Option ρ))):Option ρ :=
 kn a b c 0 d e f g h i j
def Z18{ρ:Type}(N:Nat)(b:LI)(c d e a f:Int)(g:LI)(h i j l:Int)(kn:LI->I5 (LI->I4 (Option ρ)))(k2:LI->I4 (LI->I4 (Option ρ))):Option ρ :=
 cond (lk N (decide (e<a)))
 (
  kn b c d e a f g h i j l)
 (
  k2 b c d a f g h i j l)
def Z22{ρ:Type}(N:Nat)(d:LI)(e a b c f:Int)(g:LI)(h i j l:Int)(kn:LI->I6 (LI->I4 (Option ρ))):Option ρ :=
 cond (lk N (inB (w64 ((w64 (a*c))+b)) d.length)) (
  kn d e a b (w64 ((w64 (a*c))+b)) c f g h i j l) none
def Z24{ρ:Type}(N:Nat)(h:LI)(a e f i b c:Int)(d:LI)(j l m o:Int)(kn:LI->I8 (LI->I4 (Option ρ))):Option ρ :=
 cond (lk N (z1k.P (b,(c,d)) e a)) (
  cond (lk N (z1k.P (b,(c,d)) a f)) (
   kn h a e f i (z1k.g (b,(c,d)) e a) (z1k.g (b,(c,d)) a f) b c d j l m o) none) none
def Z27{ρ:Type}(N:Nat)(d:LI)(a b c e f g h i:Int)(j:LI)(l m o p:Int)(kn:LI->I6 (Bool->I2 (LI->I4 (Option ρ)))):Option ρ :=
 cond (lk N (decide (b=a)))
 (
  kn d a b c e f g true h i j l m o p)
 (
  kn d a b c e f g (lk N (decide (c=a))) h i j l m o p)
def Z28{ρ:Type}(N:Nat)(a:LI)(b c d e o p:Int)(q:Bool)(f g:Int)(h:LI)(i j l m:Int)(kn:LI->I5 (LI->I4 (Option ρ))):Option ρ :=
 cond (q)
 (
  kn (a.set e.toNat (w64 (0-(a.getD e.toNat 0)))) b c d f g h i j l m)
 (
  cond (lk N (decide (0<o)))
  (
   cond (lk N (decide (0<p)))
   (
    kn (a.set e.toNat (w64 ((a.getD e.toNat 0)+(w64 (o*p))))) b c d f g h i j l m)
   (
    cond (lk N (decide (o<0)))
    (
     cond (lk N (decide (p<0)))
     (
      kn (a.set e.toNat (w64 ((a.getD e.toNat 0)-(w64 (o*p))))) b c d f g h i j l m)
     (
      kn a b c d f g h i j l m))
    (
     kn a b c d f g h i j l m)))
  (
   cond (lk N (decide (o<0)))
   (
    cond (lk N (decide (p<0)))
    (
     kn (a.set e.toNat (w64 ((a.getD e.toNat 0)-(w64 (o*p))))) b c d f g h i j l m)
    (
     kn a b c d f g h i j l m))
   (
    kn a b c d f g h i j l m)))
def Z26 N a b c d e f g h i j l m o p kn:=(Z27 N a b c d e f g h i j l m o p (λa b c d e f g q h i j l m o p=>Z28 N a b c d e f g q h i j l m o p kn):Option ρ)
def Z25 N a b c d e f g h i j l m o p kn:=(Z26 N a b c d e f g h i j l m o p kn:Option ρ)
def Z23 N a b c d e f g h i j l m kn:=(Z24 N a b c d e f g h i j l m (λa b c d e o p f g h i j l m=>Z25 N a b c d e o p f g h i j l m kn):Option ρ)
def Z21 N a b c d e f g h i j l kn:=(Z22 N a b c d e f g h i j l (λa b c d m e f g h i j l=>Z23 N a b c d m e f g h i j l kn):Option ρ)
def Z20 N a b c d e f g h i j l kn:=(Z21 N a b c d e f g h i j l kn:Option ρ)
def Z29{ρ:Type}(N:Nat)(a:LI)(b c d e f:Int)(g:LI)(h i j l:Int)(kn:LI->I5 (LI->I4 (Option ρ))):Option ρ :=
 kn a b c (w64 (d+1)) e f g h i j l
def Z19 N a b c d e f g h i j l kn:=(Z20 N a b c d e f g h i j l (λa b c d e f g h i j l=>Z29 N a b c d e f g h i j l kn):Option ρ)
def Z17 N a b c d e f g h i j l kn k2:=(Z18 N a b c d e f g h i j l (λa b c d e f g h i j l=>Z19 N a b c d e f g h i j l kn) k2:Option ρ)
def Z16L{ρ:Type}(N:Nat)(k2:LI->I4 (LI->I4 (Option ρ))):Nat->LI->Int->Int->Int->Int->Int->LI->Int->Int->Int->Int->Option ρ
 | 0,_,_,_,_,_,_,_,_,_,_,_=>none
 | M+1,a,b,c,d,e,f,g,h,i,j,l=>Z17 N a b c d e f g h i j l (λa b c d e f g h i j l=>Z16L N k2 M a b c d e f g h i j l) k2
def Z16 N a b c d e f g h i j l k2:=(Z16L N k2 N a b c d e f g h i j l:Option ρ)
def Z15 N a b c d e f g h i j l kn:=(Z16 N a b c d e f g h i j l kn:Option ρ)
def Z13 N a b c d e f g h i j kn:=(Z14 N a b c d e f g h i j (λa b c l d e f g h i j=>Z15 N a b c l d e f g h i j kn):Option ρ)
def Z12 N a b c d e f g h i j kn:=(Z13 N a b c d e f g h i j kn:Option ρ)
def Z30{ρ:Type}(N:Nat)(a:LI)(b c d e:Int)(f:LI)(g h i j:Int)(kn:LI->I4 (LI->I4 (Option ρ))):Option ρ :=
 kn a b (w64 (c+1)) d e f g h i j
def Z11 N a b c d e f g h i j kn:=(Z12 N a b c d e f g h i j (λa b c d e f g h i j=>Z30 N a b c d e f g h i j kn):Option ρ)
def Z9 N a b c d e f g h i j kn k0:=(Z10 N a b c d e f g h i j (λa b c d e f g h i j=>Z11 N a b c d e f g h i j kn) k0:Option ρ)
def Z8L{ρ:Type}(N:Nat)(k0:LI->I4 (Option ρ)):Nat->LI->Int->Int->Int->Int->LI->Int->Int->Int->Int->Option ρ
 | 0,_,_,_,_,_,_,_,_,_,_=>none
 | M+1,a,b,c,d,e,f,g,h,i,j=>Z9 N a b c d e f g h i j (λa b c d e f g h i j=>Z8L N k0 M a b c d e f g h i j) k0
def Z8 N a b c d e f g h i j k0:=(Z8L N k0 N a b c d e f g h i j:Option ρ)
def Z7 N a b c d e f g h i j kn:=(Z8 N a b c d e f g h i j kn:Option ρ)
def Z5 N a b c d e f g h i kn:=(Z6 N a b c d e f g h i (λa b j c d e f g h i=>Z7 N a b j c d e f g h i kn):Option ρ)
def Z31{ρ:Type}(N:Nat)(a:LI)(d e b c:Int)(kr:LI->I2 (Option ρ)):Option ρ :=
 kr a b c
def Z4 N a f g h i b c d e kr:=(Z5 N a f g h i b c d e (λa b c d e=>Z31 N a b c d e kr):Option ρ)
def Z2 N a b c d e f kr:=(Z3 N a b c d e f (λg a b c d e f h i=>Z4 N g a b c d e f h i kr):Option ρ)
def Z0 N b a kr:=(Z1 N b a (λa c d e f g=>Z2 N a c d e f g kr):Option ρ)
def Spec:Prop:=∀ (v0:MT) (v1:Int),Ty.bd (.pair (.int .i64) (.pair (.int .i64) (.sl 0 (.int .i64)))) v0->P v0 v1=true->∃N0,∀N,N0<=N->Z0 N v0 v1 (λv4_2 v4_0 v4_1=>some ((),((v4_0,(v4_1,v4_2)),())))=some ((),((g v0 v1),()))
section
variable {ρ : Type} {N : Nat} {m : Int × Int × List Int} {k : Nat}
def at_g(hd:0<=m.1)(a b:Nat):z1k.g (m.1,(m.2.1,m.2.2)) (a:Int) (b:Int)=ent m a b:=za5 hd a b
def at_p(hd:z3i m=true){a b:Nat}(ha:a<m.2.1.toNat)(hb:b<m.1.toNat):z1k.P (m.1,(m.2.1,m.2.2)) (a:Int) (b:Int)=true:=zmi hd ha hb
def cur(m:Int×Int×List Int)(k p:Nat):List Int:=zky m.2.2.length p (mutF m k) (λp=>m.2.2.getD p 0)
def inner(hs:z0t m=true)(hk:k<m.1.toNat)(k2:List Int->Int->Int->Int->Int->List Int->Int->Int->Int->Int->Option ρ)(t0 t1 o0 o1:Int){i:Nat}(hi:i<m.2.1.toNat):∀(M j:Nat),j<=m.1.toNat->m.1.toNat-j<M ->
  Z16L N k2 M (cur m k (i*m.1.toNat+j)) (k:Int) (i:Int) (j:Int) m.1 m.2.1 m.2.2 t0 t1 o0 o1=k2 (cur m k (i*m.1.toNat+m.1.toNat)) (k:Int) (i:Int) m.1 m.2.1 m.2.2 t0 t1 o0 o1:=by
 have hd:=z1r hs
 obtain⟨n,r,hn,hr,hn1,hn5,hnr,hr8,hl⟩:=z12 hd
 intro M
 induction M with
 | zero=>intro j _ h;omega
 | succ M ih =>
  intro j hj hM
  simp only[Z16L,Z17,Z18]
  by_cases h:j<m.1.toNat
  ·have hlt:i*m.1.toNat+j<m.2.2.length:=by
    have:=z7t (n:=n) (r:=r) (i:=i) (j:=j) (by omega) (by omega)
    rw[hl,hn];exact this
   have hidx:w64 (w64 ((i:Int)*m.1)+(j:Int))=((i*m.1.toNat+j:Nat):Int):=by
    have e:(i:Int)*m.1=((i*m.1.toNat:Nat):Int):=by rw[hn,Int.natCast_mul];simp
    have hb:i*m.1.toNat<=8*5:=Nat.mul_le_mul (by omega) (by omega)
    have e2:w64 (((i*m.1.toNat:Nat):Int))=((i*m.1.toNat:Nat):Int):=z1c (by omega) (by omega)
    rw[e,e2,z1c (by omega) (by omega)]
    omega
   have b1:=z3n hs i j
   have b2:=z3n hs i k
   have b3:=z3n hs k j
   have hbc:=zfy (f:=false) b1 b2 b3
   have hF:=zlm (m:=m) (k:=k) (i:=i) h
   have hcl:(cur m k (i*m.1.toNat+j)).length=m.2.2.length:=zac
   have hset:∀v,v=mutF m k (i*m.1.toNat+j)->(cur m k (i*m.1.toNat+j)).set (i*m.1.toNat+j) v=cur m k (i*m.1.toNat+(j+1)):=λv hv=>by
    subst hv
    exact zmu hlt
   have hsame:mutF m k (i*m.1.toNat+j)=ent m i j->cur m k (i*m.1.toNat+j)=cur m k (i*m.1.toNat+(j+1)):=λhv=>(zif hv).symm
   have iB:inB (((i*m.1.toNat+j:Nat):Int)) (cur m k (i*m.1.toNat+j)).length=true:=z1g (by rw[hcl];exact hlt)
   have pij:=at_p hd hi h
   rw[ct (dt (by omega))]
   simp only[Z19,Z20,Z21,Z22,Z23,Z24,Z25]
   have fin:∀c,c=cur m k (i*m.1.toNat+(j+1))->Z29 N c (k:Int) (i:Int) (j:Int) m.1 m.2.1 m.2.2 t0 t1 o0 o1 (λout5_2 k1 i6 j7 m2_0 m2_1 m2_2 t4_0 t4_1 out5_0 out5_1=>Z16L N k2 M out5_2 k1 i6 j7 m2_0 m2_1 m2_2 t4_0 t4_1 out5_0 out5_1)=k2 (cur m k (i*m.1.toNat+m.1.toNat)) (k:Int) (i:Int) m.1 m.2.1 m.2.2 t0 t1 o0 o1:=by
    intro c hc
    subst hc
    simp only[Z29]
    rw[z1d (by rw[z0y];omega)]
    exact ih (j+1) h (by omega)
   have hcg:(cur m k (i*m.1.toNat+j)).getD (i*m.1.toNat+j) 0=ent m i j:=by
    refine(upto_get hlt 0).trans ?_
    rw[if_neg (by omega)]
    rfl
   rw[hidx,ct iB,ct (at_p hd hi hk),ct (at_p hd (show k<m.2.1.toNat by omega) h),at_g (by omega),at_g (by omega)]
   simp only[Z26,Z27,Z28,Int.toNat_natCast,hcg]
   by_cases hik:i=k
   ·rw[ct (dt (by omega)),ct' rfl,z1c (by omega) (by omega)]
    refine fin _ (hset _ ?_)
    rw[hF,dt hik,Int.zero_sub];rfl
   ·rw[cf (df (by omega))]
    by_cases hjk:j=k
    ·rw[ct' (by rw[z1t];exact dt (by omega)),z1c (by omega) (by omega)]
     refine fin _ (hset _ ?_)
     rw[hF,df hik,dt hjk,Int.zero_sub];rfl
    ·rw[cf' (by rw[z1t];exact df (by omega))]
     rw[df hik,df hjk]at hF
     simp only[mutE,Bool.or_self,Bool.false_eq_true,if_false]at hF
     have wbc:w64 (ent m i k*ent m k j)=ent m i k*ent m k j:=z1c (by omega) (by omega)
     rw[wbc]
     by_cases a1:0<ent m i k
     ·rw[ct (dt a1)]
      by_cases a2:0<ent m k j
      ·rw[ct (dt a2),z1c (by omega) (by omega)]
       refine fin _ (hset _ ?_)
       rw[hF,if_pos ⟨a1,a2⟩]
      ·rw[cf (df a2),cf (df (by omega))]
       refine fin _ (hsame ?_)
       rw[hF,if_neg (by omega),if_neg (by omega)]
     ·rw[cf (df a1)]
      by_cases a2:ent m i k<0
      ·rw[ct (dt a2)]
       by_cases a3:ent m k j<0
       ·rw[ct (dt a3),z1c (by omega) (by omega)]
        refine fin _ (hset _ ?_)
        rw[hF,if_neg (by omega),if_pos ⟨a2,a3⟩]
       ·rw[cf (df a3)]
        refine fin _ (hsame ?_)
        rw[hF,if_neg (by omega),if_neg (by omega)]
      ·rw[cf (df a2)]
       refine fin _ (hsame ?_)
       rw[hF,if_neg (by omega),if_neg (by omega)]
  ·rw[cf (df (by omega)),show j=m.1.toNat by omega]
def outer(hN:10<=N)(hs:z0t m=true)(hk:k<m.1.toNat)(k0:List Int->Int->Int->Int->Int->Option ρ)(t0 t1 o0 o1:Int):∀(M i:Nat),i<=m.2.1.toNat->m.2.1.toNat-i<M ->
  Z8L N k0 M (cur m k (i*m.1.toNat)) (k:Int) (i:Int) m.1 m.2.1 m.2.2 t0 t1 o0 o1=k0 (cur m k (m.2.1.toNat*m.1.toNat)) t0 t1 o0 o1:=by
 have hd:=z1r hs
 obtain⟨n,r,hn,hr,hn1,hn5,hnr,hr8,hl⟩:=z12 hd
 intro M
 induction M with
 | zero=>intro i _ h;omega
 | succ M ih =>
  intro i hi hM
  simp only[Z8L,Z9,Z10]
  by_cases h:i<m.2.1.toNat
  ·rw[ct (dt (by omega))]
   simp only[Z11,Z12,Z13,Z14,Z15,Z16]
   have hin:=inner (ρ:=ρ) (N:=N) hs hk (λout5_2 k1 i6 m2_0 m2_1 m2_2 t4_0 t4_1 out5_0 out5_1=>Z30 N out5_2 k1 i6 m2_0 m2_1 m2_2 t4_0 t4_1 out5_0 out5_1 (λout5_2 k1 i6 m2_0 m2_1 m2_2 t4_0 t4_1 out5_0 out5_1=>Z8L N k0 M out5_2 k1 i6 m2_0 m2_1 m2_2 t4_0 t4_1 out5_0 out5_1)) t0 t1 o0 o1 h N 0 (by omega) (by omega)
   rw[show((0:Nat):Int)=0 from rfl,Nat.add_zero]at hin
   rw[hin]
   simp only[Z30]
   rw[z1d (by rw[z0y];omega)]
   have:=ih (i+1) h (by omega)
   rw[Nat.add_mul,Nat.one_mul]at this
   exact this
  ·rw[cf (df (by omega)),show i=m.2.1.toNat by omega]
end
def ok:Spec:=λm k hb hp=>⟨10,λN hN=>by
 simp only[P,Bool.and_eq_true,decide_eq_true_eq]at hp
 obtain⟨hs,h0,h1⟩:=hp
 obtain⟨x,rfl⟩:=Int.eq_ofNat_of_zero_le h0
 have hd:=z1r hs
 obtain⟨n,r,hn,hr,hn1,hn5,hnr,hr8,hl⟩:=z12 hd
 have hlen:m.2.2.length<=8*5:=by rw[hl];exact Nat.mul_le_mul hr8 hn5
 simp only[Z0,Z1,Z2,Z3]
 rw[ct (show z0f.P m.2.2=true from dt (by omega)),ct (show z0f.P m.2.2=true from dt (by omega))]
 simp only[bo,z30]
 simp only[Z4,Z5,Z6,Z7,Z8]
 have hstart:cur m x 0=m.2.2:=by
  unfold cur
  rw[zie]
  exact zd7 0 rfl
 have hend:cur m x (m.2.1.toNat*m.1.toNat)=(z6h m x).2.2:=by
  have e:m.2.1.toNat*m.1.toNat=m.2.2.length:=by rw[hl,hn,hr];simp
  rw[e]
  exact zig
 have:=outer (ρ:=Unit×(Int×Int×List Int)×Unit) hN hs (show x<m.1.toNat by omega) (λout5_2 t4_0 t4_1 out5_0 out5_1=>Z31 N out5_2 t4_0 t4_1 out5_0 out5_1 (λt4_2 t4_0 t4_1=>some ((),((t4_0,(t4_1,t4_2)),())))) 0 0 m.1 m.2.1 N 0 (by omega) (by omega)
 rw[Nat.zero_mul,hstart,hend]at this
 exact this⟩
end z0n
end
end Go.Fw
namespace Go.Fw
section
variable {ρ : Type}
namespace z0g
def g(m:Int×Int×List Int)(k:Int):(Int×Int×List Int)×Bool :=
 if((z0t m&&!decide (z3u m=[]))&&(inK k 0 (m.1-1)&&(z0t (z6h m k.toNat)&&!decide (z3u (z6h m k.toNat)=[]))))=true then(z6h m k.toNat,true)else((0,0,[]),false)
end z0g
namespace z0g
def Z0{ρ:Type}(N:Nat)(a:MT)(b:Int)(kr:LI->Bool->I2 (Option ρ)):Option ρ :=
 cond (!(lk N ((z1o.g a))))
 (
  kr ([]:List Int) false 0 0)
 (
  cond (!(lk N ((z2p.g b 0 (w64 (a.1-1))))))
  (
   kr ([]:List Int) false 0 0)
  (
   cond (lk N (z0n.P a b)) (
    cond (!(lk N ((z1o.g (z0n.g a b)))))
    (
     kr ([]:List Int) false 0 0)
    (
     kr (z0n.g a b).2.2 true (z0n.g a b).1 (z0n.g a b).2.1)) none))
def Spec:Prop:=∀ (v0:MT) (v1:Int),Ty.bd (.pair (.int .i64) (.pair (.int .i64) (.sl 0 (.int .i64)))) v0->∃N0,∀N,N0<=N->Z0 N v0 v1 (λv4_2 v5 v4_0 v4_1=>some ((),((v4_0,(v4_1,v4_2)),(v5,()))))=some ((),((g v0 v1).1,((g v0 v1).2,())))
def ok:Spec:=λm k hb=>⟨0,λN hN=>by
 simp only[Z0,z1t,g,z1o.g,z2p.g]
 cases h1:(z0t m&&!decide (z3u m=[]))
 ·rfl
 have hs:z0t m=true:=by
  simp only[Bool.and_eq_true]at h1
  exact h1.1
 have hd:=z1r hs
 obtain⟨n,r,hn,hr,hn1,hn5,hnr,hr8,hl⟩:=z12 hd
 rw[z1c (by omega) (by omega)]
 cases h2:inK k 0 (m.1-1)
 ·rfl
 have h3:=z2b.1 h2
 have hP:z0n.P m k=true:=by
  simp only[z0n.P,Bool.and_eq_true,decide_eq_true_eq]
  exact⟨hs,by omega,by omega⟩
 rw[hP]
 have hg:z0n.g m k=z6h m k.toNat:=rfl
 rw[hg]
 cases(z0t (z6h m k.toNat)&&!decide (z3u (z6h m k.toNat)=[]))<;>rfl⟩
end z0g
end
end Go.Fw
namespace Go.Fw
def zs6:z0g.g=zoz:=by
 funext m k
 unfold z0g.g zoz
 rw[z6k]
 cases h1:(z23 m&&!decide (z3u m=[]))
 ·rfl
 cases h2:inK k 0 (m.1-1)
 ·rfl
 have h3:=z2b.1 h2
 rw[zjd h1 (by omega)]
end Go.Fw
namespace Go.Fw
section
variable {ρ : Type}
namespace z07
def g(m:Int×Int×List Int):(Int×Int×List Int)×Bool :=
 if((z0t m&&!decide (z3u m=[]))&&(decide (m.2.1=m.1)&&decide (2*m.1<=8)))=true then(z58 m,true)else((0,0,[]),false)
end z07
namespace z07
def Z1{ρ:Type}(N:Nat)(a:MT)(kn:I2 (LI->I2 (Option ρ))):Option ρ :=
 kn a.1 a.2.1 a.2.2 0 0
def Z3{ρ:Type}(N:Nat)(a b:Int)(c:LI)(d e:Int)(kn:I2 (LI->I2 (Option ρ)))(kr:LI->Bool->I2 (Option ρ)):Option ρ :=
 cond (!(lk N ((z1o.g (a,(b,c))))))
 (
  kr ([]:List Int) false 0 0)
 (
  cond (lk N (!(decide (b=a))))
  (
   kr ([]:List Int) false 0 0)
  (
   cond (lk N (decide (8<(w64 (2*a)))))
   (
    kr ([]:List Int) false 0 0)
   (
    kn a b c d e)))
def Z5{ρ:Type}(N:Nat)(a c:Int)(b:LI)(d e:Int)(kn:LI->I2 (LI->I4 (Option ρ))):Option ρ :=
 z6d (
  cond (lk N (z0f.P b)) (
   bo (
    kn (z0f.g b) a c b d e a (w64 (2*a)))) none)
 (
  cond (lk N (z0f.P b)) (
   kn (z0f.g b) a c b d e a (w64 (2*a))) none)
def Z8{ρ:Type}(N:Nat)(a:LI)(b c:Int)(d:LI)(e f g h:Int)(kn:LI->I3 (LI->I4 (Option ρ))):Option ρ :=
 kn a 0 b c d e f g h
def Z12{ρ:Type}(N:Nat)(a:LI)(b c h:Int)(i:LI)(d e f g:Int)(kn:LI->I3 (LI->I4 (Option ρ)))(k0:LI->I4 (Option ρ)):Option ρ :=
 cond (lk N (decide (b<c)))
 (
  kn a b c h i d e f g)
 (
  k0 a d e f g)
def Z16{ρ:Type}(N:Nat)(a:LI)(b c d:Int)(e:LI)(f g h i:Int)(kn:LI->I4 (LI->I4 (Option ρ))):Option ρ :=
 kn a b 0 c d e f g h i
def Z19{ρ:Type}(N:Nat)(a:LI)(b c d e:Int)(f:LI)(g h i j:Int)(kn:LI->I4 (LI->I4 (Option ρ)))(k2:LI->I3 (LI->I4 (Option ρ))):Option ρ :=
 cond (lk N (decide (c<d)))
 (
  cond (lk N (decide (b=c)))
  (
   cond (lk N (Nat.blt (a.length+([1]:List Int).length) 1099511627776)) (
    kn (a++([1]:List Int)) b (w64 (c+1)) d e f g h i j) none)
  (
   cond (lk N (Nat.blt (a.length+([0]:List Int).length) 1099511627776)) (
    kn (a++([0]:List Int)) b (w64 (c+1)) d e f g h i j) none))
 (
  k2 a b d e f g h i j)
def Z18L{ρ:Type}(N:Nat)(k2:LI->I3 (LI->I4 (Option ρ))):Nat->LI->Int->Int->Int->Int->LI->Int->Int->Int->Int->Option ρ
 | 0,_,_,_,_,_,_,_,_,_,_=>none
 | M+1,a,b,c,d,e,f,g,h,i,j=>Z19 N a b c d e f g h i j (λa b c d e f g h i j=>Z18L N k2 M a b c d e f g h i j) k2
def Z18 N a b c d e f g h i j k2:=(Z18L N k2 N a b c d e f g h i j:Option ρ)
def Z17 N a b c d e f g h i j kn:=(Z18 N a b c d e f g h i j kn:Option ρ)
def Z15 N a b c d e f g h i kn:=(Z16 N a b c d e f g h i (λa b j c d e f g h i=>Z17 N a b j c d e f g h i kn):Option ρ)
def Z14 N a b c d e f g h i kn:=(Z15 N a b c d e f g h i kn:Option ρ)
def Z20{ρ:Type}(N:Nat)(a:LI)(b c d:Int)(e:LI)(f g h i:Int)(kn:LI->I3 (LI->I4 (Option ρ))):Option ρ :=
 kn a (w64 (b+1)) c d e f g h i
def Z13 N a b c d e f g h i kn:=(Z14 N a b c d e f g h i (λa b c d e f g h i=>Z20 N a b c d e f g h i kn):Option ρ)
def Z11 N a b c d e f g h i kn k0:=(Z12 N a b c d e f g h i (λa b c d e f g h i=>Z13 N a b c d e f g h i kn) k0:Option ρ)
def Z10L{ρ:Type}(N:Nat)(k0:LI->I4 (Option ρ)):Nat->LI->Int->Int->Int->LI->Int->Int->Int->Int->Option ρ
 | 0,_,_,_,_,_,_,_,_,_=>none
 | M+1,a,b,c,d,e,f,g,h,i=>Z11 N a b c d e f g h i (λa b c d e f g h i=>Z10L N k0 M a b c d e f g h i) k0
def Z10 N a b c d e f g h i k0:=(Z10L N k0 N a b c d e f g h i:Option ρ)
def Z9 N a b c d e f g h i kn:=(Z10 N a b c d e f g h i kn:Option ρ)
def Z7 N a b c d e f g h kn:=(Z8 N a b c d e f g h (λa i b c d e f g h=>Z9 N a i b c d e f g h kn):Option ρ)
def Z21{ρ:Type}(N:Nat)(a:LI)(d e b c:Int)(kr:LI->Bool->I2 (Option ρ)):Option ρ :=
 kr a true b c
def Z6 N a f g h b c d e kr:=(Z7 N a f g h b c d e (λa b c d e=>Z21 N a b c d e kr):Option ρ)
def Z4 N a b c d e kr:=(Z5 N a b c d e (λf a b c d e g h=>Z6 N f a b c d e g h kr):Option ρ)
def Z2 N a b c d e kr:=(Z3 N a b c d e (λa b c d e=>Z4 N a b c d e kr) kr:Option ρ)
def Z0 N a kr:=(Z1 N a (λb c d e f=>Z2 N b c d e f kr):Option ρ)
def Spec:Prop:=∀ (v0:MT),Ty.bd (.pair (.int .i64) (.pair (.int .i64) (.sl 0 (.int .i64)))) v0->∃N0,∀N,N0<=N->Z0 N v0 (λv2_2 v3 v2_0 v2_1=>some ((),((v2_0,(v2_1,v2_2)),(v3,()))))=some ((),((g v0).1,((g v0).2,())))
def inner{ρ:Type}{N:Nat}{m:Int×Int×List Int}(hd:z3i m=true)(k2:List Int->Int->Int->Int->List Int->Int->Int->Int->Int->Option ρ)(t0 t1 o0 o1:Int)(base:List Int)(hb:base.length<=65){i:Nat}(hi:i<m.1.toNat):∀(M j:Nat),j<=m.1.toNat->m.1.toNat-j<M ->
  Z18L N k2 M (base++(zqr m.1.toNat i).take j) (i:Int) (j:Int) m.1 m.2.1 m.2.2 t0 t1 o0 o1=k2 (base++zqr m.1.toNat i) (i:Int) m.1 m.2.1 m.2.2 t0 t1 o0 o1:=by
 obtain⟨n,r,hn,hr,hn1,hn5,hnr,hr8,hl⟩:=z12 hd
 intro M
 induction M with
 | zero=>intro j _ h;omega
 | succ M ih =>
  intro j hj hM
  simp only[Z18L,Z19]
  by_cases h:j<m.1.toNat
  ·have hlen:∀x:Int,Nat.blt ((base++(zqr m.1.toNat i).take j).length+([x]).length) 1099511627776=true:=λx=>by
    rw[Nat.blt_eq,List.length_append,List.length_take,zak,List.length_singleton];omega
   have ht:=z55 (l:=zqr m.1.toNat i) (j:=j) (0:Int) (by rw[zak];exact h)
   rw[zqq h]at ht
   have:=ih (j+1) h (by omega)
   rw[<-ht,<-List.append_assoc]at this
   rw[ct (dt (by omega))]
   by_cases e:i=j
   ·rw[if_pos e]at this
    rw[ct (dt (by omega)),ct (hlen _),z1d (by rw[z0y];omega)]
    exact this
   ·rw[if_neg e]at this
    rw[cf (df (by omega)),ct (hlen _),z1d (by rw[z0y];omega)]
    exact this
  ·rw[cf (df (by omega)),List.take_of_length_le (by rw[zak];omega)]
def loop{ρ:Type}{N:Nat}(hN:10<=N){m:Int×Int×List Int}(hd:z3i m=true)(k0:List Int->Int->Int->Int->Int->Option ρ)(t0 t1 o0 o1:Int):∀(M i:Nat),i<=m.1.toNat->m.1.toNat-i<M ->
  Z10L N k0 M (m.2.2++z93 m.1.toNat i) (i:Int) m.1 m.2.1 m.2.2 t0 t1 o0 o1=k0 (m.2.2++z93 m.1.toNat m.1.toNat) t0 t1 o0 o1:=by
 obtain⟨n,r,hn,hr,hn1,hn5,hnr,hr8,hl⟩:=z12 hd
 intro M
 induction M with
 | zero=>intro i _ h;omega
 | succ M ih =>
  intro i hi hM
  simp only[Z10L,Z11,Z12]
  by_cases h:i<m.1.toNat
  ·rw[ct (dt (by omega))]
   simp only[Z13,Z14,Z15,Z16,Z17,Z18]
   have hin:=inner (ρ:=ρ) (N:=N) hd (λout4_2 i5 m1_0 m1_1 m1_2 t2_0 t2_1 out4_0 out4_1=>Z20 N out4_2 i5 m1_0 m1_1 m1_2 t2_0 t2_1 out4_0 out4_1 (λout4_2 i5 m1_0 m1_1 m1_2 t2_0 t2_1 out4_0 out4_1=>Z10L N k0 M out4_2 i5 m1_0 m1_1 m1_2 t2_0 t2_1 out4_0 out4_1)) t0 t1 o0 o1 (m.2.2++z93 m.1.toNat i) (zr0 hd i (by omega)) h N 0 (by omega) (by omega)
   rw[List.take_zero,List.append_nil,show((0:Nat):Int)=0 from rfl]at hin
   rw[hin]
   simp only[Z20]
   rw[z1d (by rw[z0y];omega),List.append_assoc]
   exact ih (i+1) h (by omega)
  ·rw[cf (df (by omega)),show i=m.1.toNat by omega]
def ok:Spec:=λm hb=>⟨10,λN hN=>by
 have e0:z1o.g (m.1,(m.2.1,m.2.2))=(z0t m&&!decide (z3u m=[])):=rfl
 simp only[Z0,Z1,Z2,Z3,e0,g,z1t]
 cases h1:(z0t m&&!decide (z3u m=[]))
 ·rfl
 have hs:z0t m=true:=by
  simp only[Bool.and_eq_true]at h1
  exact h1.1
 have hd:=z1r hs
 obtain⟨n,r,hn,hr,hn1,hn5,hnr,hr8,hl⟩:=z12 hd
 have hlen:=ztu hd
 rw[z1c (by omega) (by omega)]
 by_cases h2:m.2.1=m.1
 ·rw[dt h2]
  by_cases h3:2*m.1<=8
  ·rw[dt h3,df (show ¬ 8<2*m.1 by omega)]
   simp only[Z4,Z5]
   rw[ct (show z0f.P m.2.2=true from dt (by omega)),ct (show z0f.P m.2.2=true from dt (by omega))]
   simp only[bo,z30]
   simp only[Z6,Z7,Z8,Z9,Z10]
   have:=loop (ρ:=Unit×(Int×Int×List Int)×Bool×Unit) hN hd (λout4_2 t2_0 t2_1 out4_0 out4_1=>Z21 N out4_2 t2_0 t2_1 out4_0 out4_1 (λt2_2 t3 t2_0 t2_1=>some ((),((t2_0,(t2_1,t2_2)),(t3,()))))) 0 0 m.1 (w64 (2*m.1)) N 0 (by omega) (by omega)
   rw[z93,List.append_nil]at this
   refine this.trans ?_
   simp only[Z21]
   rw[z1c (by omega) (by omega)]
   rfl
  ·rw[df h3,dt (show 8<2*m.1 by omega)];rfl
 ·rw[df h2];rfl⟩
end z07
end
end Go.Fw
namespace Go.Fw
section
variable {ρ : Type}
namespace z0k
def g(m:Int×Int×List Int)(ks:List Int):(Int×Int×List Int)×Bool :=
 if((z0t m&&!decide (z3u m=[]))&&decide ((ks.length:Int)<=40))=true then z3o z0g.g m ks else noMat
end z0k
namespace z0k
def Z1{ρ:Type}(N:Nat)(a:MT)(b:LI)(kn:LI->I2 (LI->I2 (Option ρ))):Option ρ :=
 kn b a.1 a.2.1 a.2.2 0 0
def Z3{ρ:Type}(N:Nat)(a:LI)(b c:Int)(d:LI)(e f:Int)(kn:LI->I2 (LI->I2 (Option ρ)))(kr:LI->Bool->I2 (Option ρ)):Option ρ :=
 cond (!(lk N ((z1o.g (b,(c,d))))))
 (
  kr ([]:List Int) false 0 0)
 (
  cond (lk N (decide (40<(a.length:Int))))
  (
   kr ([]:List Int) false 0 0)
  (
   kn a b c d e f))
def Z5{ρ:Type}(N:Nat)(b:LI)(c d:Int)(a:LI)(e f:Int)(kn:LI->LI->I4 (Option ρ)):Option ρ :=
 z6d (
  cond (lk N (z0f.P a)) (
   bo (
    kn (z0f.g a) b e f c d)) none)
 (
  cond (lk N (z0f.P a)) (
   kn (z0f.g a) b e f c d) none)
def Z7{ρ:Type}(N:Nat)(a b:LI)(c d e f:Int)(kn:LI->LI->I4 (Option ρ)):Option ρ :=
 kn a b c d e f
def Z10{ρ:Type}(N:Nat)(b a:LI)(c d e f:Int)(kn:LI->LI->I6 (Option ρ)):Option ρ :=
 kn b a (a.length:Int) 0 c d e f
def Z13{ρ:Type}(N:Nat)(c b:LI)(f a h i d e:Int)(kn:LI->LI->I6 (Option ρ))(k0:LI->I4 (Option ρ))(kr:LI->Bool->I2 (Option ρ)):Option ρ :=
 cond (lk N (decide (a<f)))
 (
  cond (lk N (inB a b.length)) (
   cond (!(lk N ((z0g.g (d,(e,c)) (b.getD a.toNat 0)).2)))
   (
    kr ([]:List Int) false 0 0)
   (
    kn (z0g.g (d,(e,c)) (b.getD a.toNat 0)).1.2.2 b f (w64 (a+1)) h i (z0g.g (d,(e,c)) (b.getD a.toNat 0)).1.1 (z0g.g (d,(e,c)) (b.getD a.toNat 0)).1.2.1)) none)
 (
  k0 c h i d e)
def Z12L{ρ:Type}(N:Nat)(k0:LI->I4 (Option ρ))(kr:LI->Bool->I2 (Option ρ)):Nat->LI->LI->Int->Int->Int->Int->Int->Int->Option ρ
 | 0,_,_,_,_,_,_,_,_=>none
 | M+1,a,b,c,d,e,f,g,h=>Z13 N a b c d e f g h (λa b c d e f g h=>Z12L N k0 kr M a b c d e f g h) k0 kr
def Z12 N a b c d e f g h k0 kr:=(Z12L N k0 kr N a b c d e f g h:Option ρ)
def Z11 N a b c d e f g h kn kr:=(Z12 N a b c d e f g h kn kr:Option ρ)
def Z9 N a f b c d e kn kr:=(Z10 N a f b c d e (λa g h i b c d e=>Z11 N a g h i b c d e kn kr):Option ρ)
def Z14{ρ:Type}(N:Nat)(a:LI)(d e b c:Int)(kr:LI->Bool->I2 (Option ρ)):Option ρ :=
 kr a true b c
def Z8 N a f b c d e kr:=(Z9 N a f b c d e (λa b c d e=>Z14 N a b c d e kr) kr:Option ρ)
def Z6 N a b c d e f kr:=(Z7 N a b c d e f (λa b c d e f=>Z8 N a b c d e f kr):Option ρ)
def Z4 N a d e f b c kr:=(Z5 N a d e f b c (λg a b c h i=>Z6 N g a b c h i kr):Option ρ)
def Z2 N a b c d e f kr:=(Z3 N a b c d e f (λa b c d e f=>Z4 N a b c d e f kr) kr:Option ρ)
def Z0 N b a kr:=(Z1 N b a (λa c d e f g=>Z2 N a c d e f g kr):Option ρ)
def Spec:Prop:=∀ (v0:MT) (v1:LI),Ty.bd (.pair (.int .i64) (.pair (.int .i64) (.sl 0 (.int .i64)))) v0->Ty.bd (.sl 0 (.int .i64)) v1->∃N0,∀N,N0<=N->Z0 N v0 v1 (λv4_2 v5 v4_0 v4_1=>some ((),((v4_0,(v4_1,v4_2)),(v5,()))))=some ((),((g v0 v1).1,((g v0 v1).2,())))
def loop{ρ:Type}(N:Nat)(kr:List Int->Bool->Int->Int->Option ρ)(t0 t1:Int)(ks:List Int)(hk:ks.length<=maxLen):∀(M j:Nat) (m:Int×Int×List Int),j<=ks.length->ks.length-j<M ->
  Z12L N (λa b c d e=>Z14 N a b c d e kr) kr M m.2.2 ks (ks.length:Int) (j:Int) t0 t1 m.1 m.2.1=kr (z3o z0g.g m (ks.drop j)).1.2.2 (z3o z0g.g m (ks.drop j)).2 (z3o z0g.g m (ks.drop j)).1.1 (z3o z0g.g m (ks.drop j)).1.2.1:=by
 intro M
 induction M with
 | zero=>intro j _ _ h;omega
 | succ M ih =>
  intro j m hj hM
  simp only[Z12L,Z13]
  by_cases h:j<ks.length
  ·have hv:z0g.g (m.1,(m.2.1,m.2.2)) (ks.getD j 0)=z0g.g m (ks.getD j 0):=rfl
   rw[ct (dt (by omega)),ct (z1g h),Int.toNat_natCast,hv,z4c 0 h,z3o,z1d (by omega)]
   cases hb:(z0g.g m (ks.getD j 0)).2
   ·rw[ct' (by rw[z1t];rfl),if_neg (by simp)];rfl
   ·rw[cf' (by rw[z1t];rfl),if_pos rfl]
    exact ih (j+1) _ h (by omega)
  ·rw[cf (df (by omega)),List.drop_of_length_le (by omega),z3o];rfl
def ok:Spec:=λm ks hb hv=>⟨ks.length+10,λN hN=>by
 have e0:z1o.g (m.1,(m.2.1,m.2.2))=(z0t m&&!decide (z3u m=[])):=rfl
 simp only[Z0,Z1,Z2,Z3,e0,g,z1t]
 cases h1:(z0t m&&!decide (z3u m=[]))
 ·rfl
 have hs:z0t m=true:=by
  simp only[Bool.and_eq_true]at h1
  exact h1.1
 have hd:=z1r hs
 obtain⟨n,r,hn,hr,hn1,hn5,hnr,hr8,hl⟩:=z12 hd
 have hlen:m.2.2.length<=8*5:=by rw[hl];exact Nat.mul_le_mul hr8 hn5
 by_cases h2:(ks.length:Int)<=40
 ·rw[df (show ¬ (40:Int)<ks.length by omega),dt h2]
  simp only[Bool.not_true,cond_false,Z4,Z5]
  rw[ct (show z0f.P m.2.2=true from dt (by omega)),ct (show z0f.P m.2.2=true from dt (by omega))]
  simp only[bo,z30]
  simp only[Z6,Z7,Z8,Z9,Z10,Z11,Z12]
  have:=loop (ρ:=Unit×(Int×Int×List Int)×Bool×Unit) N (λt4_2 t5 t4_0 t4_1=>some ((),((t4_0,(t4_1,t4_2)),(t5,())))) 0 0 ks hv.1 N 0 m (by omega) (by omega)
  rw[show((0:Nat):Int)=0 from rfl,List.drop_zero]at this
  exact this
 ·rw[dt (show(40:Int)<ks.length by omega),df h2];rfl⟩
end z0k
end
end Go.Fw
namespace Go.Fw
section
variable {ρ : Type}
namespace z10
def g(m:Int×Int×List Int)(ks:List Int):(Int×Int×List Int)×Bool :=
 if((z23 m&&!decide (z3u m=[]))&&decide ((ks.length:Int)<=40))=true then z3o zoz m ks else noMat
end z10
namespace z10
def Z1{ρ:Type}(N:Nat)(a:MT)(b:LI)(kn:LI->I2 (LI->I2 (Option ρ))):Option ρ :=
 kn b a.1 a.2.1 a.2.2 0 0
def Z3{ρ:Type}(N:Nat)(a:LI)(b c:Int)(d:LI)(e f:Int)(kn:LI->I2 (LI->I2 (Option ρ)))(kr:LI->Bool->I2 (Option ρ)):Option ρ :=
 cond (!(lk N ((z1y.g (b,(c,d))))))
 (
  kr ([]:List Int) false 0 0)
 (
  cond (lk N (decide (40<(a.length:Int))))
  (
   kr ([]:List Int) false 0 0)
  (
   kn a b c d e f))
def Z5{ρ:Type}(N:Nat)(d:LI)(a b:Int)(c:LI)(e f:Int)(kn:LI->LI->I4 (Option ρ)):Option ρ :=
 cond (lk N (z0m.P (a,(b,c)))) (
  kn (z0m.g (a,(b,c))).2.2 d e f (z0m.g (a,(b,c))).1 (z0m.g (a,(b,c))).2.1) none
def Z8{ρ:Type}(N:Nat)(a b:LI)(c d e f:Int)(kn:LI->LI->I5 (Option ρ)):Option ρ :=
 kn a b 0 c d e f
def Z11{ρ:Type}(N:Nat)(c a:LI)(b f h d e:Int)(kn:LI->LI->I5 (Option ρ))(k0:LI->I4 (Option ρ))(kr:LI->Bool->I2 (Option ρ)):Option ρ :=
 cond (lk N (decide (b<(a.length:Int))))
 (
  cond (lk N (inB b a.length)) (
   bo (
    cond (!(lk N ((z0u.g (d,(e,c)) (a.getD b.toNat 0)).2)))
    (
     kr ([]:List Int) false 0 0)
    (
     kn (z0u.g (d,(e,c)) (a.getD b.toNat 0)).1.2.2 a (w64 (b+1)) f h (z0u.g (d,(e,c)) (a.getD b.toNat 0)).1.1 (z0u.g (d,(e,c)) (a.getD b.toNat 0)).1.2.1))) none)
 (
  k0 c f h d e)
def Z10L{ρ:Type}(N:Nat)(k0:LI->I4 (Option ρ))(kr:LI->Bool->I2 (Option ρ)):Nat->LI->LI->Int->Int->Int->Int->Int->Option ρ
 | 0,_,_,_,_,_,_,_=>none
 | M+1,a,b,c,d,e,f,g=>Z11 N a b c d e f g (λa b c d e f g=>Z10L N k0 kr M a b c d e f g) k0 kr
def Z10 N a b c d e f g k0 kr:=(Z10L N k0 kr N a b c d e f g:Option ρ)
def Z9 N a b c d e f g kn kr:=(Z10 N a b c d e f g kn kr:Option ρ)
def Z7 N a b c d e f kn kr:=(Z8 N a b c d e f (λa b g c d e f=>Z9 N a b g c d e f kn kr):Option ρ)
def Z12{ρ:Type}(N:Nat)(a:LI)(d e b c:Int)(kr:LI->Bool->I2 (Option ρ)):Option ρ :=
 kr a true b c
def Z6 N a f b c d e kr:=(Z7 N a f b c d e (λa b c d e=>Z12 N a b c d e kr) kr:Option ρ)
def Z4 N a d e f b c kr:=(Z5 N a d e f b c (λg a b c h i=>Z6 N g a b c h i kr):Option ρ)
def Z2 N a b c d e f kr:=(Z3 N a b c d e f (λa b c d e f=>Z4 N a b c d e f kr) kr:Option ρ)
def Z0 N b a kr:=(Z1 N b a (λa c d e f g=>Z2 N a c d e f g kr):Option ρ)
def Spec:Prop:=∀ (v0:MT) (v1:LI),Ty.bd (.pair (.int .i64) (.pair (.int .i64) (.sl 0 (.int .i64)))) v0->Ty.bd (.sl 0 (.int .i64)) v1->∃N0,∀N,N0<=N->Z0 N v0 v1 (λv4_2 v5 v4_0 v4_1=>some ((),((v4_0,(v4_1,v4_2)),(v5,()))))=some ((),((g v0 v1).1,((g v0 v1).2,())))
def loop{ρ:Type}(N:Nat)(kr:List Int->Bool->Int->Int->Option ρ)(t0 t1:Int)(ks:List Int)(hk:ks.length<=maxLen):∀(M j:Nat) (m:Int×Int×List Int),j<=ks.length->ks.length-j<M ->
  Z10L N (λa b c d e=>Z12 N a b c d e kr) kr M m.2.2 ks (j:Int) t0 t1 m.1 m.2.1=kr (z3o zoz m (ks.drop j)).1.2.2 (z3o zoz m (ks.drop j)).2 (z3o zoz m (ks.drop j)).1.1 (z3o zoz m (ks.drop j)).1.2.1:=by
 intro M
 induction M with
 | zero=>intro j _ _ h;omega
 | succ M ih =>
  intro j m hj hM
  simp only[Z10L,Z11]
  by_cases h:j<ks.length
  ·have hv:z0u.g (m.1,(m.2.1,m.2.2)) (ks.getD j 0)=zoz m (ks.getD j 0):=rfl
   rw[ct (dt (by omega)),ct (z1g h)]
   simp only[bo,z30]
   rw[Int.toNat_natCast,hv,z4c 0 h,z3o,z1d (by omega)]
   cases hb:(zoz m (ks.getD j 0)).2
   ·rw[ct' (by rw[z1t];rfl),if_neg (by simp)];rfl
   ·rw[cf' (by rw[z1t];rfl),if_pos rfl]
    exact ih (j+1) _ h (by omega)
  ·rw[cf (df (by omega)),List.drop_of_length_le (by omega),z3o];rfl
def ok:Spec:=λm ks hb hv=>⟨ks.length+10,λN hN=>by
 have e0:z1y.g (m.1,(m.2.1,m.2.2))=(z23 m&&!decide (z3u m=[])):=rfl
 simp only[Z0,Z1,Z2,Z3,e0,g,z1t]
 cases h1:(z23 m&&!decide (z3u m=[]))
 ·rfl
 have hs:z23 m=true:=by
  simp only[Bool.and_eq_true]at h1
  exact h1.1
 have hd:=z1r (z1m hs)
 obtain⟨n,r,hn,hr,hn1,hn5,hnr,hr8,hl⟩:=z12 hd
 have hlen:m.2.2.length<=8*5:=by rw[hl];exact Nat.mul_le_mul hr8 hn5
 by_cases h2:(ks.length:Int)<=40
 ·rw[df (show ¬ (40:Int)<ks.length by omega),dt h2]
  simp only[Bool.not_true,cond_false,Z4,Z5]
  rw[ct (show z0m.P (m.1,(m.2.1,m.2.2))=true from dt (show m.2.2.length<1099511627776 by omega))]
  simp only[Z6,Z7,Z8,Z9,Z10]
  have:=loop (ρ:=Unit×(Int×Int×List Int)×Bool×Unit) N (λt4_2 t5 t4_0 t4_1=>some ((),((t4_0,(t4_1,t4_2)),(t5,())))) 0 0 ks hv.1 N 0 m (by omega) (by omega)
  rw[show((0:Nat):Int)=0 from rfl,List.drop_zero]at this
  exact this
 ·rw[dt (show(40:Int)<ks.length by omega),df h2];rfl⟩
end z10
end
end Go.Fw
namespace Go.Fw
section
variable {ρ : Type}
namespace z2d
def g(m:Int×Int×List Int):Int×Int×List Int:=if(z0t m&&!decide (z3u m=[]))=true then z3p m else(0,0,[])
end z2d
namespace z2d
def Z0{ρ:Type}(N:Nat)(a:MT)(kr:LI->I2 (Option ρ)):Option ρ :=
 cond (!(lk N ((z1o.g a))))
 (
  kr ([]:List Int) 0 0)
 (
  cond (lk N (leB 0 (w64 (a.1*a.1))&&leB (w64 (a.1*a.1)) a.2.2.length)) (
   cond (lk N (z0f.P (a.2.2.take (w64 (a.1*a.1)).toNat))) (
    kr (z0f.g (a.2.2.take (w64 (a.1*a.1)).toNat)) a.1 a.1) none) none)
def Spec:Prop:=∀ (v0:MT),Ty.bd (.pair (.int .i64) (.pair (.int .i64) (.sl 0 (.int .i64)))) v0->∃N0,∀N,N0<=N->Z0 N v0 (λv2_2 v2_0 v2_1=>some ((),((v2_0,(v2_1,v2_2)),())))=some ((),((g v0),()))
def ok:Spec:=λm hb=>⟨0,λN hN=>by
 simp only[Z0,z1t,g,z1o.g]
 cases h:(z0t m&&!decide (z3u m=[]))
 ·rfl
 ·have hd:z3i m=true:=by
   simp only[Bool.and_eq_true]at h
   have hs:=h.1
   simp only[z23,z0t,Bool.and_eq_true]at hs
   first | exact hs.1.1 | exact hs.1
  obtain⟨h1,h2,h3,h4⟩:=zqj hd
  have hP:z0f.P (m.2.2.take (m.1*m.1).toNat)=true:=dt (by rw[List.length_take];omega)
  rw[h1,zbd h2,zbd h4,hP]
  rfl⟩
end z2d
end
end Go.Fw
