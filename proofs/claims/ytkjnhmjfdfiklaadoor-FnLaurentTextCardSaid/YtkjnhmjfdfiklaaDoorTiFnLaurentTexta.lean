/- The ties: the program's text comes to the plain functions. Nothing is assumed. -/
import Derived.Test.YtkjnhmjfdfiklaaDoorFza
import Derived.Test.YtkjnhmjfdfiklaaDoorFwd
import Derived.Test.YtkjnhmjfdfiklaaDoorProg
import Derived.Test.YtkjnhmjfdfiklaaDoorPuFnLaurentTexta
import Derived.Test.YtkjnhmjfdfiklaaDoorChecked
import Derived.Test.YtkjnhmjfdfiklaaDoorPuFnLaurentTextb
noncomputable section
set_option linter.defProp false
set_option linter.unusedSectionVars false
set_option linter.unusedVariables false
set_option linter.unusedSimpArgs false
set_option maxRecDepth 100000
namespace Go.Fw
open Go.Proofs
def bu:aL:=nb [
 (2,⟨false,.int .i64,[.int .i64 0],[],none,8⟩),
 (3,⟨false,.int .i64,[.int .i64 0],[],none,8⟩),
 (4,⟨false,.bool,[.bool false],[],none,1⟩),
 (5,⟨false,.int .u8,[.int .u8 0],[],none,1⟩),
 (6,⟨false,.int .u8,[.int .u8 0],[],none,1⟩),
 (7,⟨true,.pair (.int .i64) (.pair (.int .i64) (.pair (.bool) (.int .u8))),[.int .i64 0,.int .i64 0,.bool false,.int .u8 0],[(0,1,false),(1,1,false),(2,1,false),(3,1,false)],none,24⟩),
 (8,⟨true,.pair (.int .i64) (.pair (.int .i64) (.pair (.bool) (.int .u8))),[.int .i64 0,.int .i64 0,.bool false,.int .u8 0],[(0,1,false),(1,1,false),(2,1,false),(3,1,false)],none,24⟩),
 (9,⟨false,.str,[.str ByteArray.empty],[],none,16⟩),
 (10,⟨false,.str,[.str ByteArray.empty],[],none,16⟩),
 (11,⟨false,.str,[.str ByteArray.empty],[],none,16⟩),
 (12,⟨false,.int .u64,[.int .u64 0],[],none,8⟩),
 (13,⟨true,.pair (.str) (.int .u64),[.str ByteArray.empty,.int .u64 0],[(0,1,false),(1,1,false)],none,24⟩),
 (14,⟨true,.pair (.str) (.int .u64),[.str ByteArray.empty,.int .u64 0],[(0,1,false),(1,1,false)],none,24⟩),
 (20,⟨false,.err,[.err false],[],none,16⟩),
 (21,⟨false,.int .i32,[.int .i32 0],[],none,4⟩),
 (22,⟨false,.sl 3 (.int .i64),[.nil],[],some 3,24⟩),
 (28,⟨true,.pair (.int .i64) (.pair (.int .i64) (.sl 3 (.int .i64))),[.int .i64 0,.int .i64 0,.nil],[(0,1,false),(1,1,false),(2,1,false)],none,40⟩),
 (29,⟨true,.pair (.int .i64) (.pair (.int .i64) (.sl 3 (.int .i64))),[.int .i64 0,.int .i64 0,.nil],[(0,1,false),(1,1,false),(2,1,false)],none,40⟩),
 (34,⟨false,.sl 61 (.pair (.sl 3 (.int .i64)) (.int .i64)),[.nil],[],some 61,24⟩),
 (35,⟨true,.pair (.int .i64) (.sl 61 (.pair (.sl 3 (.int .i64)) (.int .i64))),[.int .i64 0,.nil],[(0,1,false),(1,1,false)],none,32⟩),
 (36,⟨true,.pair (.int .i64) (.sl 61 (.pair (.sl 3 (.int .i64)) (.int .i64))),[.int .i64 0,.nil],[(0,1,false),(1,1,false)],none,32⟩),
 (41,⟨false,.sl 5 (.int .u8),[.nil],[],some 5,24⟩),
 (47,⟨false,.sl 9 (.str),[.nil],[],some 9,24⟩),
 (52,⟨false,.err,[.err false],[],none,16⟩),
 (53,⟨false,.err,[.err false],[],none,16⟩),
 (60,⟨true,.pair (.sl 3 (.int .i64)) (.int .i64),[.nil,.int .i64 0],[(0,1,false),(1,1,false)],none,32⟩),
 (61,⟨true,.pair (.sl 3 (.int .i64)) (.int .i64),[.nil,.int .i64 0],[(0,1,false),(1,1,false)],none,32⟩),
 (80,⟨false,.sl 22 (.sl 3 (.int .i64)),[.nil],[],some 22,24⟩),
 (83,⟨true,.pair (.sl 5 (.int .u8)) (.pair (.int .i64) (.int .i64)),[.nil,.int .i64 0,.int .i64 0],[(0,1,false),(1,1,false),(2,1,false)],none,40⟩),
 (84,⟨true,.pair (.sl 5 (.int .u8)) (.pair (.int .i64) (.int .i64)),[.nil,.int .i64 0,.int .i64 0],[(0,1,false),(1,1,false),(2,1,false)],none,40⟩),
 (87,⟨false,.sl 91 (.pair (.int .i64) (.int .i64)),[.nil],[],some 91,24⟩),
 (90,⟨true,.pair (.int .i64) (.int .i64),[.int .i64 0,.int .i64 0],[(0,1,false),(1,1,false)],none,16⟩),
 (91,⟨true,.pair (.int .i64) (.int .i64),[.int .i64 0,.int .i64 0],[(0,1,false),(1,1,false)],none,16⟩),
 (103,⟨false,.int .i64,[.int .i64 0],[],none,8⟩),
 (110,⟨false,.int .u64,[.int .u64 0],[],none,8⟩),
 (118,⟨false,.int .u64,[.int .u64 0],[],none,8⟩),
 (122,⟨true,.pair (.str) (.pair (.str) (.err)),[.str ByteArray.empty,.str ByteArray.empty,.err false],[(0,1,false),(1,1,false),(2,1,false)],none,48⟩),
 (123,⟨true,.pair (.str) (.pair (.str) (.err)),[.str ByteArray.empty,.str ByteArray.empty,.err false],[(0,1,false),(1,1,false),(2,1,false)],none,48⟩),
 (135,⟨true,.str,[.str ByteArray.empty],[(0,1,false)],none,16⟩),
 (136,⟨true,.str,[.str ByteArray.empty],[(0,1,false)],none,16⟩),
 (137,⟨false,.int .u32,[.int .u32 0],[],none,4⟩),
 (146,⟨true,.pair (.int .u8) (.int .u8),[.int .u8 0,.int .u8 0],[(0,1,false),(1,1,false)],none,2⟩),
 (147,⟨true,.pair (.int .u8) (.int .u8),[.int .u8 0,.int .u8 0],[(0,1,false),(1,1,false)],none,2⟩),
 (162,⟨false,.int .u8,[.int .u8 0],[],none,1⟩),
 (163,⟨false,.int .u8,[.int .u8 0],[],none,1⟩),
 (165,⟨false,.int .i32,[.int .i32 0],[],none,4⟩),
 (166,⟨false,.int .i32,[.int .i32 0],[],none,4⟩)]
def bw:aG Tryd.prog bu:=aG.of (by kernel_rfl)
def kO : List (String × IntKind × List Int) := [("internal/strconv.uint64pow10", .u64, Lib.pow10Tab)]
def kP : List (String × IntKind) := [("internal/bytealg.MaxLen", .i64)]
def my : List String := ["strconv.ErrSyntax", "strconv.ErrRange"]
instance:Inv Tryd.prog:=Inv.tabs _ kO kP my
theorem Gj (w : World) (h : Inv.I Tryd.prog w) : Lib.TabIs Tryd.prog w "internal/strconv.uint64pow10" .u64 Lib.pow10Tab := Inv.tab_mem (q := kP) (es := my) ("internal/strconv.uint64pow10", .u64, Lib.pow10Tab) (List.mem_of_getElem? (i := 0) rfl) w h
theorem zg (w : World) (h : Inv.I Tryd.prog w) : ∃ g, Tryd.prog.globalNamed "internal/bytealg.MaxLen" = some g ∧ ∃ m, w.cell? ⟨g, 0, none⟩ = some (.int .i64 m) := Inv.int_mem (l := kO) (es := my) ("internal/bytealg.MaxLen", .i64) (List.mem_of_getElem? (i := 0) rfl) w h
theorem Gk (w : World) (h : Inv.I Tryd.prog w) : ∃ g, Tryd.prog.globalNamed "strconv.ErrSyntax" = some g ∧ ∃ v b, w.cell? ⟨g, 0, none⟩ = some v ∧ dq v b := Inv.err_mem (l := kO) (q := kP) "strconv.ErrSyntax" (List.mem_of_getElem? (i := 0) rfl) w h
theorem Gl (w : World) (h : Inv.I Tryd.prog w) : ∃ g, Tryd.prog.globalNamed "strconv.ErrRange" = some g ∧ ∃ v b, w.cell? ⟨g, 0, none⟩ = some v ∧ dq v b := Inv.err_mem (l := kO) (q := kP) "strconv.ErrRange" (List.mem_of_getElem? (i := 1) rfl) w h
end Go.Fw
namespace Go.Fw
variable {J : Type}
open Go.Proofs
def zh:bf:=⟨[⟨.sl 5 (.int .u8),false,false⟩],[⟨.bool,false,false⟩]⟩
def tB:aO:=⟨zh,none,λX=>((),((gN.g X.1),()))⟩
def zi:Gm:=bq
def Gn:ao Tryd.prog zi:=ao.nil
def Gp:aa:=⟨[],[],[],[],[]⟩
def Gq(a:List Int):St:=bG zh.ps (a,())
def Gr(a:Bool):St:=al [(2,xB a)] [] []
def Gs:aa:=⟨[2],[],[],[],[]⟩
def Gt:Nat->Option aa:=au [(1000000,Gs)]
abbrev Gu{J:Type}(N n:Nat)(U:St)(l:aa)(K:KT J):Option J:=ak zi bu Gt N (ba 99 (bv Tryd.f22) n) .n U (ap (some l) K)
def Gv N a (K:KT J):Gu N 1 (Gq a) Gp K =
 gN.Z0 N a (λb=>K .ret (Gr b)):=by kernel_rfl
def Gw(h:gN.Spec):ax Tryd.prog 22 tB :=
 bP Tryd.func22 bw Gn (λN X K=>Gv N X.1 K) (by kernel_rfl) λX hb hp=>by obtain⟨a,_⟩:=X;obtain⟨N,h⟩:=h a hb.1;exact⟨N,Eq.trans (by kernel_rfl) (h N (Nat.le_refl N))⟩
def Gx:ax Tryd.prog 22 tB:=Gw gN.ok
def Gy:cy:=⟨84,[(5,.int .u8)],.pair (.int .i64) (.int .i64)⟩
def zj:List PT:=[⟨.sl 5 (.int .u8),false,false⟩]
def tC:fB:=⟨Gy,zj,none,λX=>(bL.g X.1)⟩
def zk:Gm:=bq
def Gz:ao Tryd.prog zk:=ao.nil
def GA:aa:=⟨[],[],[],[],[]⟩
def GB(u0:Value)(a:List Int):St:=jv 5 (.int .u8) (zj.drop 1) u0 (a,())
def zl(u0:Value)(a:List Int):St:=al [(0,.c (.bor u0 5 (.int .u8) a))] [] []
def GC:aa:=⟨[0],[],[],[],[]⟩
def jD(u0:Value)(a:List Int)(b:Int):St:=al [(0,.c (.bor u0 5 (.int .u8) a)),(3,xi b)] [] []
def pg:aa:=⟨[0,3],[],[],[],[]⟩
def ph(u0:Value)(a:List Int)(b d:Int):St:=al [(0,.c (.bor u0 5 (.int .u8) a)),(3,xi b),(4,xi d)] [] []
def zm:aa:=⟨[0,3,4],[],[],[],[]⟩
def GD(u0:Value)(a:List Int)(b c:Int):St:=al [(2,xb 31)] [(31,(84,[.bor u0 5 (.int .u8) a,yi b,yi c]))] []
def GE:aa:=⟨[2],[31],[],[],[]⟩
def GF:Nat->Option aa:=au [(0,pg),(1000000,GE)]
abbrev mz{J:Type}(N n:Nat)(U:St)(l:aa)(K:KT J):Option J:=ak zk bu GF N (ba 99 (bv Tryd.f43) n) .n U (ap (some l) K)
def GG N u0 a (K:KT J):mz N 2 (GB u0 a) GC K =
 bL.Z1 N a (λa=>K .nrm (zl u0 a)):=by kernel_rfl
def GH N u0 a (K:KT J):mz N 5 (zl u0 a) pg K =
 bL.Z3 N a (λa b=>K .nrm (jD u0 a b)):=by kernel_rfl
def GI N u0 a b (K:KT J):mz N 19 (jD u0 a b) zm K =
 bL.Z6 N a b (λa b c=>K .nrm (ph u0 a b c)):=by kernel_rfl
def GJ N u0 a b c (K:KT J):mz N 75 (ph u0 a b c) zm K =
 bL.Z9 N a b c (λa b c=>K .nrm (ph u0 a b c)) (λa b=>K (.exit 0) (jD u0 a b)):=by kernel_rfl
def GK N u0 (K:KT J):=fh K (bL.Z8L N (λa b=>K (.exit 0) (jD u0 a b))) (λa b c k=>bL.Z9 N a b c k (λa b=>K (.exit 0) (jD u0 a b))) (λF a b c=>GJ N u0 a b c _) (by kernel_rfl)
def GL N u0 a b c (K:KT J):=vL (ph u0 a b c) (GK N u0 (jK pg K) N a b c) (by kernel_rfl)
def GM N u0 a b c (K:KT J):=vB 0 pg K (bL.Z7 N a b c (λa b=>K .nrm (jD u0 a b))) (GL N u0 a b c _) (by kernel_rfl)
def GN N u0 a b (K:KT J):=vQ (λk=>bL.Z6 N a b k) (GI N u0 a b _) (cv λa b c=>GM N u0 a b c K)
def GO N u0 a b (K:KT J):mz N 15 (jD u0 a b) GA K =
 bL.Z10 N a b (λc d e=>K .ret (GD u0 c d e)):=by kernel_rfl
def GP N u0 a b (K:KT J):=vQ (λk=>bL.Z5 N a b k) (GN N u0 a b _) (bT λa b=>GO N u0 a b K)
def GQ N u0 a (K:KT J):=vQ (λk=>bL.Z3 N a k) (GH N u0 a _) (bT λa b=>GP N u0 a b K)
def GR N u0 a (K:KT J):=vQ (λk=>bL.Z1 N a k) (GG N u0 a _) (funext λa=>GQ N u0 a K)
def GS(h:bL.Spec):ia Tryd.prog 43 tC :=
 Ev Tryd.func43 bw Gz (λN u X K=>GR N u X.1 K) (by kernel_rfl) λu0 X hb2 hp=>by obtain⟨a,_⟩:=X;obtain⟨N,h⟩:=h [u0] a hb2.1;exact⟨N,Eq.trans (by kernel_rfl) (h N (Nat.le_refl N))⟩
def zn:ia Tryd.prog 43 tC:=GS bL.ok
def zo:cy:=⟨84,[(5,.int .u8)],.pair (.int .i64) (.int .i64)⟩
def zp:List PT:=[]
def GT:List PT:=[⟨.int .i64,false,false⟩]
def tD:dH:=⟨zo,zp,true,GT,(some λX=>aC.P X.1.1.1 X.1.2),λX=>((aC.g X.1.1.1 X.1.2).1,((),((aC.g X.1.1.1 X.1.2).2,())))⟩
def zq:Gm:=bq
def GU:ao Tryd.prog zq:=ao.nil
def GV:aa:=⟨[],[],[],[],[]⟩
def GW(u0:Value)(b0:List Int)(r0:Int×Int):St:=db zo zp [u0] (((b0,()),r0),())
def GX(u0:Value)(a:Int)(b:List Int)(c d:Int):St:=al [(2,xi a),(100000,xb 100000)] [(100000,(84,[.bor u0 5 (.int .u8) b,yi c,yi d]))] []
def GY:aa:=⟨[2,100000],[100000],[],[],[]⟩
def GZ:Nat->Option aa:=au [(1000000,GY)]
abbrev G0{J:Type}(N n:Nat)(U:St)(l:aa)(K:KT J):Option J:=ak zq bu GZ N (ba 99 (bv Tryd.f68) n) .n U (ap (some l) K)
def G1 N u0 b0 r0 (K:KT J):G0 N 1 (GW u0 b0 r0) GV K =
 aC.Z0 N b0 r0 (λa b c d=>K .ret (GX u0 a b c d)):=by kernel_rfl
def G3(h:aC.Spec):cW Tryd.prog 68 tD :=
 jw Tryd.func68 bw GU (λN u X K=>G1 N u X.1.1.1 X.1.2 K) (by kernel_rfl) λu0 X hb1 hb2 hp=>by obtain⟨⟨⟨b0,_⟩,r0⟩,_⟩:=X;obtain⟨N,h⟩:=h [u0] b0 r0 hb1.1 hp;exact⟨N,Eq.trans (by kernel_rfl) (h N (Nat.le_refl N))⟩
def G4:cW Tryd.prog 68 tD:=G3 aC.ok
def zr:cy:=⟨84,[(5,.int .u8)],.pair (.int .i64) (.int .i64)⟩
def tE:List PT:=[⟨.int .i64,false,false⟩]
def zt:List PT:=[⟨.int .i64,false,false⟩]
def fo:dH:=⟨zr,tE,true,zt,(some λX=>aB.P X.1.1.1 X.1.2 X.2.1),λX=>((aB.g X.1.1.1 X.1.2 X.2.1).1,((),((aB.g X.1.1.1 X.1.2 X.2.1).2,())))⟩
def zu:Gm:=addV bq 68 tD
def G5:ao Tryd.prog zu:=(ao.nil).addV G4 (by kernel_rfl)
def G6:aa:=⟨[],[],[],[],[]⟩
def G7(u0:Value)(b0:List Int)(r0:Int×Int)(a:Int):St:=db zr tE [u0] (((b0,()),r0),(a,()))
def G8(u0:Value)(a:Int)(b:List Int)(c d:Int):St:=al [(4,xi a),(100000,xb 100000)] [(100000,(84,[.bor u0 5 (.int .u8) b,yi c,yi d]))] []
def G9:aa:=⟨[4,100000],[100000],[],[],[]⟩
def Ha:Nat->Option aa:=au [(1000000,G9)]
abbrev Hb{J:Type}(N n:Nat)(U:St)(l:aa)(K:KT J):Option J:=ak zu bu Ha N (ba 99 (bv Tryd.f45) n) .n U (ap (some l) K)
def Hc N u0 b0 r0 a (K:KT J):Hb N 1 (G7 u0 b0 r0 a) G6 K =
 aB.Z0 N b0 r0 a (λb c d e=>K .ret (G8 u0 b c d e)):=by kernel_rfl
def He(h:aB.Spec):cW Tryd.prog 45 fo :=
 jw Tryd.func45 bw G5 (λN u X K=>Hc N u X.1.1.1 X.1.2 X.2.1 K) (by kernel_rfl) λu0 X hb1 hb2 hp=>by obtain⟨⟨⟨b0,_⟩,r0⟩,a,_⟩:=X;obtain⟨N,h⟩:=h [u0] b0 r0 a hb1.1 hp;exact⟨N,Eq.trans (by kernel_rfl) (h N (Nat.le_refl N))⟩
def jE:cW Tryd.prog 45 fo:=He aB.ok
def zw:cy:=⟨84,[(5,.int .u8)],.pair (.int .i64) (.int .i64)⟩
def zx:List PT:=[⟨.int .i64,false,false⟩]
def Hf:List PT:=[⟨.sl 3 (.int .i64),false,false⟩]
def tF:dH:=⟨zw,zx,true,Hf,(some λX=>bH.P X.1.1.1 X.1.2 X.2.1),λX=>((bH.g X.1.1.1 X.1.2 X.2.1).1,((),((bH.g X.1.1.1 X.1.2 X.2.1).2,())))⟩
def zy:Gm:=addV bq 45 fo
def Hg:ao Tryd.prog zy:=(ao.nil).addV jE (by kernel_rfl)
def Hh:aa:=⟨[],[],[],[],[]⟩
def Hi(u0:Value)(b0:List Int)(r0:Int×Int)(a:Int):St:=db zw zx [u0] (((b0,()),r0),(a,()))
def zz(u0:Value)(a:Int)(b:List Int)(c d:Int):St:=al [(0,xb 100000),(1,xi a),(100000,xb 100000)] [(100000,(84,[.bor u0 5 (.int .u8) b,yi c,yi d]))] []
def Hj:aa:=⟨[0,1,100000],[100000],[],[],[]⟩
def zA(u0:Value)(a:LI)(b:Int)(c:List Int)(d e:Int):St:=al [(0,xb 100000),(1,xi b),(5,xo 1000320),(100000,xb 100000)] [(100000,(84,[.bor u0 5 (.int .u8) c,yi d,yi e]))] [(1000320,(⟨3,.int .i64,a,true,false⟩:ah))]
def Hl:aa:=⟨[0,1,5,100000],[100000],[],[],[(⟨false,5,0⟩,1000320)]⟩
def pi(u0:Value)(a:LI)(b c:Int)(d:List Int)(e f:Int):St:=al [(0,xb 100000),(1,xi b),(5,xo 1000320),(6,xi c),(100000,xb 100000)] [(100000,(84,[.bor u0 5 (.int .u8) d,yi e,yi f]))] [(1000320,(⟨3,.int .i64,a,true,false⟩:ah))]
def zB:aa:=⟨[0,1,5,6,100000],[100000],[],[],[(⟨false,5,0⟩,1000320)]⟩
def mA(u0:Value)(a:LI)(b:List Int)(c d:Int):St:=al [(5,xo 1000320),(100000,xb 100000)] [(100000,(84,[.bor u0 5 (.int .u8) b,yi c,yi d]))] [(1000320,(⟨3,.int .i64,a,true,false⟩:ah))]
def tG:aa:=⟨[5,100000],[100000],[],[],[(⟨false,5,0⟩,1000320)]⟩
def Hm(u0:Value)(a:LI)(b:List Int)(c d:Int):St:=al [(4,xo 1000256),(100000,xb 100000)] [(100000,(84,[.bor u0 5 (.int .u8) b,yi c,yi d]))] [(1000256,(⟨3,.int .i64,a,true,false⟩:ah))]
def Hn:aa:=⟨[4,100000],[100000],[],[],[(⟨false,4,0⟩,1000256)]⟩
def Ho:Nat->Option aa:=au [(0,tG),(1000000,Hn)]
abbrev mB{J:Type}(N n:Nat)(U:St)(l:aa)(K:KT J):Option J:=ak zy bu Ho N (ba 99 (bv Tryd.f70) n) .n U (ap (some l) K)
def Hp N u0 b0 r0 a (K:KT J):mB N 2 (Hi u0 b0 r0 a) Hj K =
 bH.Z1 N b0 r0 a (λa b c d=>K .nrm (zz u0 a b c d)):=by kernel_rfl
def Hq N u0 a b c d (K:KT J):mB N 5 (zz u0 a b c d) Hl K =
 bH.Z3 N a b c d (λe a b c d=>K .nrm (zA u0 e a b c d)):=by kernel_rfl
def Hr N u0 a b c d e (K:KT J):mB N 19 (zA u0 a b c d e) zB K =
 bH.Z6 N a b c d e (λa b f c d e=>K .nrm (pi u0 a b f c d e)):=by kernel_rfl
def Hs N u0 a e f b c d (K:KT J):mB N 75 (pi u0 a e f b c d) zB K =
 bH.Z9 N a e f b c d (λa e f b c d=>K .nrm (pi u0 a e f b c d)) (λa b c d=>K (.exit 0) (mA u0 a b c d)):=by kernel_rfl
def Ht N u0 (K:KT J):=mb K (bH.Z8L N (λa b c d=>K (.exit 0) (mA u0 a b c d))) (λa e f b c d k=>bH.Z9 N a e f b c d k (λa b c d=>K (.exit 0) (mA u0 a b c d))) (λF a e f b c d=>Hs N u0 a e f b c d _) (by kernel_rfl)
def Hu N u0 a b c d e f (K:KT J):=vL (pi u0 a b c d e f) (Ht N u0 (jK tG K) N a b c d e f) (by kernel_rfl)
def Hv N u0 a e f b c d (K:KT J):=vB 0 tG K (bH.Z7 N a e f b c d (λa b c d=>K .nrm (mA u0 a b c d))) (Hu N u0 a e f b c d _) (by kernel_rfl)
def Hw N u0 a b c d e (K:KT J):=vQ (λk=>bH.Z6 N a b c d e k) (Hr N u0 a b c d e _) (iq λa b f c d e=>Hv N u0 a b f c d e K)
def Hx N u0 d a b c (K:KT J):mB N 15 (mA u0 d a b c) Hh K =
 bH.Z10 N d a b c (λe a b c=>K .ret (Hm u0 e a b c)):=by kernel_rfl
def Hy N u0 a e b c d (K:KT J):=vQ (λk=>bH.Z5 N a e b c d k) (Hw N u0 a e b c d _) (fe λa b c d=>Hx N u0 a b c d K)
def Hz N u0 a b c d (K:KT J):=vQ (λk=>bH.Z3 N a b c d k) (Hq N u0 a b c d _) (fg λe a b c d=>Hy N u0 e a b c d K)
def HA N u0 b0 r0 a (K:KT J):=vQ (λk=>bH.Z1 N b0 r0 a k) (Hp N u0 b0 r0 a _) (fe λa b c d=>Hz N u0 a b c d K)
def HB(h:bH.Spec):cW Tryd.prog 70 tF :=
 jw Tryd.func70 bw Hg (λN u X K=>HA N u X.1.1.1 X.1.2 X.2.1 K) (by kernel_rfl) λu0 X hb1 hb2 hp=>by obtain⟨⟨⟨b0,_⟩,r0⟩,a,_⟩:=X;obtain⟨N,h⟩:=h [u0] b0 r0 a hb1.1 hp;exact⟨N,Eq.trans (by kernel_rfl) (h N (Nat.le_refl N))⟩
def HC:cW Tryd.prog 70 tF:=HB bH.ok
def zC:bf:=⟨[⟨.sl 3 (.int .i64),false,false⟩],[⟨.int .i64,false,false⟩]⟩
def tH:aO:=⟨zC,none,λX=>((),((cY.g X.1),()))⟩
def zD:Gm:=bq
def HD:ao Tryd.prog zD:=ao.nil
def HE:aa:=⟨[],[],[],[],[]⟩
def HF(a:LI):St:=bG zC.ps (a,())
def zE(a:LI):St:=al [(0,.c (.sn 3 tI a none))] [] []
def HG:aa:=⟨[0],[],[],[],[]⟩
def zF(a:LI)(b:Int):St:=al [(0,.c (.sn 3 tI a none)),(3,xi b)] [] []
def HH:aa:=⟨[0,3],[],[],[],[]⟩
def pj(a:LI)(b d:Int):St:=al [(0,.c (.sn 3 tI a none)),(3,xi b),(4,xi d)] [] []
def zG:aa:=⟨[0,3,4],[],[],[],[]⟩
def mC(a:Int):St:=al [(3,xi a)] [] []
def tJ:aa:=⟨[3],[],[],[],[]⟩
def HI(a:Int):St:=al [(2,xi a)] [] []
def HJ:aa:=⟨[2],[],[],[],[]⟩
def HK:Nat->Option aa:=au [(0,tJ),(1000000,HJ)]
abbrev mD{J:Type}(N n:Nat)(U:St)(l:aa)(K:KT J):Option J:=ak zD bu HK N (ba 99 (bv Tryd.f69) n) .n U (ap (some l) K)
def HL N a (K:KT J):mD N 2 (HF a) HG K =
 cY.Z1 N a (λa=>K .nrm (zE a)):=by kernel_rfl
def HM N a (K:KT J):mD N 5 (zE a) HH K =
 cY.Z3 N a (λa b=>K .nrm (zF a b)):=by kernel_rfl
def HN N a b (K:KT J):mD N 19 (zF a b) zG K =
 cY.Z6 N a b (λa b c=>K .nrm (pj a b c)):=by kernel_rfl
def HO N b a c (K:KT J):mD N 75 (pj b a c) zG K =
 cY.Z9 N b a c (λb a c=>K .nrm (pj b a c)) (λa=>K (.exit 0) (mC a)):=by kernel_rfl
def HP N (K:KT J):=fh K (cY.Z8L N (λa=>K (.exit 0) (mC a))) (λb a c k=>cY.Z9 N b a c k (λa=>K (.exit 0) (mC a))) (λF b a c=>HO N b a c _) (by kernel_rfl)
def HQ N a b c (K:KT J):=vL (pj a b c) (HP N (jK tJ K) N a b c) (by kernel_rfl)
def HR N b a c (K:KT J):=vB 0 tJ K (cY.Z7 N b a c (λa=>K .nrm (mC a))) (HQ N b a c _) (by kernel_rfl)
def HS N a b (K:KT J):=vQ (λk=>cY.Z6 N a b k) (HN N a b _) (cv λa b c=>HR N a b c K)
def HT N a (K:KT J):mD N 15 (mC a) HE K =
 cY.Z10 N a (λb=>K .ret (HI b)):=by kernel_rfl
def HU N b a (K:KT J):=vQ (λk=>cY.Z5 N b a k) (HS N b a _) (funext λa=>HT N a K)
def HV N a (K:KT J):=vQ (λk=>cY.Z3 N a k) (HM N a _) (bT λa b=>HU N a b K)
def HW N a (K:KT J):=vQ (λk=>cY.Z1 N a k) (HL N a _) (funext λa=>HV N a K)
def HX(h:cY.Spec):ax Tryd.prog 69 tH :=
 bP Tryd.func69 bw HD (λN X K=>HW N X.1 K) (by kernel_rfl) λX hb hp=>by obtain⟨a,_⟩:=X;obtain⟨N,h⟩:=h a hb.1;exact⟨N,Eq.trans (by kernel_rfl) (h N (Nat.le_refl N))⟩
def HY:ax Tryd.prog 69 tH:=HX cY.ok
def zH:bf:=⟨[⟨.sl 91 (.pair (.int .i64) (.int .i64)),false,false⟩],[⟨.sl 91 (.pair (.int .i64) (.int .i64)),false,false⟩]⟩
def tK:aO:=⟨zH,(some λX=>aF.P X.1),λX=>((),((aF.g X.1),()))⟩
def zI:Gm:=bq
def HZ:ao Tryd.prog zI:=ao.nil
def H0:aa:=⟨[],[],[],[],[]⟩
def H1(a:List (Int×Int)):St:=bG zH.ps (a,())
def zJ(a:List (Int×Int)):St:=al [(0,.c (.sn 91 (.pair tI tI) a none))] [] []
def H2:aa:=⟨[0],[],[],[],[]⟩
def iG(a:List (Int×Int)):St:=al [(3,xo 1000192)] [] [(1000192,(⟨91,.pair tI tI,a,true,false⟩:ah))]
def pk:aa:=⟨[3],[],[],[],[(⟨false,3,0⟩,1000192)]⟩
def gJ(a:List (Int×Int))(b:Int):St:=al [(3,xo 1000192),(4,xi b)] [] [(1000192,(⟨91,.pair tI tI,a,true,false⟩:ah))]
def kQ:aa:=⟨[3,4],[],[],[],[(⟨false,3,0⟩,1000192)]⟩
def zK(a b:List (Int×Int))(c:Int):St:=al [(3,xo 1000192),(4,xi c),(5,xo 1000320)] [] [(1000192,(⟨91,.pair tI tI,a,true,false⟩:ah)),(1000320,(⟨91,.pair tI tI,b,true,false⟩:ah))]
def H3:aa:=⟨[3,4,5],[],[],[],[(⟨false,3,0⟩,1000192),(⟨false,5,0⟩,1000320)]⟩
def fp(a b:List (Int×Int))(c d:Int):St:=al [(3,xo 1000192),(4,xi c),(5,xo 1000320),(6,xi d)] [] [(1000192,(⟨91,.pair tI tI,a,true,false⟩:ah)),(1000320,(⟨91,.pair tI tI,b,true,false⟩:ah))]
def iH:aa:=⟨[3,4,5,6],[],[],[],[(⟨false,3,0⟩,1000192),(⟨false,5,0⟩,1000320)]⟩
def zL(a b:List (Int×Int))(c d e:Int):St:=al [(3,xo 1000192),(4,xi c),(5,xo 1000320),(6,xi d),(7,xi e)] [] [(1000192,(⟨91,.pair tI tI,a,true,false⟩:ah)),(1000320,(⟨91,.pair tI tI,b,true,false⟩:ah))]
def H4:aa:=⟨[3,4,5,6,7],[],[],[],[(⟨false,3,0⟩,1000192),(⟨false,5,0⟩,1000320)]⟩
def zM(a b:List (Int×Int))(c d e f:Int):St:=al [(3,xo 1000192),(4,xi c),(5,xo 1000320),(6,xi d),(7,xi e),(8,xi f)] [] [(1000192,(⟨91,.pair tI tI,a,true,false⟩:ah)),(1000320,(⟨91,.pair tI tI,b,true,false⟩:ah))]
def H5:aa:=⟨[3,4,5,6,7,8],[],[],[],[(⟨false,3,0⟩,1000192),(⟨false,5,0⟩,1000320)]⟩
def zN(a b:List (Int×Int))(c d e f g:Int):St:=al [(3,xo 1000192),(4,xi c),(5,xo 1000320),(6,xi d),(7,xi e),(8,xi f),(9,xi g)] [] [(1000192,(⟨91,.pair tI tI,a,true,false⟩:ah)),(1000320,(⟨91,.pair tI tI,b,true,false⟩:ah))]
def H6:aa:=⟨[3,4,5,6,7,8,9],[],[],[],[(⟨false,3,0⟩,1000192),(⟨false,5,0⟩,1000320)]⟩
def pm(a b:List (Int×Int))(c d e f g h:Int):St:=al [(3,xo 1000192),(4,xi c),(5,xo 1000320),(6,xi d),(7,xi e),(8,xi f),(9,xi g),(10,xi h)] [] [(1000192,(⟨91,.pair tI tI,a,true,false⟩:ah)),(1000320,(⟨91,.pair tI tI,b,true,false⟩:ah))]
def zO:aa:=⟨[3,4,5,6,7,8,9,10],[],[],[],[(⟨false,3,0⟩,1000192),(⟨false,5,0⟩,1000320)]⟩
def kR(a:List (Int×Int))(b:Int):St:=al [(4,xi b),(5,xo 1000320)] [] [(1000320,(⟨91,.pair tI tI,a,true,false⟩:ah))]
def tL:aa:=⟨[4,5],[],[],[],[(⟨false,5,0⟩,1000320)]⟩
def zP(a b:List (Int×Int)):St:=al [(3,xo 1000192),(11,xo 1000704)] [] [(1000192,(⟨91,.pair tI tI,a,true,false⟩:ah)),(1000704,(⟨91,.pair tI tI,b,true,false⟩:ah))]
def H7:aa:=⟨[3,11],[],[],[],[(⟨false,3,0⟩,1000192),(⟨false,11,0⟩,1000704)]⟩
def gd(a b:List (Int×Int))(c:Int):St:=al [(3,xo 1000192),(11,xo 1000704),(12,xi c)] [] [(1000192,(⟨91,.pair tI tI,a,true,false⟩:ah)),(1000704,(⟨91,.pair tI tI,b,true,false⟩:ah))]
def mE:aa:=⟨[3,11,12],[],[],[],[(⟨false,3,0⟩,1000192),(⟨false,11,0⟩,1000704)]⟩
def H8(a b:List (Int×Int))(c:Int):St:=al [(3,xo 1000192),(11,xo 1000704),(12,xi c)] [] [(1000192,(⟨91,.pair tI tI,a,true,false⟩:ah)),(1000704,(⟨91,.pair tI tI,b,true,false⟩:ah))]
def zQ:aa:=⟨[3,11,12],[],[⟨⟨false,11,0⟩,30000000,91,.pair (.int .i64) (.int .i64),true⟩],[],[(⟨false,3,0⟩,1000192),(⟨false,11,0⟩,1000704)]⟩
def kS(a:List (Int×Int)):St:=al [(11,xo 1000704)] [] [(1000704,(⟨91,.pair tI tI,a,true,false⟩:ah))]
def tN:aa:=⟨[11],[],[],[],[(⟨false,11,0⟩,1000704)]⟩
def H9(a:List (Int×Int)):St:=al [(2,xo 1000128)] [] [(1000128,(⟨91,.pair tI tI,a,true,false⟩:ah))]
def Ia:aa:=⟨[2],[],[],[],[(⟨false,2,0⟩,1000128)]⟩
def Ib:Nat->Option aa:=au [(4,iH),(3,iH),(2,tL),(1,kQ),(0,pk),(7,zQ),(6,tN),(1000000,Ia)]
abbrev cS{J:Type}(N n:Nat)(U:St)(l:aa)(K:KT J):Option J:=ak zI bu Ib N (ba 99 (bv Tryd.f72) n) .n U (ap (some l) K)
def Ic N a (K:KT J):cS N 2 (H1 a) H2 K =
 aF.Z1 N a (λa=>K .nrm (zJ a)):=by kernel_rfl
def Id N a (K:KT J):cS N 5 (zJ a) pk K =
 aF.Z3 N a (λb=>K .nrm (iG b)):=by kernel_rfl
def Ie N a (K:KT J):cS N 19 (iG a) kQ K =
 aF.Z6 N a (λa b=>K .nrm (gJ a b)):=by kernel_rfl
def If N a b (K:KT J):cS N 139 (gJ a b) kQ K =
 aF.Z10 N a b (λa b=>K .nrm (gJ a b)) (λa=>K (.exit 0) (iG a)):=by kernel_rfl
def Ig N a b (K:KT J):cS N 1099 (gJ a b) H3 K =
 aF.Z14 N a b (λa c b=>K .nrm (zK a c b)):=by kernel_rfl
def Ih N a b c (K:KT J):cS N 4683 (zK a b c) iH K =
 aF.Z17 N a b c (λa b c d=>K .nrm (fp a b c d)):=by kernel_rfl
def Ii N c a b d (K:KT J):cS N 35403 (fp c a b d) iH K =
 aF.Z21 N c a b d (λc a b d=>K .nrm (fp c a b d)) (λa b=>K (.exit 2) (kR a b)):=by kernel_rfl
def Ij N a b c d (K:KT J):cS N 281163 (fp a b c d) H4 K =
 aF.Z25 N a b c d (λa b c d e=>K .nrm (zL a b c d e)):=by kernel_rfl
def Ik N a b c d e (K:KT J):cS N 674379 (zL a b c d e) H5 K =
 aF.Z27 N a b c d e (λa b c d e f=>K .nrm (zM a b c d e f)):=by kernel_rfl
def Il N a b c d e f (K:KT J):cS N 1460811 (zM a b c d e f) H6 K =
 aF.Z29 N a b c d e f (λa b c d e f g=>K .nrm (zN a b c d e f g)):=by kernel_rfl
def Im N a b c d e f g (K:KT J):cS N 3033675 (zN a b c d e f g) zO K =
 aF.Z31 N a b c d e f g (λa b c d e f g h=>K .nrm (pm a b c d e f g h)):=by kernel_rfl
def In N a b c d e f g h (K:KT J):cS N 10373707 (pm a b c d e f g h) zO K =
 aF.Z34 N a b c d e f g h (λa b c d e f g h=>K .nrm (pm a b c d e f g h)) (λa b c d=>K (.exit 4) (fp a b c d)):=by kernel_rfl
def Io N (K:KT J):=sH K (aF.Z33L N (λa b c d=>K (.exit 4) (fp a b c d))) (λa b c d e f g h k=>aF.Z34 N a b c d e f g h k (λa b c d=>K (.exit 4) (fp a b c d))) (λF a b c d e f g h=>In N a b c d e f g h _) (by kernel_rfl)
def Ip N a b c d e f g h (K:KT J):=vL (pm a b c d e f g h) (Io N (jK iH K) N a b c d e f g h) (by kernel_rfl)
def Iq N a b c d e f g h (K:KT J):=vB 4 iH K (aF.Z32 N a b c d e f g h (λa b c d=>K .nrm (fp a b c d))) (Ip N a b c d e f g h _) (by kernel_rfl)
def Ir N a b c d e f g (K:KT J):=vQ (λk=>aF.Z31 N a b c d e f g k) (Im N a b c d e f g _) (w7 λa b c d e f g h=>Iq N a b c d e f g h K)
def Is N a b c d e f (K:KT J):=vQ (λk=>aF.Z29 N a b c d e f k) (Il N a b c d e f _) (w6 λa b c d e f g=>Ir N a b c d e f g K)
def It N a b c d e (K:KT J):=vQ (λk=>aF.Z27 N a b c d e k) (Ik N a b c d e _) (iq λa b c d e f=>Is N a b c d e f K)
def Iu N a b c d (K:KT J):=vQ (λk=>aF.Z25 N a b c d k) (Ij N a b c d _) (fg λa b c d e=>It N a b c d e K)
def Iv N a b c d (K:KT J):=vB 3 iH K (aF.Z23 N a b c d (λa b c d=>K .nrm (fp a b c d))) (Iu N a b c d _) (by kernel_rfl)
def Iw N a b c d (K:KT J):cS N 117323 (fp a b c d) iH K =
 aF.Z35 N a b c d (λa b c d=>K .nrm (fp a b c d)):=by kernel_rfl
def Ix N a b c d (K:KT J):=vQ (λk=>aF.Z23 N a b c d k) (Iv N a b c d _) (fe λa b c d=>Iw N a b c d K)
def Iy N c a b d (K:KT J):=vQ (λk=>aF.Z21 N c a b d k (λa b=>K (.exit 2) (kR a b))) (Ii N c a b d _) (fe λc a b d=>Ix N c a b d K)
def Iz N (K:KT J):=oI K (aF.Z19L N (λa b=>K (.exit 2) (kR a b))) (λc a b d k=>aF.Z20 N c a b d k (λa b=>K (.exit 2) (kR a b))) (λF c a b d=>Iy N c a b d _) (by kernel_rfl)
def IA N a b c d (K:KT J):=vL (fp a b c d) (Iz N (jK tL K) N a b c d) (by kernel_rfl)
def IB N c a b d (K:KT J):=vB 2 tL K (aF.Z18 N c a b d (λa b=>K .nrm (kR a b))) (IA N c a b d _) (by kernel_rfl)
def IC N a b c (K:KT J):=vQ (λk=>aF.Z17 N a b c k) (Ih N a b c _) (fe λa b c d=>IB N a b c d K)
def ID N b a (K:KT J):cS N 3659 (kR b a) kQ K =
 aF.Z36 N b a (λc a=>K .nrm (gJ c a)):=by kernel_rfl
def IE N c a b (K:KT J):=vQ (λk=>aF.Z16 N c a b k) (IC N c a b _) (bT λa b=>ID N a b K)
def IF N a b (K:KT J):=vQ (λk=>aF.Z14 N a b k) (Ig N a b _) (cv λa c b=>IE N a c b K)
def IG N a b (K:KT J):=vB 1 kQ K (aF.Z12 N a b (λa b=>K .nrm (gJ a b))) (IF N a b _) (by kernel_rfl)
def IH N a b (K:KT J):cS N 459 (gJ a b) kQ K =
 aF.Z37 N a b (λa b=>K .nrm (gJ a b)):=by kernel_rfl
def II N a b (K:KT J):=vQ (λk=>aF.Z12 N a b k) (IG N a b _) (bT λa b=>IH N a b K)
def IJ N a b (K:KT J):=vQ (λk=>aF.Z10 N a b k (λa=>K (.exit 0) (iG a))) (If N a b _) (bT λa b=>II N a b K)
def IK N (K:KT J):=w9 K (aF.Z8L N (λa=>K (.exit 0) (iG a))) (λa b k=>aF.Z9 N a b k (λa=>K (.exit 0) (iG a))) (λF a b=>IJ N a b _) (by kernel_rfl)
def IL N a b (K:KT J):=vL (gJ a b) (IK N (jK pk K) N a b) (by kernel_rfl)
def IM N a b (K:KT J):=vB 0 pk K (aF.Z7 N a b (λa=>K .nrm (iG a))) (IL N a b _) (by kernel_rfl)
def IN N a (K:KT J):=vQ (λk=>aF.Z6 N a k) (Ie N a _) (bT λa b=>IM N a b K)
def zIO N a (K:KT J):cS N 23 (iG a) H7 K =
 aF.Z39 N a (λa b=>K .nrm (zP a b)):=by kernel_rfl
def IP N a b (K:KT J):cS N 79 (zP a b) mE K =
 aF.Z42 N a b (λa b c=>K .nrm (gd a b c)):=by kernel_rfl
def IQ N b a c (K:KT J):cS N 559 (gd b a c) mE K =
 aF.Z46 N b a c (λb a c=>K .nrm (gd b a c)) (λa=>K (.exit 6) (kS a)):=by kernel_rfl
def IR N a b c (K:KT J):cS N 4399 (gd a b c) mE K =
 aF.Z50 N a b c (λa b c=>K .nrm (gd a b c)):=by kernel_rfl
def IS N a b c (K:KT J):cS N 6447 (gd a b c) zQ K =
 aF.Z51 N a b c (λa b c=>K .nrm (H8 a b c)):=by kernel_rfl
def IT N a b c (K:KT J):=vQ (λk=>aF.Z50 N a b c k) (IR N a b c _) (cv λa b c=>IS N a b c K)
def IU N a b c (K:KT J):=vB 7 mE K (aF.Z48 N a b c (λa b c=>K .nrm (gd a b c))) (IT N a b c _) (by kernel_rfl)
def IV N a b c (K:KT J):cS N 1839 (gd a b c) mE K =
 aF.Z52 N a b c (λa b c=>K .nrm (gd a b c)):=by kernel_rfl
def IW N a b c (K:KT J):=vQ (λk=>aF.Z48 N a b c k) (IU N a b c _) (cv λa b c=>IV N a b c K)
def IX N b a c (K:KT J):=vQ (λk=>aF.Z46 N b a c k (λa=>K (.exit 6) (kS a))) (IQ N b a c _) (cv λb a c=>IW N b a c K)
def IY N (K:KT J):=fh K (aF.Z44L N (λa=>K (.exit 6) (kS a))) (λb a c k=>aF.Z45 N b a c k (λa=>K (.exit 6) (kS a))) (λF b a c=>IX N b a c _) (by kernel_rfl)
def IZ N a b c (K:KT J):=vL (gd a b c) (IY N (jK tN K) N a b c) (by kernel_rfl)
def I0 N b a c (K:KT J):=vB 6 tN K (aF.Z43 N b a c (λa=>K .nrm (kS a))) (IZ N b a c _) (by kernel_rfl)
def I1 N a b (K:KT J):=vQ (λk=>aF.Z42 N a b k) (IP N a b _) (cv λa b c=>I0 N a b c K)
def I9 N a (K:KT J):cS N 63 (kS a) H0 K =
 aF.Z53 N a (λb=>K .ret (H9 b)):=by kernel_rfl
def Ja N b a (K:KT J):=vQ (λk=>aF.Z41 N b a k) (I1 N b a _) (funext λa=>I9 N a K)
def Jb N a (K:KT J):=vQ (λk=>aF.Z39 N a k) (zIO N a _) (bT λa b=>Ja N a b K)
def Jc N a (K:KT J):=vQ (λk=>aF.Z5 N a k) (IN N a _) (funext λa=>Jb N a K)
def Jd N a (K:KT J):=vQ (λk=>aF.Z3 N a k) (Id N a _) (funext λb=>Jc N b K)
def Je N a (K:KT J):=vQ (λk=>aF.Z1 N a k) (Ic N a _) (funext λa=>Jd N a K)
def Jf(h:aF.Spec):ax Tryd.prog 72 tK :=
 bP Tryd.func72 bw HZ (λN X K=>Je N X.1 K) (by kernel_rfl) λX hb hp=>by obtain⟨a,_⟩:=X;obtain⟨N,h⟩:=h a hb.1 hp;exact⟨N,Eq.trans (by kernel_rfl) (h N (Nat.le_refl N))⟩
def Jg:ax Tryd.prog 72 tK:=Jf aF.ok
def zR:bf:=⟨[⟨.int .i64,false,false⟩,⟨.int .i64,false,false⟩],[⟨.sl 3 (.int .i64),false,false⟩]⟩
def tO:aO:=⟨zR,(some λX=>cB.P X.1 X.2.1),λX=>((),((cB.g X.1 X.2.1),()))⟩
def zS:Gm:=bq
def Jh:ao Tryd.prog zS:=ao.nil
def Ji:aa:=⟨[],[],[],[],[]⟩
def Jj(a b:Int):St:=bG zR.ps (a,(b,()))
def zT(a b:Int):St:=al [(0,xi a),(1,xi b)] [] []
def Jk:aa:=⟨[0,1],[],[],[],[]⟩
def zU(a:LI)(b c:Int):St:=al [(0,xi b),(1,xi c),(5,xo 1000320)] [] [(1000320,(⟨3,.int .i64,a,true,false⟩:ah))]
def Jl:aa:=⟨[0,1,5],[],[],[],[(⟨false,5,0⟩,1000320)]⟩
def pn(a:LI)(b c:Int):St:=al [(0,xi b),(5,xo 1000320),(6,xi c)] [] [(1000320,(⟨3,.int .i64,a,true,false⟩:ah))]
def zV:aa:=⟨[0,5,6],[],[],[],[(⟨false,5,0⟩,1000320)]⟩
def mF(a:LI):St:=al [(5,xo 1000320)] [] [(1000320,(⟨3,.int .i64,a,true,false⟩:ah))]
def tP:aa:=⟨[5],[],[],[],[(⟨false,5,0⟩,1000320)]⟩
def Jm(a:LI):St:=al [(4,xo 1000256)] [] [(1000256,(⟨3,.int .i64,a,true,false⟩:ah))]
def Jn:aa:=⟨[4],[],[],[],[(⟨false,4,0⟩,1000256)]⟩
def Jo:Nat->Option aa:=au [(0,tP),(1000000,Jn)]
abbrev mG{J:Type}(N n:Nat)(U:St)(l:aa)(K:KT J):Option J:=ak zS bu Jo N (ba 99 (bv Tryd.f96) n) .n U (ap (some l) K)
def Jp N a b (K:KT J):mG N 2 (Jj a b) Jk K =
 cB.Z1 N a b (λa b=>K .nrm (zT a b)):=by kernel_rfl
def Jq N a b (K:KT J):mG N 5 (zT a b) Jl K =
 cB.Z3 N a b (λc a b=>K .nrm (zU c a b)):=by kernel_rfl
def Jr N a b c (K:KT J):mG N 19 (zU a b c) zV K =
 cB.Z6 N a b c (λa b d=>K .nrm (pn a b d)):=by kernel_rfl
def Js N a b c (K:KT J):mG N 75 (pn a b c) zV K =
 cB.Z9 N a b c (λa b c=>K .nrm (pn a b c)) (λa=>K (.exit 0) (mF a)):=by kernel_rfl
def Jt N (K:KT J):=fh K (cB.Z8L N (λa=>K (.exit 0) (mF a))) (λa b c k=>cB.Z9 N a b c k (λa=>K (.exit 0) (mF a))) (λF a b c=>Js N a b c _) (by kernel_rfl)
def Ju N a b c (K:KT J):=vL (pn a b c) (Jt N (jK tP K) N a b c) (by kernel_rfl)
def Jv N a b c (K:KT J):=vB 0 tP K (cB.Z7 N a b c (λa=>K .nrm (mF a))) (Ju N a b c _) (by kernel_rfl)
def Jw N a b c (K:KT J):=vQ (λk=>cB.Z6 N a b c k) (Jr N a b c _) (cv λa b d=>Jv N a b d K)
def Jx N a (K:KT J):mG N 15 (mF a) Ji K =
 cB.Z10 N a (λb=>K .ret (Jm b)):=by kernel_rfl
def Jy N a b c (K:KT J):=vQ (λk=>cB.Z5 N a b c k) (Jw N a b c _) (funext λa=>Jx N a K)
def Jz N a b (K:KT J):=vQ (λk=>cB.Z3 N a b k) (Jq N a b _) (cv λc a b=>Jy N c a b K)
def JA N a b (K:KT J):=vQ (λk=>cB.Z1 N a b k) (Jp N a b _) (bT λa b=>Jz N a b K)
def JB(h:cB.Spec):ax Tryd.prog 96 tO :=
 bP Tryd.func96 bw Jh (λN X K=>JA N X.1 X.2.1 K) (by kernel_rfl) λX hb hp=>by obtain⟨a,b,_⟩:=X;obtain⟨N,h⟩:=h a b hp;exact⟨N,Eq.trans (by kernel_rfl) (h N (Nat.le_refl N))⟩
def JC:ax Tryd.prog 96 tO:=JB cB.ok
def zW:bf:=⟨[⟨.int .i64,false,false⟩,⟨.int .i64,false,false⟩,⟨.int .i64,false,false⟩],[⟨.bool,false,false⟩]⟩
def tQ:aO:=⟨zW,none,λX=>((),((eW.g X.1 X.2.1 X.2.2.1),()))⟩
def zX:Gm:=bq
def JD:ao Tryd.prog zX:=ao.nil
def JE:aa:=⟨[],[],[],[],[]⟩
def JF(a b c:Int):St:=bG zW.ps (a,(b,(c,())))
def JG(a:Bool):St:=al [(6,xB a)] [] []
def JH:aa:=⟨[6],[],[],[],[]⟩
def JI:Nat->Option aa:=au [(1000000,JH)]
abbrev JJ{J:Type}(N n:Nat)(U:St)(l:aa)(K:KT J):Option J:=ak zX bu JI N (ba 99 (bv Tryd.f77) n) .n U (ap (some l) K)
def JK N a b c (K:KT J):JJ N 1 (JF a b c) JE K =
 eW.Z0 N a b c (λd=>K .ret (JG d)):=by kernel_rfl
def JL(h:eW.Spec):ax Tryd.prog 77 tQ :=
 bP Tryd.func77 bw JD (λN X K=>JK N X.1 X.2.1 X.2.2.1 K) (by kernel_rfl) λX hb hp=>by obtain⟨a,b,c,_⟩:=X;obtain⟨N,h⟩:=h a b c;exact⟨N,Eq.trans (by kernel_rfl) (h N (Nat.le_refl N))⟩
def JM:ax Tryd.prog 77 tQ:=JL eW.ok
def zY:bf:=⟨[⟨.sl 3 (.int .i64),false,false⟩,⟨.sl 3 (.int .i64),false,false⟩],[⟨.bool,false,false⟩]⟩
def tR:aO:=⟨zY,none,λX=>((),((dB.g X.1 X.2.1),()))⟩
def zZ:Gm:=bq
def JN:ao Tryd.prog zZ:=ao.nil
def JO:aa:=⟨[],[],[],[],[]⟩
def JP(a b:LI):St:=bG zY.ps (a,(b,()))
def jF(a b:LI):St:=al [(0,.c (.sn 3 tI a none)),(1,.c (.sn 3 tI b none))] [] []
def po:aa:=⟨[0,1],[],[],[],[]⟩
def pq(a b:LI)(d:Int):St:=al [(0,.c (.sn 3 tI a none)),(1,.c (.sn 3 tI b none)),(5,xi d)] [] []
def z6:aa:=⟨[0,1,5],[],[],[],[]⟩
def kT(a:Bool):St:=al [(4,xB a)] [] []
def JQ:aa:=⟨[4],[],[],[],[]⟩
def JR:Nat->Option aa:=au [(0,po),(1000000,JQ)]
abbrev pr{J:Type}(N n:Nat)(U:St)(l:aa)(K:KT J):Option J:=ak zZ bu JR N (ba 99 (bv Tryd.f78) n) .n U (ap (some l) K)
def JS N a b (K:KT J):pr N 2 (JP a b) po K =
 dB.Z1 N a b (λa b=>K .nrm (jF a b)):=by kernel_rfl
def JT N a b (K:KT J):pr N 9 (jF a b) z6 K =
 dB.Z4 N a b (λa b c=>K .nrm (pq a b c)):=by kernel_rfl
def JU N a b c (K:KT J):pr N 37 (pq a b c) z6 K =
 dB.Z7 N a b c (λa b c=>K .nrm (pq a b c)) (λa b=>K (.exit 0) (jF a b)) (λd=>K .ret (kT d)):=by kernel_rfl
def JV N (K:KT J):=fh K (dB.Z6L N (λa b=>K (.exit 0) (jF a b)) (λc=>K .ret (kT c))) (λa b d k=>dB.Z7 N a b d k (λa b=>K (.exit 0) (jF a b)) (λc=>K .ret (kT c))) (λF a b d=>JU N a b d _) (by kernel_rfl)
def JW N a b c (K:KT J):=vL (pq a b c) (JV N (jK po K) N a b c) (by kernel_rfl)
def JX N a b c (K:KT J):=vB 0 po K (dB.Z5 N a b c (λa b=>K .nrm (jF a b)) (λd=>K .ret (kT d))) (JW N a b c _) (by kernel_rfl)
def JY N a b (K:KT J):=vQ (λk=>dB.Z4 N a b k) (JT N a b _) (cv λa b c=>JX N a b c K)
def JZ N a b (K:KT J):pr N 7 (jF a b) JO K =
 dB.Z8 N a b (λc=>K .ret (kT c)):=by kernel_rfl
def J0 N a b (K:KT J):=vQ (λk=>dB.Z3 N a b k (λc=>K .ret (kT c))) (JY N a b _) (bT λa b=>JZ N a b K)
def J1 N a b (K:KT J):=vQ (λk=>dB.Z1 N a b k) (JS N a b _) (bT λa b=>J0 N a b K)
def J2(h:dB.Spec):ax Tryd.prog 78 tR :=
 bP Tryd.func78 bw JN (λN X K=>J1 N X.1 X.2.1 K) (by kernel_rfl) λX hb hp=>by obtain⟨a,b,_⟩:=X;obtain⟨N,h⟩:=h a b hb.1 hb.2.1;exact⟨N,Eq.trans (by kernel_rfl) (h N (Nat.le_refl N))⟩
def J3:ax Tryd.prog 78 tR:=J2 dB.ok
def z7:bf:=⟨[⟨.pair (.int .i64) (.sl 61 (.pair (.sl 3 (.int .i64)) (.int .i64))),true,false⟩],[⟨.bool,false,false⟩]⟩
def mH:aO:=⟨z7,none,λX=>((),((bz.g X.1),()))⟩
def z8:Gm:=aT (aT bq 77 tQ) 78 tR
def J4:ao Tryd.prog z8:=((ao.nil).add JM (by kernel_rfl)).add J3 (by kernel_rfl)
def J5:aa:=⟨[],[],[],[],[]⟩
def J6(a:Int×List (LI×Int)):St:=bG z7.ps (a,())
def pt(a:Int)(b:List (LI×Int)):St:=al [(1,xb 1)] [(1,(36,[yi a,.sn 61 (.pair (.sl 3 tI) tI) b none]))] []
def Aa:aa:=⟨[1],[1],[],[],[]⟩
def fq(a b:Int)(c:List (LI×Int)):St:=al [(1,xb 1),(3,xi a)] [(1,(36,[yi b,.sn 61 (.pair (.sl 3 tI) tI) c none]))] []
def iI:aa:=⟨[1,3],[1],[],[],[]⟩
def pu(a b:Int)(c:List (LI×Int))(d:LI)(e:Int):St:=al [(1,xb 1),(3,xi a),(4,xb 4)] [(1,(36,[yi b,.sn 61 (.pair (.sl 3 tI) tI) c none])),(4,(61,[.sn 3 tI d none,yi e]))] []
def Ab:aa:=⟨[1,3,4],[1,4],[],[],[]⟩
def pv(a b c:Int)(d:List (LI×Int))(e:LI)(f:Int):St:=al [(1,xb 1),(3,xi a),(4,xb 4),(5,xi b)] [(1,(36,[yi c,.sn 61 (.pair (.sl 3 tI) tI) d none])),(4,(61,[.sn 3 tI e none,yi f]))] []
def Ac:aa:=⟨[1,3,4,5],[1,4],[],[],[]⟩
def kU :St:=al [] [] []
def tS:aa:=⟨[],[],[],[],[]⟩
def eb(a:Bool):St:=al [(2,xB a)] [] []
def J7:aa:=⟨[2],[],[],[],[]⟩
def J8:Nat->Option aa:=au [(2,iI),(1,iI),(0,tS),(1000000,J7)]
abbrev ge{J:Type}(N n:Nat)(U:St)(l:aa)(K:KT J):Option J:=ak z8 bu J8 N (ba 99 (bv Tryd.f51) n) .n U (ap (some l) K)
def J9 N a (K:KT J):ge N 2 (J6 a) Aa K =
 bz.Z1 N a (λb c=>K .nrm (pt b c)):=by kernel_rfl
def Ka N a b (K:KT J):ge N 5 (pt a b) Aa K =
 bz.Z3 N a b (λa b=>K .nrm (pt a b)) (λc=>K .ret (eb c)):=by kernel_rfl
def Kb N a b (K:KT J):ge N 19 (pt a b) iI K =
 bz.Z6 N a b (λc a b=>K .nrm (fq c a b)):=by kernel_rfl
def Kc N a b c (K:KT J):ge N 139 (fq a b c) iI K =
 bz.Z10 N a b c (λa b c=>K .nrm (fq a b c)) (K (.exit 0) kU):=by kernel_rfl
def Kd N a b c (K:KT J):ge N 1099 (fq a b c) Ab K =
 bz.Z14 N a b c (λa b c d e=>K .nrm (pu a b c d e)):=by kernel_rfl
def Ke N a b c d e (K:KT J):ge N 2635 (pu a b c d e) Ab K =
 bz.Z16 N a b c d e (λa b c d e=>K .nrm (pu a b c d e)) (λf=>K .ret (eb f)):=by kernel_rfl
def Kf N a b c d e (K:KT J):ge N 5707 (pu a b c d e) Ac K =
 bz.Z18 N a b c d e (λa f b c d e=>K .nrm (pv a f b c d e)):=by kernel_rfl
def Kg N a d b c e f (K:KT J):ge N 20043 (pv a d b c e f) Ac K =
 bz.Z21 N a d b c e f (λa d b c e f=>K .nrm (pv a d b c e f)) (λa b c=>K (.exit 2) (fq a b c)) (λg=>K .ret (eb g)):=by kernel_rfl
def Kh N (K:KT J):=mb K (bz.Z20L N (λa b c=>K (.exit 2) (fq a b c)) (λd=>K .ret (eb d))) (λa e b c f g k=>bz.Z21 N a e b c f g k (λa b c=>K (.exit 2) (fq a b c)) (λd=>K .ret (eb d))) (λF a e b c f g=>Kg N a e b c f g _) (by kernel_rfl)
def Ki N a b c d e f (K:KT J):=vL (pv a b c d e f) (Kh N (jK iI K) N a b c d e f) (by kernel_rfl)
def Kj N a d b c e f (K:KT J):=vB 2 iI K (bz.Z19 N a d b c e f (λa b c=>K .nrm (fq a b c)) (λg=>K .ret (eb g))) (Ki N a d b c e f _) (by kernel_rfl)
def Kk N a b c d e (K:KT J):=vQ (λk=>bz.Z18 N a b c d e k) (Kf N a b c d e _) (iq λa f b c d e=>Kj N a f b c d e K)
def Kl N a b c d e (K:KT J):=vQ (λk=>bz.Z16 N a b c d e k (λf=>K .ret (eb f))) (Ke N a b c d e _) (fg λa b c d e=>Kk N a b c d e K)
def Km N a b c (K:KT J):=vQ (λk=>bz.Z14 N a b c k) (Kd N a b c _) (fg λa b c d e=>Kl N a b c d e K)
def Kn N a b c (K:KT J):=vB 1 iI K (bz.Z12 N a b c (λa b c=>K .nrm (fq a b c)) (λd=>K .ret (eb d))) (Km N a b c _) (by kernel_rfl)
def Ko N a b c (K:KT J):ge N 459 (fq a b c) iI K =
 bz.Z22 N a b c (λa b c=>K .nrm (fq a b c)):=by kernel_rfl
def Kp N a b c (K:KT J):=vQ (λk=>bz.Z12 N a b c k (λd=>K .ret (eb d))) (Kn N a b c _) (cv λa b c=>Ko N a b c K)
def Kq N a b c (K:KT J):=vQ (λk=>bz.Z10 N a b c k (K (.exit 0) kU)) (Kc N a b c _) (cv λa b c=>Kp N a b c K)
def Kr N (K:KT J):=fh K (bz.Z8L N (K (.exit 0) kU) (λa=>K .ret (eb a))) (λb c d k=>bz.Z9 N b c d k (K (.exit 0) kU) (λa=>K .ret (eb a))) (λF b c d=>Kq N b c d _) (by kernel_rfl)
def Ks N a b c (K:KT J):=vL (fq a b c) (Kr N (jK tS K) N a b c) (by kernel_rfl)
def Kt N a b c (K:KT J):=vB 0 tS K (bz.Z7 N a b c (K .nrm kU) (λd=>K .ret (eb d))) (Ks N a b c _) (by kernel_rfl)
def Ku N a b (K:KT J):=vQ (λk=>bz.Z6 N a b k) (Kb N a b _) (cv λc a b=>Kt N c a b K)
def Kv N  (K:KT J):ge N 15 kU J5 K =
 bz.Z23 N (λa=>K .ret (eb a)):=by kernel_rfl
def Kw N a b (K:KT J):=vQ (λk=>bz.Z5 N a b k (λc=>K .ret (eb c))) (Ku N a b _) (Kv N K)
def Kx N a b (K:KT J):=vQ (λk=>bz.Z3 N a b k (λc=>K .ret (eb c))) (Ka N a b _) (bT λa b=>Kw N a b K)
def Ky N a (K:KT J):=vQ (λk=>bz.Z1 N a k) (J9 N a _) (bT λb c=>Kx N b c K)
def Kz(h:bz.Spec):ax Tryd.prog 51 mH :=
 bP Tryd.func51 bw J4 (λN X K=>Ky N X.1 K) (by kernel_rfl) λX hb hp=>by obtain⟨a,_⟩:=X;obtain⟨N,h⟩:=h a hb.1;exact⟨N,Eq.trans (by kernel_rfl) (h N (Nat.le_refl N))⟩
def tT:ax Tryd.prog 51 mH:=Kz bz.ok
def Ad:bf:=⟨[⟨.sl 91 (.pair (.int .i64) (.int .i64)),false,false⟩,⟨.int .i64,false,false⟩],[⟨.pair (.int .i64) (.sl 61 (.pair (.sl 3 (.int .i64)) (.int .i64))),true,false⟩,⟨.bool,false,false⟩]⟩
def tU:aO:=⟨Ad,(some λX=>cg.P X.1 X.2.1),λX=>((),((cg.g X.1 X.2.1).1,((cg.g X.1 X.2.1).2,())))⟩
def Ae:Gm:=aT (aT bq 51 mH) 96 tO
def KA:ao Tryd.prog Ae:=((ao.nil).add tT (by kernel_rfl)).add JC (by kernel_rfl)
def KB:aa:=⟨[],[],[],[],[]⟩
def KC(a:List (Int×Int))(b:Int):St:=bG Ad.ps (a,(b,()))
def pw(a:List (Int×Int))(b d:Int):St:=al [(0,.c (.sn 91 (.pair tI tI) a none)),(1,xi b),(4,xb 4)] [(4,(36,[yi d,.nil]))] []
def Af:aa:=⟨[0,1,4],[4],[],[],[]⟩
def Ag(a:List (LI×Int))(b:List (Int×Int))(d e f:Int):St:=al [(0,.c (.sn 91 (.pair tI tI) b none)),(1,xi d),(4,xb 4),(6,xb 6)] [(4,(36,[yi e,.nil])),(6,(36,[yi f,.own 20000385]))] [(20000385,(⟨61,.pair (.sl 3 tI) tI,a,true,false⟩:ah))]
def KD:aa:=⟨[0,1,4,6],[4,6],[],[],[(⟨true,6,1⟩,20000385)]⟩
def px(a:List (LI×Int))(b:List (Int×Int))(d e f g:Int):St:=al [(0,.c (.sn 91 (.pair tI tI) b none)),(1,xi d),(4,xb 4),(6,xb 6),(7,xi e)] [(4,(36,[yi f,.nil])),(6,(36,[yi g,.own 20000385]))] [(20000385,(⟨61,.pair (.sl 3 tI) tI,a,true,false⟩:ah))]
def Ah:aa:=⟨[0,1,4,6,7],[4,6],[],[],[(⟨true,6,1⟩,20000385)]⟩
def mI(a:List (LI×Int))(b c:Int):St:=al [(4,xb 4),(6,xb 6)] [(4,(36,[yi b,.nil])),(6,(36,[yi c,.own 20000385]))] [(20000385,(⟨61,.pair (.sl 3 tI) tI,a,true,false⟩:ah))]
def tV:aa:=⟨[4,6],[4,6],[],[],[(⟨true,6,1⟩,20000385)]⟩
def tW(a:List (LI×Int))(b:Bool)(c:Int):St:=al [(4,xb 4),(5,xB b)] [(4,(36,[yi c,.own 20000257]))] [(20000257,(⟨61,.pair (.sl 3 tI) tI,a,true,false⟩:ah))]
def KE:aa:=⟨[4,5],[4],[⟨⟨true,4,1⟩,30000000,61,.pair (.sl 3 (.int .i64)) (.int .i64),true⟩],[],[(⟨true,4,1⟩,20000257)]⟩
def KF:Nat->Option aa:=au [(0,tV),(1000000,KE)]
abbrev kV{J:Type}(N n:Nat)(U:St)(l:aa)(K:KT J):Option J:=ak Ae bu KF N (ba 99 (bv Tryd.f71) n) .n U (ap (some l) K)
def KG N a b (K:KT J):kV N 2 (KC a b) Af K =
 cg.Z1 N a b (λa b c=>K .nrm (pw a b c)):=by kernel_rfl
def KH N b c a (K:KT J):kV N 5 (pw b c a) Af K =
 cg.Z3 N b c a (λb c a=>K .nrm (pw b c a)) (λd e a=>K .ret (tW d e a)):=by kernel_rfl
def KI N a b c (K:KT J):kV N 11 (pw a b c) KD K =
 cg.Z5 N a b c (λd a b c e=>K .nrm (Ag d a b c e)):=by kernel_rfl
def KJ N a b c d e (K:KT J):kV N 39 (Ag a b c d e) Ah K =
 cg.Z8 N a b c d e (λa b c f d e=>K .nrm (px a b c f d e)):=by kernel_rfl
def KK N a d e f b c (K:KT J):kV N 151 (px a d e f b c) Ah K =
 cg.Z11 N a d e f b c (λa d e f b c=>K .nrm (px a d e f b c)) (λa b c=>K (.exit 0) (mI a b c)):=by kernel_rfl
def KL N (K:KT J):=mb K (cg.Z10L N (λa b c=>K (.exit 0) (mI a b c))) (λa d e f b c k=>cg.Z11 N a d e f b c k (λa b c=>K (.exit 0) (mI a b c))) (λF a d e f b c=>KK N a d e f b c _) (by kernel_rfl)
def KM N a b c d e f (K:KT J):=vL (px a b c d e f) (KL N (jK tV K) N a b c d e f) (by kernel_rfl)
def KN N a d e f b c (K:KT J):=vB 0 tV K (cg.Z9 N a d e f b c (λa b c=>K .nrm (mI a b c))) (KM N a d e f b c _) (by kernel_rfl)
def KO N a b c d e (K:KT J):=vQ (λk=>cg.Z8 N a b c d e k) (KJ N a b c d e _) (iq λa b c f d e=>KN N a b c f d e K)
def KP N b a c (K:KT J):kV N 31 (mI b a c) KB K =
 cg.Z12 N b a c (λd e a=>K .ret (tW d e a)):=by kernel_rfl
def KQ N a d e b c (K:KT J):=vQ (λk=>cg.Z7 N a d e b c k) (KO N a d e b c _) (cv λa b c=>KP N a b c K)
def KR N a b c (K:KT J):=vQ (λk=>cg.Z5 N a b c k) (KI N a b c _) (fg λd a b c e=>KQ N d a b c e K)
def KS N b c a (K:KT J):=vQ (λk=>cg.Z3 N b c a k (λd e a=>K .ret (tW d e a))) (KH N b c a _) (cv λb c a=>KR N b c a K)
def KU N a b (K:KT J):=vQ (λk=>cg.Z1 N a b k) (KG N a b _) (cv λa b c=>KS N a b c K)
def KV(h:cg.Spec):ax Tryd.prog 71 tU :=
 bP Tryd.func71 bw KA (λN X K=>KU N X.1 X.2.1 K) (by kernel_rfl) λX hb hp=>by obtain⟨a,b,_⟩:=X;obtain⟨N,h⟩:=h a b hb.1 hp;exact⟨N,Eq.trans (by kernel_rfl) (h N (Nat.le_refl N))⟩
def KW:ax Tryd.prog 71 tU:=KV cg.ok
def Ai:cy:=⟨84,[(5,.int .u8)],.pair (.int .i64) (.int .i64)⟩
def tX:List PT:=[⟨.int .i64,false,false⟩]
def Aj:List PT:=[⟨.pair (.int .i64) (.sl 61 (.pair (.sl 3 (.int .i64)) (.int .i64))),true,false⟩]
def tY:dH:=⟨Ai,tX,true,Aj,(some λX=>bR.P X.1.1.1 X.1.2 X.2.1),λX=>((bR.g X.1.1.1 X.1.2 X.2.1).1,((),((bR.g X.1.1.1 X.1.2 X.2.1).2,())))⟩
def Ak:Gm:=aT (aT (addV (aT (addV bq 45 fo) 69 tH) 70 tF) 71 tU) 72 tK
def KX:ao Tryd.prog Ak:=(((((ao.nil).addV jE (by kernel_rfl)).add HY (by kernel_rfl)).addV HC (by kernel_rfl)).add KW (by kernel_rfl)).add Jg (by kernel_rfl)
def KY:aa:=⟨[],[],[],[],[]⟩
def KZ(u0:Value)(b0:List Int)(r0:Int×Int)(a:Int):St:=db Ai tX [u0] (((b0,()),r0),(a,()))
def Al(u0:Value)(a:Int)(b:List Int)(c d e:Int):St:=al [(0,xb 100000),(1,xi a),(4,xb 4),(100000,xb 100000)] [(100000,(84,[.bor u0 5 (.int .u8) b,yi c,yi d])),(4,(36,[yi e,.nil]))] []
def K0:aa:=⟨[0,1,4,100000],[100000,4],[],[],[]⟩
def Am(u0:Value)(a:List (Int×Int))(b:Int)(c:List Int)(d e f:Int):St:=al [(0,xb 100000),(1,xi b),(4,xb 4),(5,xo 1000320),(100000,xb 100000)] [(100000,(84,[.bor u0 5 (.int .u8) c,yi d,yi e])),(4,(36,[yi f,.nil]))] [(1000320,(⟨91,.pair tI tI,a,true,false⟩:ah))]
def K1:aa:=⟨[0,1,4,5,100000],[100000,4],[],[],[(⟨false,5,0⟩,1000320)]⟩
def An(u0:Value)(a:List (Int×Int))(b c:Int)(d:List Int)(e f g:Int):St:=al [(0,xb 100000),(1,xi b),(4,xb 4),(5,xo 1000320),(6,xi c),(100000,xb 100000)] [(100000,(84,[.bor u0 5 (.int .u8) d,yi e,yi f])),(4,(36,[yi g,.nil]))] [(1000320,(⟨91,.pair tI tI,a,true,false⟩:ah))]
def K2:aa:=⟨[0,1,4,5,6,100000],[100000,4],[],[],[(⟨false,5,0⟩,1000320)]⟩
def py(u0:Value)(a:List (Int×Int))(b c d:Int)(e:List Int)(f g h:Int):St:=al [(0,xb 100000),(1,xi b),(4,xb 4),(5,xo 1000320),(6,xi c),(7,xi d),(100000,xb 100000)] [(100000,(84,[.bor u0 5 (.int .u8) e,yi f,yi g])),(4,(36,[yi h,.nil]))] [(1000320,(⟨91,.pair tI tI,a,true,false⟩:ah))]
def Ao:aa:=⟨[0,1,4,5,6,7,100000],[100000,4],[],[],[(⟨false,5,0⟩,1000320)]⟩
def mJ(u0:Value)(a:List (Int×Int))(b c:Int)(d:List Int)(e f:Int):St:=al [(1,xi b),(4,xb 4),(5,xo 1000320),(100000,xb 100000)] [(4,(36,[yi c,.nil])),(100000,(84,[.bor u0 5 (.int .u8) d,yi e,yi f]))] [(1000320,(⟨91,.pair tI tI,a,true,false⟩:ah))]
def tZ:aa:=⟨[1,4,5,100000],[4,100000],[],[],[(⟨false,5,0⟩,1000320)]⟩
def K3(u0:Value)(a:List (LI×Int))(b:Int)(c:List Int)(d e:Int):St:=al [(4,xb 4),(100000,xb 100000)] [(4,(36,[yi b,.own 20000257])),(100000,(84,[.bor u0 5 (.int .u8) c,yi d,yi e]))] [(20000257,(⟨61,.pair (.sl 3 tI) tI,a,true,false⟩:ah))]
def K4:aa:=⟨[4,100000],[4,100000],[],[],[(⟨true,4,1⟩,20000257)]⟩
def K5:Nat->Option aa:=au [(0,tZ),(1000000,K4)]
abbrev kW{J:Type}(N n:Nat)(U:St)(l:aa)(K:KT J):Option J:=ak Ak bu K5 N (ba 99 (bv Tryd.f46) n) .n U (ap (some l) K)
def K6 N u0 b0 r0 a (K:KT J):kW N 2 (KZ u0 b0 r0 a) K0 K =
 bR.Z1 N b0 r0 a (λa b c d e=>K .nrm (Al u0 a b c d e)):=by kernel_rfl
def K7 N u0 a b c d e (K:KT J):kW N 5 (Al u0 a b c d e) K1 K =
 bR.Z3 N a b c d e (λf a b c d e=>K .nrm (Am u0 f a b c d e)):=by kernel_rfl
def K8 N u0 a b c d e f (K:KT J):kW N 11 (Am u0 a b c d e f) K2 K =
 bR.Z5 N a b c d e f (λa b g c d e f=>K .nrm (An u0 a b g c d e f)):=by kernel_rfl
def K9 N u0 a b c d e f g (K:KT J):kW N 39 (An u0 a b c d e f g) Ao K =
 bR.Z8 N a b c d e f g (λa b c h d e f g=>K .nrm (py u0 a b c h d e f g)):=by kernel_rfl
def La N u0 a b g h c d e f (K:KT J):kW N 151 (py u0 a b g h c d e f) Ao K =
 bR.Z11 N a b g h c d e f (λa b g h c d e f=>K .nrm (py u0 a b g h c d e f)) (λa b f c d e=>K (.exit 0) (mJ u0 a b f c d e)):=by kernel_rfl
def Lc N u0 (K:KT J):=sH K (bR.Z10L N (λa b c d e f=>K (.exit 0) (mJ u0 a b c d e f))) (λa b g h d e f c k=>bR.Z11 N a b g h d e f c k (λa b c d e f=>K (.exit 0) (mJ u0 a b c d e f))) (λF a b g h d e f c=>La N u0 a b g h d e f c _) (by kernel_rfl)
def Ld N u0 a b c d e f g h (K:KT J):=vL (py u0 a b c d e f g h) (Lc N u0 (jK tZ K) N a b c d e f g h) (by kernel_rfl)
def Le N u0 a b g h c d e f (K:KT J):=vB 0 tZ K (bR.Z9 N a b g h c d e f (λa b f c d e=>K .nrm (mJ u0 a b f c d e))) (Ld N u0 a b g h c d e f _) (by kernel_rfl)
def Lg N u0 a b c d e f g (K:KT J):=vQ (λk=>bR.Z8 N a b c d e f g k) (K9 N u0 a b c d e f g _) (w7 λa b c h d e f g=>Le N u0 a b c h d e f g K)
def Lh N u0 e f a b c d (K:KT J):kW N 31 (mJ u0 e f a b c d) KY K =
 bR.Z12 N e f a b c d (λg a b c d=>K .ret (K3 u0 g a b c d)):=by kernel_rfl
def Li N u0 a b g c d e f (K:KT J):=vQ (λk=>bR.Z7 N a b g c d e f k) (Lg N u0 a b g c d e f _) (iq λa b f c d e=>Lh N u0 a b f c d e K)
def Lj N u0 a b c d e f (K:KT J):=vQ (λk=>bR.Z5 N a b c d e f k) (K8 N u0 a b c d e f _) (w6 λa b g c d e f=>Li N u0 a b g c d e f K)
def Lk N u0 a b c d e (K:KT J):=vQ (λk=>bR.Z3 N a b c d e k) (K7 N u0 a b c d e _) (iq λf a b c d e=>Lj N u0 f a b c d e K)
def Ll N u0 b0 r0 a (K:KT J):=vQ (λk=>bR.Z1 N b0 r0 a k) (K6 N u0 b0 r0 a _) (fg λa b c d e=>Lk N u0 a b c d e K)
def Lm(h:bR.Spec):cW Tryd.prog 46 tY :=
 jw Tryd.func46 bw KX (λN u X K=>Ll N u X.1.1.1 X.1.2 X.2.1 K) (by kernel_rfl) λu0 X hb1 hb2 hp=>by obtain⟨⟨⟨b0,_⟩,r0⟩,a,_⟩:=X;obtain⟨N,h⟩:=h [u0] b0 r0 a hb1.1 hp;exact⟨N,Eq.trans (by kernel_rfl) (h N (Nat.le_refl N))⟩
def Ap:cW Tryd.prog 46 tY:=Lm bR.ok
def Aq:cy:=⟨84,[(5,.int .u8)],.pair (.int .i64) (.int .i64)⟩
def t7:List PT:=[⟨.int .i64,false,false⟩]
def Ar:List PT:=[⟨.bool,false,false⟩]
def t8:dH:=⟨Aq,t7,true,Ar,(some λX=>dX.P X.1.1.1 X.1.2 X.2.1),λX=>((dX.g X.1.1.1 X.1.2 X.2.1).1,((),((dX.g X.1.1.1 X.1.2 X.2.1).2,())))⟩
def As:Gm:=addV bq 45 fo
def Ln:ao Tryd.prog As:=(ao.nil).addV jE (by kernel_rfl)
def Lo:aa:=⟨[],[],[],[],[]⟩
def Lp(u0:Value)(b0:List Int)(r0:Int×Int)(a:Int):St:=db Aq t7 [u0] (((b0,()),r0),(a,()))
def Lq(u0:Value)(a:Bool)(b:List Int)(c d:Int):St:=al [(4,xB a),(100000,xb 100000)] [(100000,(84,[.bor u0 5 (.int .u8) b,yi c,yi d]))] []
def Lt:aa:=⟨[4,100000],[100000],[],[],[]⟩
def Lu:Nat->Option aa:=au [(1000000,Lt)]
abbrev Lv{J:Type}(N n:Nat)(U:St)(l:aa)(K:KT J):Option J:=ak As bu Lu N (ba 99 (bv Tryd.f47) n) .n U (ap (some l) K)
def Lw N u0 b0 r0 a (K:KT J):Lv N 1 (Lp u0 b0 r0 a) Lo K =
 dX.Z0 N b0 r0 a (λb c d e=>K .ret (Lq u0 b c d e)):=by kernel_rfl
def Lx(h:dX.Spec):cW Tryd.prog 47 t8 :=
 jw Tryd.func47 bw Ln (λN u X K=>Lw N u X.1.1.1 X.1.2 X.2.1 K) (by kernel_rfl) λu0 X hb1 hb2 hp=>by obtain⟨⟨⟨b0,_⟩,r0⟩,a,_⟩:=X;obtain⟨N,h⟩:=h [u0] b0 r0 a hb1.1 hp;exact⟨N,Eq.trans (by kernel_rfl) (h N (Nat.le_refl N))⟩
def Au:cW Tryd.prog 47 t8:=Lx dX.ok
def Av:cy:=⟨84,[(5,.int .u8)],.pair (.int .i64) (.int .i64)⟩
def ug:List PT:=[⟨.sl 3 (.int .i64),false,false⟩]
def Aw:List PT:=[⟨.int .i64,false,false⟩]
def Ax:dH:=⟨Av,ug,true,Aw,(some λX=>gh.P X.1.1.1 X.1.2 X.2.1),λX=>((gh.g X.1.1.1 X.1.2 X.2.1).1,((),((gh.g X.1.1.1 X.1.2 X.2.1).2,())))⟩
def Ay:Gm:=addV bq 45 fo
def Ly:ao Tryd.prog Ay:=(ao.nil).addV jE (by kernel_rfl)
def Lz:aa:=⟨[],[],[],[],[]⟩
def LA(u0:Value)(b0:List Int)(r0:Int×Int)(a:LI):St:=db Av ug [u0] (((b0,()),r0),(a,()))
def LB(u0:Value)(a:Int)(b:List Int)(c d:Int):St:=al [(4,xi a),(100000,xb 100000)] [(100000,(84,[.bor u0 5 (.int .u8) b,yi c,yi d]))] []
def LC:aa:=⟨[4,100000],[100000],[],[],[]⟩
def LD:Nat->Option aa:=au [(1000000,LC)]
abbrev LE{J:Type}(N n:Nat)(U:St)(l:aa)(K:KT J):Option J:=ak Ay bu LD N (ba 99 (bv Tryd.f67) n) .n U (ap (some l) K)
def LF N u0 b0 r0 a (K:KT J):LE N 1 (LA u0 b0 r0 a) Lz K =
 gh.Z0 N b0 r0 a (λb c d e=>K .ret (LB u0 b c d e)):=by kernel_rfl
def LG(h:gh.Spec):cW Tryd.prog 67 Ax :=
 jw Tryd.func67 bw Ly (λN u X K=>LF N u X.1.1.1 X.1.2 X.2.1 K) (by kernel_rfl) λu0 X hb1 hb2 hp=>by obtain⟨⟨⟨b0,_⟩,r0⟩,a,_⟩:=X;obtain⟨N,h⟩:=h [u0] b0 r0 a hb1.1 hb2.1 hp;exact⟨N,Eq.trans (by kernel_rfl) (h N (Nat.le_refl N))⟩
def LH:cW Tryd.prog 67 Ax:=LG gh.ok
def LJ:List PT:=[⟨.sl 5 (.int .u8),false,false⟩]
def uh:fU:=⟨LJ,.pair (.int .i64) (.sl 61 (.pair (.sl 3 (.int .i64)) (.int .i64))),none⟩
section
open Go.Shelf Go.RowKit Go.Lib
def jG:cy:=⟨84,[(5,.int .u8)],.pair (.int .i64) (.int .i64)⟩
abbrev dW:Ty:=.pair (.sl 3 (.int .i64)) (.int .i64)
abbrev gK:Ty:=.pair (.int .i64) (.sl 61 dW)
structure Cu(uz:World)(B:Nat)(vz:Value)(b:List Int)(W:World):Prop where
 inv:Inv.I Tryd.prog uz
 rd:Rd uz (λ_=>True) (.sl 5 (.int .u8)) [vz] b
 lt:uz.heap.size<=B
 one:vz.oneCell'=true
 bel:Below uz.heap.size uz W
 ex:∃r:Int×Int,W.heap[B]? = some (.cells #[vz,.int .i64 r.1,.int .i64 r.2] 84 (0,0))/\bn b r=true
def Cu.bsize{uz W:World}{B:Nat}{vz:Value}{b:List Int}(h:Cu uz B vz b W):B<W.heap.size:=by obtain⟨r,hr,_⟩:=h.ex;exact(Array.getElem?_eq_some_iff.1 hr).1
def Cu.step{uz W W':World}{B:Nat}{vz:Value}{b:List Int}(h:Cu uz B vz b W){xs:List Nat}(o:ay xs W W')(hB:B∉xs)(hx:∀x∈xs,uz.heap.size<=x):Cu uz B vz b W':=by have hb:=h.bsize;obtain⟨r,hr,hc⟩:=h.ex;exact⟨h.inv,h.rd,h.lt,h.one,h.bel.trans (o.below (Nat.le_of_lt (Nat.lt_of_le_of_lt h.lt hb)) hx),r,(o.keep B hb hB).trans hr,hc⟩
def pz{f:Nat}{ps rs:List PT}{pre:Option ((cb jG.fx×jG.t.den)×aj ps->Bool)}{val:(cb jG.fx×jG.t.den)×aj ps->jG.t.den×(ew true ps×aj rs)}(hE:cW Tryd.prog f ⟨jG,ps,true,rs,pre,val⟩)
  (eg:Enters Tryd.prog f) {uz W:World}{B:Nat}{vz:Value}{b:List Int} (hc:Cu uz B vz b W) {vs:List Value}{X:aj ps} (ha:bY W (λk=>k∉[B]) ps vs X [])
  (hpre:∀r,bn b r=true->a8 pre (((b,()),r),X)=true) (hkeep:∀r,bn b r=true->bn b (val (((b,()),r),X)).1=true) :
  Calls Tryd.prog f (.pointer (some ⟨B,0,none⟩)::vs).toArray W λe w'=>∃v us Lr r,e=.returned v/\bn b r=true/\fR us v/\fQ w' rs us (val (((b,()),r),X)).2.2 Lr/\(∀k∈Lr,W.heap.size<=k)/\Lr.Nodup/\ay [B] W w'/\Cu uz B vz b w':=by
 obtain⟨r,hr,hcur⟩:=hc.ex;have hB:=hc.bsize;have hsz:uz.heap.size<=W.heap.size:=hc.bel.size;have hrdW:Rd W (λk=>k∉[B]) (.sl 5 (.int .u8)) [vz] b:=(hc.rd.lt.frame λk hk _=>hc.bel.block k hk.2).mono λk hk=>by have:=hc.lt;simp only[List.mem_singleton];omega
 have hE:=hE W (.pointer (some ⟨B,0,none⟩)::vs).toArray [] B [vz] (((b,()),r),X) ⟨_,vs,rfl,⟨rfl,_,[.int .i64 r.1,.int .i64 r.2],hr,by
   intro u hu;simp only[List.mem_cons,List.not_mem_nil,or_false]at hu;rcases hu with rfl|rfl|rfl;·exact hc.one
   ·rfl
   ·rfl,rfl,⟨hrdW,trivial⟩,[.int .i64 r.1],[.int .i64 r.2],[],[],rfl,rfl,⟨rfl,rfl⟩,⟨rfl,rfl⟩⟩,ha⟩
  (by simp) (by simpa using hB) (hpre r hcur) (Inv.keep uz W (λk hk=>hc.bel.block k (Inv.lt uz k hc.inv hk)) hc.inv) (by intro k hk hI;have:=Inv.lt uz k hc.inv hI;have:=hc.lt;simp only[List.mem_singleton]at hk;omega)
 rcases hE with⟨_,h⟩|⟨v,w',h,_⟩
 ·refine h.mono ?_;rintro e w' ⟨v,us,Lb,Lr,rfl,A⟩
  obtain⟨arr,cm,m1,m2,m3,m4⟩:=A.ref;obtain⟨n1,n2,n3⟩:=List.nodup_append.1 A.nodup;have on:ay [B] W w':=⟨A.os,A.tape.tape,A.output,A.size,λk hk hx=>A.old k hk hx⟩;refine⟨v,us,Lr,r,rfl,hcur,A.ret,A.res,λk hk=>?_,n1,on,hc.inv,hc.rd,hc.lt,hc.one,hc.bel.trans (on.below hsz (by simpa using hc.lt)),(val (((b,()),r),X)).1, ?_,hkeep r hcur⟩
  ·rcases A.fresh k (List.mem_append_left _ hk)with h|h;·cases h
   ·exact h
  ·obtain⟨c1,c2,L1,L2,hcm,_,o1,o2⟩:=(show am w' jG.t [] cm (val (((b,()),r),X)).1 from m4);have o1:c1=[.int .i64 _]/\L1=[]:=o1;have o2:c2=[.int .i64 _]/\L2=[]:=o2;obtain⟨rfl,_⟩:=o1;obtain⟨rfl,_⟩:=o2;subst hcm;rw[show w'.heap[B]? = some (.cells arr 84 (0,0))from m1];congr 2;exact Array.toList_inj.1 m3
 ·rw[eg]at h;cases h
def ui{w':World}{us:List Value}{v:Value}{t:Ty}{io:Bool}{Y:t.den}{Lr:List Nat}(hr:fR us v)(h:fQ w' [⟨t,false,io⟩] us (Y,()) Lr):am w' t Lr [v] Y:=by
 match us,h with
 |[],h=>exact h.elim
 |_::_::_,h=>obtain⟨_,_,_,_,_,_,_,h⟩:=h;exact h.elim
 |[u],h =>obtain⟨cs,L1,L2,rfl,h1,h2,_,h3⟩:=h;have h1:cs=[u]:=h1;have h3:L2=[]:=h3;have hv:v=u:=hr;subst h1 h3 hv;rw[List.append_nil];exact h2
def LK{w':World}{us:List Value}{v:Value}{t:Ty}{io:Bool}{Y:t.den}{Lr:List Nat}(hr:fR us v)(h:fQ w' [⟨t,true,io⟩] us (Y,()) Lr):∃arr:Array Value,v=.agg arr/\am w' t Lr arr.toList Y:=by
 match us,h with
 |[],h=>exact h.elim
 |_::_::_,h=>obtain⟨_,_,_,_,_,_,_,h⟩:=h;exact h.elim
 |[u],h =>obtain⟨cs,L1,L2,rfl,h1,h2,_,h3⟩:=h;obtain⟨arr,h1,h4⟩:∃arr:Array Value,u=.agg arr/\arr.toList=cs:=h1;have h3:L2=[]:=h3;have hv:v=u:=hr;subst h3 hv h4;rw[List.append_nil];exact⟨arr,h1,h2⟩
section
variable {uz W : World} {B : Nat} {vz : Value} {b : List Int}
def uj{w:World}{S:Nat->Prop}{n:Int}:bY w S [⟨.int .i64,false,false⟩] [.int .i64 n] (n,()) []:=⟨[.int .i64 n],[],[],rfl,rfl,⟨rfl,rfl⟩,rfl⟩
def LN{w:World}{S:Nat->Prop}{v:Value}{l:List Int}(hv:Rd w S (.sl 3 (.int .i64)) [v] l):bY w S [⟨.sl 3 (.int .i64),false,false⟩] [v] (l,()) []:=⟨[v],[],[],rfl,rfl,⟨rfl,hv⟩,rfl⟩
def mK(hc:Cu uz B vz b W){n:Int}:Calls Tryd.prog 45 #[.pointer (some ⟨B,0,none⟩),.int .i64 n] W λe w'=>∃x:Int,e=.returned (.int .i64 x)/\(1<=n->n<=256->0<=x/\x<n)/\ay [B] W w'/\Cu uz B vz b w':=by
 refine(pz (ps:=tE) (rs:=zt) jE (enters_of Tryd.func45 (by kernel_rfl) rfl) hc uj (λr h=>h) (λr h=>aB.keep h)).mono ?_;rintro e w' ⟨v,us,Lr,r,rfl,h1,h2,h3,_,_,h4,h5⟩
 have h3:=ui h2 h3;obtain⟨h3,_⟩:=h3;injection h3 with h3;subst h3;exact⟨_,rfl,λn1 n2=>aB.range n1 n2,h4,h5⟩
def LO(hc:Cu uz B vz b W){n:Int}:Calls Tryd.prog 47 #[.pointer (some ⟨B,0,none⟩),.int .i64 n] W λe w'=>∃x:Bool,e=.returned (.bool x)/\ay [B] W w'/\Cu uz B vz b w':=by
 refine(pz (ps:=t7) (rs:=Ar) Au (enters_of Tryd.func47 (by kernel_rfl) rfl) hc uj (λr h=>h) (λr h=>dX.keep h)).mono ?_;rintro e w' ⟨v,us,Lr,r,rfl,h1,h2,h3,_,_,h4,h5⟩
 have h3:=ui h2 h3;obtain⟨h3,_⟩:=h3;injection h3 with h3;subst h3;exact⟨_,rfl,h4,h5⟩
def pA(hc:Cu uz B vz b W){v:Value}{l:List Int}(hv:Rd W (λk=>k∉[B]) (.sl 3 (.int .i64)) [v] l)(hl:1<=l.length/\l.length<=256):Calls Tryd.prog 67 #[.pointer (some ⟨B,0,none⟩),v] W λe w'=>∃x:Int,e=.returned (.int .i64 x)/\ay [B] W w'/\Cu uz B vz b w':=by
 refine(pz (ps:=ug) (rs:=Aw) (X:=(l,())) LH (enters_of Tryd.func67 (by kernel_rfl) rfl) hc (LN hv) (λr h=>?_) (λr h=>gh.keep h)).mono ?_;·show(bn b r&&(decide (1<=l.length)&&decide (l.length<=256)))=true;rw[h,dt hl.1,dt hl.2];rfl
 rintro e w' ⟨v,us,Lr,r,rfl,h1,h2,h3,_,_,h4,h5⟩
 have h3:=ui h2 h3;obtain⟨h3,_⟩:=h3;injection h3 with h3;subst h3;exact⟨_,rfl,h4,h5⟩
def LP(hc:Cu uz B vz b W){vars:Int}(hv:1<=vars/\vars<=3):Calls Tryd.prog 46 #[.pointer (some ⟨B,0,none⟩),.int .i64 vars] W λe w'=>∃(z:Int) (A:Option Addr) (n c:Nat) (L:List Nat) (f:List dW.den),e=.returned (.agg #[.int .i64 z,.slice A n c])/\am w' (.sl 61 dW) L [.slice A n c] f/\f.length=n/\n<=c/\c<=maxLen/\(∀k∈L,W.heap.size<=k)/\L.Nodup/\n<=4/\(∀t∈f,(t.1.length:Int)=vars)/\ay [B] W w'/\Cu uz B vz b w':=by
 refine(pz (ps:=tX) (rs:=Aj) Ap (enters_of Tryd.func46 (by kernel_rfl) rfl) hc uj (λr h=>?_) (λr h=>bR.keep h)).mono ?_;·show(bn b r&&aN vars 0 100)=true;rw[h,d8.2 ⟨by omega,by omega⟩];rfl
 rintro e w' ⟨v,us,Lr,r,rfl,h1,h2,h3,hn,hd,h4,h5⟩
 obtain⟨arr,rfl,c1,c2,L1,L2,e1,rfl,o1,o2⟩:=LK h2 h3;have o1:c1=[.int .i64 _]/\L1=[]:=o1;obtain⟨rfl,rfl⟩:=o1;have hs:=bR.shape (b:=b) (r:=r) (vars:=vars);obtain⟨s,css,Ls,rfl,ho,_⟩:=id o2;obtain⟨A,c,rfl,hc1,hc2⟩:=dO ho;have e2:arr=#[.int .i64 _,_]:=Array.toList_inj.1 e1;subst e2;exact⟨_,A,_,c,L2,_,rfl,o2,rfl,hc1,hc2,by simpa using hn,by simpa using hd,hs.1,λt ht=>by rw[hs.2 t ht];omega,h4,h5⟩
end
structure bV(w:World)(H:Nat)(u0 u1:Value):Prop where
 heap:w.heap[H]? = some (.cells #[u0,u1] 36 (0,0))
def bV.c0{w:World}{H:Nat}{u0 u1:Value}(h:bV w H u0 u1):w.cell? ⟨H,0,none⟩=some u0:=(it h.heap).trans rfl
def bV.c1{w:World}{H:Nat}{u0 u1:Value}(h:bV w H u0 u1):w.cell? ⟨H,1,none⟩=some u1:=(it h.heap).trans rfl
def bV.f{w:World}{H j:Nat}{u0 u1:Value}(h:bV w H u0 u1):w.frozen? ⟨H,j,none⟩=false:=oO h.heap
def bV.lt{w:World}{H:Nat}{u0 u1:Value}(h:bV w H u0 u1):H<w.heap.size:=(Array.getElem?_eq_some_iff.1 h.heap).1
def bV.keep{w w':World}{H:Nat}{u0 u1:Value}(h:bV w H u0 u1){xs:List Nat}(o:ay xs w w')(hx:H∉xs):bV w' H u0 u1:=⟨(o.keep H h.lt hx).trans h.heap⟩
def bV.new{w:World}{u0 u1:Value}:bV (w.alloc (.cells #[u0,u1] 36)) w.heap.size u0 u1:=⟨by show(w.heap.push _)[w.heap.size]? = _;exact Array.getElem?_push_size⟩
def Az{w:World}{S:Nat->Prop}{a b c:Int}(hS:S w.heap.size):Rd (w.alloc (.cells #[.int .i64 a,.int .i64 b,.int .i64 c] 3)) S (.sl 3 (.int .i64)) [.slice (some ⟨w.heap.size,0,none⟩) 3 3] [a,b,c]:=by refine⟨_,3,3,rfl,rfl,Nat.le_refl _,by decide,.inr ⟨⟨w.heap.size,0,none⟩,[[.int .i64 a],[.int .i64 b],[.int .i64 c]],rfl,hS,⟨rfl,rfl,rfl,trivial⟩,λi u hu=>?_⟩⟩;rw[add_lit,Nat.zero_add,World.cell?_alloc_at _ _ _ _ rfl];simpa using hu
def AA{w:World}{S:Nat->Prop}{a b c d:Int}(hS:S w.heap.size):Rd (w.alloc (.cells #[.int .i64 a,.int .i64 b,.int .i64 c,.int .i64 d] 3)) S (.sl 3 (.int .i64)) [.slice (some ⟨w.heap.size,0,none⟩) 4 4] [a,b,c,d]:=by refine⟨_,4,4,rfl,rfl,Nat.le_refl _,by decide,.inr ⟨⟨w.heap.size,0,none⟩,[[.int .i64 a],[.int .i64 b],[.int .i64 c],[.int .i64 d]],rfl,hS,⟨rfl,rfl,rfl,rfl,trivial⟩,λi u hu=>?_⟩⟩;rw[add_lit,Nat.zero_add,World.cell?_alloc_at _ _ _ _ rfl];simpa using hu
def LQ{w w':World}{B:Nat}{a b c d:Int}(o:ay [B] (w.alloc (.cells #[.int .i64 a,.int .i64 b,.int .i64 c,.int .i64 d] 3)) w')(hB:B<w.heap.size):Rd w' (λk=>k∉[B]) (.sl 3 (.int .i64)) [.slice (some ⟨w.heap.size,0,none⟩) 4 4] [a,b,c,d]:=by
 have hx:w.heap.size∉[B]:=by simp only[List.mem_singleton];omega
 refine((AA (w:=w) (S:=λk=>k=w.heap.size) rfl).frame (w':=w') λk hk hlt=>o.keep k hlt ?_).mono λk hk=>?_;·rw[hk];exact hx
 ·rw[hk];exact hx
def uk{W ua w':World}{B:Nat}{o:Obj}(o1:ay [B] (W.alloc o) ua)(h:ay [B,W.heap.size,ua.heap.size] ua w'):ay [B] W w':=by
 have e:=(ay.refl [B] W).alloc o;have s1:=e.size;have s2:=o1.size;have s3:(W.alloc o).heap.size=W.heap.size+1:=by simp
 refine⟨h.os.trans (o1.trans' e).os,h.tape.trans (o1.trans' e).tape,h.output.trans (o1.trans' e).output,by have:=h.size;omega,λk hk hx=>?_⟩;rw[h.keep k (by omega) (by simp only[List.mem_cons,List.not_mem_nil,or_false]at hx ⊢;omega)];exact(o1.trans' e).keep k hk hx
def ul{W ua w':World}{B n c:Nat}{A:Option Addr}{L:List Nat}{f:List dW.den}(z:Int)(hO:am ua (.sl 61 dW) L [.slice A n c] f)(hL:∀k∈L,W.heap.size+1<=k)(h:ay [B,W.heap.size,ua.heap.size] ua w')(hB:B<W.heap.size):Rd w' (λk=>W.heap.size<=k) gK [.int .i64 z,.slice A n c] (z,f):=by
 refine⟨[.int .i64 z],[.slice A n c],rfl,rfl,(hO.frame λk hk=>h.keep k (hO.lt k hk) ?_).rd λk hk=>?_⟩;·have:=hL k hk;have:=hO.lt k hk;simp only[List.mem_cons,List.not_mem_nil,or_false];omega
 ·have:=hL k hk;omega
def LR{fn:Func}{t H:Nat}(h:fn.results=#[.cell t 36]){tmps:Array Value}{w:World}{u0 u1:Value}(hp:tmps.getD t undef=.pointer (some ⟨H,0,none⟩))(h0:w.cell? ⟨H,0,none⟩=some u0)(h1:w.cell? ⟨H,1,none⟩=some u1):(results fn tmps).run Tryd.prog w=.ok (.agg #[u0,u1]) w:=by
 have e1:=Tryd.isAgg36;have e2:=Tryd.sizeOf36;have hp':tmps[t]?.getD undef=.pointer (some ⟨H,0,none⟩):=by simpa using hp
 simp[results,h,hp',loadVar,e1,e2,go_sem,h0,h1]
def bV.set0{w:World}{H:Nat}{a b u:Value}(h:bV w H a b):bV (w.setCell ⟨H,0,none⟩ u) H u b:=⟨by show(w.heap.modify H _)[H]? = _;rw[Array.getElem?_modify,if_pos rfl,h.heap];rfl⟩
def bV.set1{w:World}{H:Nat}{a b u:Value}(h:bV w H a b):bV (w.setCell ⟨H,1,none⟩ u) H a u:=⟨by show(w.heap.modify H _)[H]? = _;rw[Array.getElem?_modify,if_pos rfl,h.heap];rfl⟩
def bV.other{w:World}{H:Nat}{a b:Value}(h:bV w H a b){p:Addr}{u:Value}(hp:H≠p.block):bV (w.setCell p u) H a b:=⟨(Below.heap_setCell _ _ _ _ hp).trans h.heap⟩
def jH{fn:Func}{t H:Nat}(h:fn.results=#[.cell t 36]){tmps:Array Value}{w:World}{u0 u1:Value}(hp:tmps.getD t undef=.pointer (some ⟨H,0,none⟩))(h0:bV w H u0 u1):(results fn tmps).run Tryd.prog w=.ok (.agg #[u0,u1]) w:=LR h hp h0.c0 h0.c1
structure SS(uz:World)(B:Nat)(vz:Value)(b:List Int)(W ua:World)(z:Int)(s:Value)(w:World):Prop where
 cu:Cu uz B vz b w
 on:ay [B,W.heap.size,ua.heap.size] ua w
 t4:bV w W.heap.size (.int .i64 0) (.slice none 0 0)
 t5:bV w ua.heap.size (.int .i64 z) s
section
variable {uz W ua w w' : World} {B : Nat} {vz : Value} {b : List Int} {z : Int} {s : Value}
def SS.call(h:SS uz B vz b W ua z s w)(o:ay [B] w w')(hc:Cu uz B vz b w')(h1:B<W.heap.size)(h2:W.heap.size+1<=ua.heap.size):SS uz B vz b W ua z s w' :=
 ⟨hc,h.on.trans (o.mono (by simp)),h.t4.keep o (by simp;omega),h.t5.keep o (by simp;omega)⟩
def SS.alloc(h:SS uz B vz b W ua z s w)(o:Obj):SS uz B vz b W ua z s (w.alloc o) :=
 ⟨h.cu.step (xs:=[]) ((ay.refl [] w).alloc o) (by simp) (by simp),h.on.alloc o,h.t4.keep ((ay.refl [] w).alloc o) (by simp),h.t5.keep ((ay.refl [] w).alloc o) (by simp)⟩
def SS.drew(h:SS uz B vz b W ua z s w):SS uz B vz b W ua z s w.drew :=
 ⟨h.cu.step (xs:=[]) ((ay.refl [] w).drew) (by simp) (by simp),h.on.drew,h.t4.keep ((ay.refl [] w).drew) (by simp),h.t5.keep ((ay.refl [] w).drew) (by simp)⟩
abbrev S8(W ua:World)(z:Int)(s:Value)(w:World):Prop :=
 w.cell? ⟨W.heap.size,0,none⟩=some (.int .i64 0)/\w.cell? ⟨W.heap.size,1,none⟩=some (.slice none 0 0)/\w.frozen? ⟨W.heap.size,0,none⟩=false/\w.frozen? ⟨W.heap.size,1,none⟩=false /\
 w.cell? ⟨ua.heap.size,0,none⟩=some (.int .i64 z)/\w.cell? ⟨ua.heap.size,1,none⟩=some s/\w.frozen? ⟨ua.heap.size,0,none⟩=false/\w.frozen? ⟨ua.heap.size,1,none⟩=false
def SS.set8(h:SS uz B vz b W ua z s w){p:Addr}{u:Value}(h1:W.heap.size≠p.block)(h2:ua.heap.size≠p.block):S8 W ua z s (w.setCell p u) :=
 ⟨(h.t4.other h1).c0,(h.t4.other h1).c1,(h.t4.other h1).f,(h.t4.other h1).f,(h.t5.other h2).c0,(h.t5.other h2).c1,(h.t5.other h2).f,(h.t5.other h2).f⟩
def SS.s8(h:SS uz B vz b W ua z s w):S8 W ua z s w:=⟨h.t4.c0,h.t4.c1,h.t4.f,h.t4.f,h.t5.c0,h.t5.c1,h.t5.f,h.t5.f⟩
end
structure pB(ua:World)(L:List Nat)(A:Option Addr)(kn vars:Nat)(g:Nat)(cur:Array Value)(A2:Option Addr)(c2:Nat)(co:Int)(l:List Nat)(ys:List Int):Prop where
 A:A=some ⟨g,0,none⟩
 gL:g∈L
 heap:ua.heap[g]? = some (.cells cur 61 (0,0))
 c0:cur[kn*2]? = some (.slice A2 vars c2)
 c1:cur[kn*2+1]? = some (.int .i64 co)
 own:am ua (.sl 3 (.int .i64)) l [.slice A2 vars c2] ys
 sub:∀x∈l,x∈L
 ne:L.Nodup->∀x∈l,x≠g
 len:ys.length=vars
def LS{ua:World}{L:List Nat}{A:Option Addr}{n c:Nat}{f:List dW.den}(hO:am ua (.sl 61 dW) L [.slice A n c] f){kn:Nat}(hk:kn<f.length){vars:Nat}(hfl:∀t∈f,(t.1.length:Int)=(vars:Int)):∃g cur A2 c2 co l ys,pB ua L A kn vars g cur A2 c2 co l ys:=by
 obtain⟨g,cc,cur,l,cs,hE⟩:=sM hO hk;have hA:=hE.v;injection hA with hA _ _;obtain⟨d1,d2,l1,l2,rfl,rfl,q1,q2⟩:=hE.own;have q2:d2=[.int .i64 _]/\l2=[]:=q2;obtain⟨rfl,rfl⟩:=q2;have hlen:=hfl _ (List.getElem_mem hk);obtain⟨v,css,Ls,rfl,ho,hl,ha⟩:=id q1;obtain⟨A2,c2,rfl,_⟩:=dO ho;have e1:(f[kn]).1.length=vars:=by omega
 rw[e1]at q1 hE;exact⟨g,cur,A2,c2,_,l1,_,hA,hE.gL,hE.heap,hE.cell 0 _ rfl,hE.cell 1 _ rfl,q1,λx hx=>hE.sub x (List.mem_append_left _ hx),λhn x hx=>hE.ne hn x (List.mem_append_left _ hx),e1⟩
def LT{w:World}{l:List Nat}{A2:Option Addr}{m c2:Nat}{ys:List Int}(h:am w (.sl 3 (.int .i64)) l [.slice A2 m c2] ys)(hl:ys.length=m)(hm:0<m):∃g2 cur2,A2=some ⟨g2,0,none⟩/\g2∈l/\w.heap[g2]? = some (.cells cur2 3 (0,0))/\∀j,j<m->∃x,cur2[j]? = some (.int .i64 x):=by obtain⟨g2,cc,cur2,l0,cs,hE⟩:=sM h (k:=0) (by rw[hl];exact hm);have hA:=hE.v;injection hA with hA _ _;subst hA;refine⟨g2,cur2,rfl,hE.gL,hE.heap,λj hj=>?_⟩;obtain⟨g3,cc3,cur3,l3,cs3,hF⟩:=sM h (k:=j) (by rw[hl];exact hj);have hB:=hF.v;injection hB with hB _ _;injection hB with hB;injection hB with hB;subst hB;have e:=hF.heap;rw[hE.heap]at e;injection e with e;injection e with e;subst e;have q2:cs3=[.int .i64 _]/\l3=[]:=hF.own;obtain⟨rfl,_⟩:=q2;have:=hF.cell 0 _ rfl;simp only[Ty.nc,Nat.mul_one,Nat.add_zero]at this;exact⟨_,this⟩
def pB.out{ua W:World}{L:List Nat}{A:Option Addr}{kn vars g:Nat}{cur:Array Value}{A2:Option Addr}{c2:Nat}{co:Int}{l:List Nat}{ys:List Int}(h:pB ua L A kn vars g cur A2 c2 co l ys){B:Nat}(hL1:∀k∈L,W.heap.size+1<=k)(hBW:B<W.heap.size):g∉[B,W.heap.size,ua.heap.size]:=by have h1:=hL1 g h.gL;have h2:=(Array.getElem?_eq_some_iff.1 h.heap).1;simp only[List.mem_cons,List.not_mem_nil,or_false];omega
def mL{xs:List Nat}{ua w:World}(o:ay xs ua w){g:Nat}{cur:Array Value}{e:TypeId}(hb:ua.heap[g]? = some (.cells cur e (0,0)))(hx:g∉xs):w.heap[g]? = some (.cells cur e (0,0)) :=
 (o.keep g (Array.getElem?_eq_some_iff.1 hb).1 hx).trans hb
def mM{xs:List Nat}{ua w:World}(o:ay xs ua w){t:Ty}{L:List Nat}{cs:List Value}{y:t.den}(hO:am ua t L cs y)(hx:∀x∈L,x∉xs):am w t L cs y:=hO.frame λk hk=>o.keep k (hO.lt k hk) (hx k hk)
def AB{W ua w ub w':World}{B n c g j:Nat}{A:Option Addr}{L:List Nat}{f:List dW.den}{x:Int}(z:Int)(hO:am ua (.sl 61 dW) L [.slice A n c] f)(hL:∀k∈L,W.heap.size+1<=k)(h:ay [B,W.heap.size,ua.heap.size] ua w)(hB:B<W.heap.size)(hp:sK w ub g j .i64 x)(h2:ay [B,W.heap.size,ua.heap.size] ub w'):∃Y,Rd w' (λk=>W.heap.size<=k) gK [.int .i64 z,.slice A n c] Y:=by
 have hx:∀k∈L,k∉[B,W.heap.size,ua.heap.size]:=λk hk=>by have:=hL k hk;have:=hO.lt k hk;simp only[List.mem_cons,List.not_mem_nil,or_false];omega
 obtain⟨y',h3⟩:=oN hp (mM h hO hx);exact⟨(z,y'),[.int .i64 z],[.slice A n c],rfl,rfl,(mM h2 h3 hx).rd λk hk=>by have:=hL k hk;omega⟩
def AC{W ua w w':World}{B:Nat}{o:Obj}{p:Addr}{u:Value}(o1:ay [B] (W.alloc o) ua)(h:ay [B,W.heap.size,ua.heap.size] ua w)(hp:W.heap.size<=p.block)(h2:ay [B,W.heap.size,ua.heap.size] (w.setCell p u) w'):ay [B] W w':=by
 have e:=(ay.refl [B] W).alloc o;have s1:=e.size;have s2:=o1.size;have s3:(W.alloc o).heap.size=W.heap.size+1:=by simp
 have s4:=h.size;have s5:(w.setCell p u).heap.size=w.heap.size:=by simp[World.setCell]
 have s6:=h2.size;have t:=o1.trans' e;refine⟨h2.os.trans (h.os.trans t.os),h2.tape.trans (h.tape.trans t.tape),h2.output.trans (h.output.trans t.output),by omega,λk hk hx=>?_⟩;have hx3:k∉[B,W.heap.size,ua.heap.size]:=by simp only[List.mem_cons,List.not_mem_nil,or_false]at hx ⊢;omega
 rw[h2.keep k (by omega) hx3,Below.heap_setCell _ _ _ _ (by omega),h.keep k (by omega) hx3];exact t.keep k hk hx
def LU{W ua w':World}{B:Nat}{o:Obj}{xs:List Nat}(o1:ay [B] (W.alloc o) ua)(h:ay (B::xs) ua w')(hx:∀x∈xs,W.heap.size<=x):ay [B] W w':=by
 have e:=(ay.refl [B] W).alloc o;have s1:=e.size;have s2:=o1.size;have s3:(W.alloc o).heap.size=W.heap.size+1:=by simp
 have t:=o1.trans' e;refine⟨h.os.trans t.os,h.tape.trans t.tape,h.output.trans t.output,by have:=h.size;omega,λk hk hkx=>?_⟩;rw[h.keep k (by omega) λhm=>?_];·exact t.keep k hk hkx
 ·rcases List.mem_cons.1 hm with rfl|hm;·exact hkx (List.mem_singleton.2 rfl)
  ·have:=hx k hm;omega
def LV:∃i z,Tryd.prog.info? 61=some i/\i.zero=some z/\i.size=2/\i.bytes=32/\z.cells.size=2:=by
 have h:((Tryd.prog.info? 61).map λi=>(i.size,i.bytes,i.zero.map λz=>z.cells.size))=some (2,32,some 2):=by kernel_rfl
 obtain⟨i,hi,h⟩:=Option.map_eq_some_iff.1 h;injection h with h1 h;injection h with h2 h;obtain⟨z,hz,h3⟩:=Option.map_eq_some_iff.1 h;exact⟨i,z,hi,hz,h1,h2,h3⟩
def um{w w':World}{g:Nat}(h:w.grownBy w' (some g)):ay [g] w w':=⟨h.os,h.tape,h.output,h.size,λk hk hx=>h.block k hk λe=>hx (by injection e with e;rw[e];exact List.mem_singleton.2 rfl)⟩
def LW{W ua wA:World}{B n c g:Nat}{L:List Nat}{f:List dW.den}{kn vn:Nat}{cur:Array Value}{A2:Option Addr}{c2:Nat}{co:Int}{l:List Nat}{ys:List Int}(z:Int)(hO:am ua (.sl 61 dW) L [.slice (some ⟨g,0,none⟩) n c] f)(hfn:f.length=n)(hnd:L.Nodup)(hL:∀k∈L,W.heap.size+1<=k)(hB:B<W.heap.size)(h12:W.heap.size+1<=ua.heap.size)
  (onA:ay [B,W.heap.size,ua.heap.size] ua wA) (hlt:ua.heap.size<wA.heap.size) (hE:pB ua L (some ⟨g,0,none⟩) kn vn g cur A2 c2 co l ys) :
  ∃fl,wA.ownsRow 0 61 2 (.slice (some ⟨g,0,none⟩) n c) n fl/\∀(g3 cap:Nat) (ue:World),ue.ownsRow 0 61 2 (.slice (some ⟨g3,0,none⟩) (n+1) cap) (n+1) (fl++[.slice A2 vn c2,.int .i64 co])->wA.grownBy ue (some g)->(some g=some g3\/g3=wA.heap.size) ->
   g3∉[B,W.heap.size,ua.heap.size]/\ay [B,W.heap.size,ua.heap.size,g] ua ue/\∀w',ay [B,W.heap.size,ua.heap.size] ue w'->∃Y,Rd w' (λk=>W.heap.size<=k) gK [.int .i64 z,.slice (some ⟨g3,0,none⟩) (n+1) cap] Y:=by
 have hx:∀k∈L,k∉[B,W.heap.size,ua.heap.size]:=λk hk=>by have:=hL k hk;have:=hO.lt k hk;simp only[List.mem_cons,List.not_mem_nil,or_false];omega
 obtain⟨v',css,Ls,hv',ho,hLL,ha⟩:=mM onA hO hx;injection hv' with hv';subst hv';rw[hfn]at ho;have hLL:L=g::Ls.flatten:=hLL;refine⟨css.flatten,ho,λg3 cap ue h5 hg hat=>?_⟩;have hgL:=hL g hE.gL;have hgx:=hx g hE.gL;have h3:g3=g\/g3=wA.heap.size:=hat.imp (λe=>by injection e with e;exact e.symm) id;have hg3:g3∉[B,W.heap.size,ua.heap.size]:=by
  rcases h3 with rfl|rfl;·exact hgx
  ·simp only[List.mem_cons,List.not_mem_nil,or_false];omega
 have on5:ay [B,W.heap.size,ua.heap.size,g] wA ue:=(um hg).mono (by simp);have on15:ay [B,W.heap.size,ua.heap.size,g] ua ue:=(onA.mono (by simp)).trans on5;refine⟨hg3,on15,λw' on0=>?_⟩;have on':ay [B,W.heap.size,ua.heap.size,g] ue w':=on0.mono (by simp);have hnx:∀k∈L,k≠g->k∉[B,W.heap.size,ua.heap.size,g]:=λk hk hne=>by have:=hx k hk;simp only[List.mem_cons,List.not_mem_nil,or_false]at this ⊢;omega
 have hin:∀x∈Ls.flatten,x∈L/\x≠g:=λx hx=>⟨by rw[hLL];exact List.mem_cons_of_mem _ hx,λe=>by rw[hLL]at hnd;exact(List.nodup_cons.1 hnd).1 (e▸hx)⟩;have hall:ac (λc y=>Rd w' (λk=>W.heap.size<=k) dW c y) css f:=az.two (Q:=λ_ c y=>Rd w' (λk=>W.heap.size<=k) dW c y) (R:=λc y=>Rd w' (λk=>W.heap.size<=k) dW c y) (λ_ _ _ h=>h) (ha.imp_mem (Q':=λ_ c y=>Rd w' (λk=>W.heap.size<=k) dW c y) λl c y hl h=>(mM (on5.trans on') h λx hx=>by have:=hin x (List.mem_flatten.2 ⟨l,hl,hx⟩);exact hnx x this.1 this.2).rd λx hx=>by have:=hL x (hin x (List.mem_flatten.2 ⟨l,hl,hx⟩)).1;omega)
 have hnew:Rd w' (λk=>W.heap.size<=k) dW [.slice A2 vn c2,.int .i64 co] (ys,co) :=
  ⟨[.slice A2 vn c2],[.int .i64 co],rfl,(mM (on15.trans on') hE.own λx hx=>hnx x (hE.sub x hx) (hE.ne hnd x hx)).rd (λx hx=>by have:=hL x (hE.sub x hx);omega),rfl⟩
 obtain⟨hc1,hc2⟩:n+1<=cap/\cap<=maxLen:=by obtain⟨A0,c0,e0,q1,q2⟩:=dO h5;injection e0 with _ _ e0;subst e0;exact⟨q1,q2⟩
 refine⟨(z,f++[(ys,co)]),[.int .i64 z],[.slice (some ⟨g3,0,none⟩) (n+1) cap],rfl,rfl,some ⟨g3,0,none⟩,n+1,cap,rfl,by rw[List.length_append,hfn];rfl,hc1,hc2,.inr ⟨⟨g3,0,none⟩,css++[[.slice A2 vn c2,.int .i64 co]],rfl, ?_,hall.app ⟨hnew,trivial⟩,λi u hu=>?_⟩⟩
 ·rcases h3 with rfl|rfl;·exact Nat.le_of_succ_le hgL
  ·show W.heap.size<=wA.heap.size;omega
 ·rw[List.flatten_append]at hu;have h6:=h5.cells rfl i u (by simpa using hu);refine on0.cell h6 ?_;rw[add_lit];exact hg3
structure AD(W:World)(B:Nat)(e:Ending)(w':World):Prop where
 ex:∃(arr:Array Value) (Y:gK.den),e=.returned (.agg arr)/\Rd w' (λk=>W.heap.size<=k) gK arr.toList Y/\ay [B] W w'
section
variable {uz W : World} {B : Nat} {vz : Value} {b : List Int}
set_option maxHeartbeats 1600000 in
def LX(hc:Cu uz B vz b W){vars:Int}(hv:1<=vars/\vars<=3):Calls Tryd.prog 44 #[.pointer (some ⟨B,0,none⟩),.int .i64 vars] W λe w'=>AD W B e w':=by
  obtain⟨vn,rfl⟩:=Int.eq_ofNat_of_zero_le (show 0<=vars by omega);have hvn:1<=vn/\vn<=3:=by omega
  have hc1:Cu uz B vz b (W.alloc (.cells #[.int .i64 0,.slice none 0 0] 36)):=hc.step (xs:=[]) ((ay.refl [] W).alloc _) (by simp) (by simp);have hs1:(W.alloc (.cells #[.int .i64 0,.slice none 0 0] 36)).heap.size=W.heap.size+1:=by simp
  have hBW:=hc.bsize;have t4:bV (W.alloc (.cells #[.int .i64 0,.slice none 0 0] 36)) W.heap.size (.int .i64 0) (.slice none 0 0):=bV.new;go_enter Tryd.func44,Tryd.ntmps44
  go_wp2_with (first
    | (go_at_call 46
       refine(LP hc1 hv).mono ?_;rintro e ua ⟨z,A,n,c,L,f,rfl,hO,hfn,hnc,hcm,hL,hnd,hn4,hfl,o1,hc2⟩
       have sz1:W.heap.size+1<=ua.heap.size:=by have:=o1.size;omega
       have hL1:∀k∈L,W.heap.size+1<=k:=λk hk=>by have:=hL k hk;omega
       have s2:SS uz B vz b W ua z (.slice A n c) (ua.alloc (.cells #[.int .i64 z,.slice A n c] 36)):=⟨hc2.step (xs:=[]) ((ay.refl [] ua).alloc _) (by simp) (by simp),(ay.refl _ ua).alloc _,(t4.keep o1 (by simp;omega)).keep ((ay.refl [] ua).alloc _) (by simp),bV.new⟩)
    | (go_at_call 47
       refine(LO s2.cu).mono ?_;rintro e ub ⟨x,rfl,o2,hc4⟩
       have s3:=s2.call o2 hc4 hBW sz1;have g3:=s3.s8)
    | (go_at_call 67
       refine(pA (s3.alloc _).cu (Az (by have:=s3.cu.bsize;simp;omega)) (by simp)).mono ?_;rintro e uc ⟨y,rfl,o3,hc5⟩
       have s4:=(s3.alloc _).call o3 hc5 hBW sz1;have g4:=s4.s8)
    | (go_at_call 45
       refine(mK s4.cu).mono ?_;rintro e ud ⟨q,rfl,hq,o4,hc6⟩
       have s5:=s4.call o4 hc6 hBW sz1;have g5:=s5.s8)
    | (go_at_call 45
       refine(mK s3.cu).mono ?_;rintro e uc ⟨k,rfl,hk,o3,hc5⟩
       have hn0:0<n:=by
         have hx:((n:Int) == 0)=false:=by assumption
         have:n≠0:=by simpa using hx
         omega
       obtain⟨hk0,hk1⟩:=hk (by omega) (by omega);obtain⟨kn,rfl⟩:=Int.eq_ofNat_of_zero_le hk0;have hkn:kn<n:=by omega
       obtain⟨g,cur,A2,c2,co,l,ys,hE⟩:=LS hO (kn:=kn) (by omega) hfl;obtain rfl:=hE.A;have hgx:=hE.out hL1 hBW;have s4:=s3.call o3 hc5 hBW sz1))
  · (try simp only[Exit.inBlock,Exit.then])
    refine bodyPost_ret (jH rfl rfl s3.t4.set0.set1) rfl ?_;exact⟨⟨_,_,rfl,ul z hO hL1 ((s3.on.setCell (by simp) _).setCell (by simp) _) hBW,uk o1 ((s3.on.setCell (by simp) _).setCell (by simp) _)⟩⟩
  · (try simp only[Exit.inBlock,Exit.then])
    refine bodyPost_ret (jH rfl rfl (s4.t4.other (by show W.heap.size≠ua.heap.size;omega)).set0.set1) rfl ?_;exact⟨⟨_,_,rfl,ul _ hO hL1 (((s4.on.setCell (by simp) _).setCell (by simp) _).setCell (by simp) _) hBW,uk o1 (((s4.on.setCell (by simp) _).setCell (by simp) _).setCell (by simp) _)⟩⟩
  rotate_left 2
  · (try simp only[Exit.inBlock,Exit.then])
    refine bodyPost_ret (jH rfl rfl (s5.t4.other (by show W.heap.size≠ua.heap.size;omega)).set0.set1) rfl ?_;exact⟨⟨_,_,rfl,ul _ hO hL1 (((s5.on.setCell (by simp) _).setCell (by simp) _).setCell (by simp) _) hBW,uk o1 (((s5.on.setCell (by simp) _).setCell (by simp) _).setCell (by simp) _)⟩⟩
  rotate_left 1
  · have hne1:¬ g=ua.heap.size:=by simp at hgx;omega
    have hne2:¬ ua.heap.size=g:=by simp at hgx;omega
    have hne3:¬ g=W.heap.size:=by simp at hgx;omega
    have hne4:¬ W.heap.size=g:=by simp at hgx;omega
    go_region_held3 (λw'=>S8 W ua z (.slice (some ⟨g,0,none⟩) n c) w')
      (first|exact s5.drew.s8|exact(s5.drew.alloc _).s8|exact s6.s8|exact s6.set8 hne4 hne2)
      (first | (go_at_call 67;refine(pA (s5.drew.alloc _).cu (Az (by have:=s5.cu.bsize;simp;omega)) (by simp)).mono ?_;rintro e ue ⟨y,rfl,o5,hc7⟩;have s6:=(s5.drew.alloc _).call o5 hc7 hBW sz1;have h5:=mL s6.on hE.heap hgx;have c5:=(it h5).trans hE.c1;have f5:=oO (j:=kn*2+1) h5))
    have g6:=s6.s8;go_wp2_with fail
    (try simp only[Exit.inBlock,Exit.then])
    have tw:=((s6.t4.other (p:=⟨g,kn*2+1,none⟩) (u:=.int .i64 y) hne4).set0 (u:=.int .i64 z)).set1 (u:=.slice (some ⟨g,0,none⟩) n c);refine bodyPost_ret (jH rfl rfl tw) rfl ?_;have oz:=((ay.refl [B,W.heap.size,ua.heap.size] (ue.setCell ⟨g,kn*2+1,none⟩ (.int .i64 y))).setCell (p:=⟨W.heap.size,0,none⟩) (by simp) (.int .i64 z)).setCell (p:=⟨W.heap.size,1,none⟩) (by simp) (.slice (some ⟨g,0,none⟩) n c);obtain⟨Y,hY⟩:=AB z hO hL1 s6.on hBW (xn (x':=y) h5 hE.c1) oz;exact⟨⟨_,Y,rfl,hY,AC o1 s6.on (by have:=hL1 g hE.gL;show W.heap.size<=g;omega) oz⟩⟩
  · obtain⟨g2,cur2,rfl,hg2,hh2,hx2⟩:=LT hE.own hE.len (by omega)
    have hgL2:=hE.sub g2 hg2;have hgx2:g2∉[B,W.heap.size,ua.heap.size]:=by have h1:=hL1 g2 hgL2;have h2:=(Array.getElem?_eq_some_iff.1 hh2).1;simp only[List.mem_cons,List.not_mem_nil,or_false];omega
    have hne:g2≠g:=hE.ne hnd g2 hg2;have hne1:¬ g2=ua.heap.size:=by simp at hgx2;omega
    have hne2:¬ ua.heap.size=g2:=by simp at hgx2;omega
    have hne3:¬ g2=W.heap.size:=by simp at hgx2;omega
    have hne4:¬ W.heap.size=g2:=by simp at hgx2;omega
    have hki:(0:Int)<=(kn:Int):=by omega
    have hkj:(kn:Int)<(n:Int):=by omega
    have ec:∀w',ay [B,W.heap.size,ua.heap.size] ua w'->w'.cell? ⟨g,kn*2,none⟩=some (.slice (some ⟨g2,0,none⟩) vn c2):=λw' o=>(it (mL o hE.heap hgx)).trans hE.c0;go_region_held3 (λw'=>S8 W ua z (.slice (some ⟨g,0,none⟩) n c) w'/\w'.cell? ⟨g,kn*2,none⟩=some (.slice (some ⟨g2,0,none⟩) vn c2))
      (first|exact⟨s5.drew.s8,ec _ s5.drew.on⟩|exact⟨(s5.drew.alloc _).s8,ec _ (s5.drew.alloc _).on⟩|exact⟨s6.s8,ec _ s6.on⟩|exact⟨(s6.alloc _).s8,ec _ (s6.alloc _).on⟩|exact⟨s7.s8,ec _ s7.on⟩|exact⟨s7.set8 hne4 hne2,(World.cell?_of_block (Below.heap_setCell _ _ _ _ (Ne.symm hne))).trans (ec _ s7.on)⟩)
      (first
        | (go_at_call 45;refine(mK s5.drew.cu).mono ?_;rintro e ue ⟨j,rfl,hj,o5,hc7⟩;obtain⟨hj0,hj1⟩:=hj (by omega) (by omega);obtain⟨jn,rfl⟩:=Int.eq_ofNat_of_zero_le hj0;have hjn:jn<vn:=(by omega);have s6:=s5.drew.call o5 hc7 hBW sz1)
        | (go_at_call 45;refine(mK (s5.drew.alloc _).cu).mono ?_;rintro e ue ⟨j,rfl,hj,o5,hc7⟩;obtain⟨hj0,hj1⟩:=hj (by omega) (by omega);obtain⟨jn,rfl⟩:=Int.eq_ofNat_of_zero_le hj0;have hjn:jn<vn:=(by omega);have s6:=(s5.drew.alloc _).call o5 hc7 hBW sz1;have hrd:=LQ o5 s5.drew.cu.bsize)
        | (go_at_call 67;refine(pA s6.cu hrd (by simp)).mono ?_;rintro e uf ⟨y,rfl,o6,hc8⟩;have s7:=s6.call o6 hc8 hBW sz1;have h6:=mL s7.on hh2 hgx2;obtain⟨x13,hx13⟩:=hx2 jn hjn;have c13:=(it (j:=jn) h6).trans hx13;have f13:=oO (j:=jn) h6)
        | (go_at_call 67;refine(pA (s6.alloc _).cu (AA (by have:=s6.cu.bsize;simp;omega)) (by simp)).mono ?_;rintro e uf ⟨y,rfl,o6,hc8⟩;have s7:=(s6.alloc _).call o6 hc8 hBW sz1;have h6:=mL s7.on hh2 hgx2;obtain⟨x13,hx13⟩:=hx2 jn hjn;have c13:=(it (j:=jn) h6).trans hx13;have f13:=oO (j:=jn) h6))
    all_goals
      have g7:=s7.s8;go_wp2_with fail
      (try simp only[Exit.inBlock,Exit.then])
      have tw:=((s7.t4.other (p:=⟨g2,jn,none⟩) (u:=.int .i64 y) hne4).set0 (u:=.int .i64 z)).set1 (u:=.slice (some ⟨g,0,none⟩) n c);refine bodyPost_ret (jH rfl rfl tw) rfl ?_;have oz:=((ay.refl [B,W.heap.size,ua.heap.size] (uf.setCell ⟨g2,jn,none⟩ (.int .i64 y))).setCell (p:=⟨W.heap.size,0,none⟩) (by simp) (.int .i64 z)).setCell (p:=⟨W.heap.size,1,none⟩) (by simp) (.slice (some ⟨g,0,none⟩) n c);obtain⟨Y,hY⟩:=AB z hO hL1 s7.on hBW (xn (x':=y) h6 hx13) oz;exact⟨⟨_,Y,rfl,hY,AC o1 s7.on (by have:=hL1 g2 hgL2;show W.heap.size<=g2;omega) oz⟩⟩
  · obtain⟨i61,z61,hi1,hi2,hi3,hi4,hi5⟩:=LV
    have sA:=s5.drew.alloc (.cells #[.slice A2 vn c2,.int .i64 co] 61);have hszA:(ud.drew.alloc (.cells #[.slice A2 vn c2,.int .i64 co] 61)).heap.size=ud.heap.size+1:=by simp
    obtain⟨fl,hfl1,hfl2⟩:=LW z hO hfn hnd hL1 hBW sz1 sA.on (by have:=s5.t5.lt;omega) hE;have hnews:=World.news_of_block (w:=ud.drew.alloc (.cells #[.slice A2 vn c2,.int .i64 co] 61)) (B:=ud.drew.heap.size) (cs:=#[.slice A2 vn c2,.int .i64 co]) (t:=61) (fr:=(0,0)) (by show(ud.drew.heap.push _)[ud.drew.heap.size]? = _;exact Array.getElem?_push_size);have hone:∀u∈[Value.slice A2 vn c2,.int .i64 co],u.oneCell'=true:=by intro u hu;simp only[List.mem_cons,List.not_mem_nil,or_false]at hu;rcases hu with rfl|rfl<;>rfl
    have hki:(0:Int)<=(kn:Int):=by omega
    have hkj:(kn:Int)<(n:Int):=by omega
    have h4:=mL s5.on hE.heap hgx;have e0:=(it h4).trans hE.c0;have e1:=(it h4).trans hE.c1;have n0:=World.new_ne ud _ e0;have eA:=(s5.alloc (.cells #[.slice A2 vn c2,.int .i64 co] 61)).t5.c1;have n1:=World.new_ne ud _ s5.t5.c1;have hg1:W.heap.size∉[g]:=by simp at hgx ⊢;omega
    have hg2:ua.heap.size∉[g]:=by simp at hgx ⊢;omega
    have hgW:W.heap.size<=g:=by have:=hL1 g hE.gL;omega
    go_region_law ((refine step_append_lies _ (by rfl) (.tmp 31) (.tmp 37) 34 (by rfl) 0 61 i61 z61 2 32 Tryd.underlying34 hi1 hi2 hi3 hi4 hi5 (by decide) (.slice (some ⟨g,0,none⟩) n c) n fl (by rfl) hfl1 ⟨ud.drew.heap.size,0,none⟩ 1 1 [.slice A2 vn c2,.int .i64 co] (by rfl) rfl hnews hone (by decide) (by have:n<=4:=hn4;rw[cR];omega) (by omega) (Nat.zero_le _) _ rfl ?_;intro g3 cap ue hown5 hgrow hat hlt;obtain⟨q1,q2,q3⟩:=hfl2 g3 cap ue hown5 hgrow hat;have u4:=sA.t4.keep (um hgrow) hg1;have u5:=sA.t5.keep (um hgrow) hg2;have c0:=u4.c0;have c1:=u4.c1;have c3:=u4.f (j:=0);have c4:=u4.f (j:=1);have c5:=u5.c0;have c6:=u5.c1;have c7:=u5.f (j:=0);have c8:=u5.f (j:=1)))
    all_goals
      go_wp2_with fail
      (try simp only[Exit.inBlock,Exit.then])
      have tw:=((u4.other (p:=⟨ua.heap.size,1,none⟩) (u:=.slice (some ⟨g3,0,none⟩) (n+1) cap) (by show W.heap.size≠ua.heap.size;omega)).set0 (u:=.int .i64 z)).set1 (u:=.slice (some ⟨g3,0,none⟩) (n+1) cap);refine bodyPost_ret (jH rfl rfl tw) rfl ?_;have oz:=(((ay.refl [B,W.heap.size,ua.heap.size] ue).setCell (p:=⟨ua.heap.size,1,none⟩) (by simp) (.slice (some ⟨g3,0,none⟩) (n+1) cap)).setCell (p:=⟨W.heap.size,0,none⟩) (by simp) (.int .i64 z)).setCell (p:=⟨W.heap.size,1,none⟩) (by simp) (.slice (some ⟨g3,0,none⟩) (n+1) cap);obtain⟨Y,hY⟩:=q3 _ oz;exact⟨⟨_,Y,rfl,hY,LU o1 (q2.trans (oz.mono (by simp))) (by intro x hx;simp only[List.mem_cons,List.not_mem_nil,or_false]at hx;omega)⟩⟩
end
def LY{b:List Int}(h:b.length<=maxLen):bn b (bL.g b)=true:=by rw[oQ];exact⟨Int.le_refl 0,by show(0:Int)<=_;omega,h⟩
section
variable {uz W : World} {vz : Value} {b : List Int}
def LZ(hI:Inv.I Tryd.prog uz)(hr:Rd uz (λ_=>True) (.sl 5 (.int .u8)) [vz] b)(o:ay [] uz W):Calls Tryd.prog 43 #[vz] W λe w'=>∃g:Nat,e=.returned (.pointer (some ⟨g,0,none⟩))/\W.heap.size<=g/\ay [] W w'/\Cu uz g vz b w':=by
 have hb:Below uz.heap.size uz W:=o.below (Nat.le_refl _) (by simp);have hrW:Rd W (λ_=>True) (.sl 5 (.int .u8)) [vz] b:=(hr.lt.frame λk hk _=>hb.block k hk.2).mono λ_ _=>trivial;have hE:=zn W #[vz] (b,()) ⟨[vz],[],[],rfl,rfl,⟨rfl,hrW⟩,rfl⟩ rfl (Inv.keep uz W (λk hk=>hb.block k (Inv.lt uz k hI hk)) hI);have eg:Enters Tryd.prog 43:=enters_of Tryd.func43 (by kernel_rfl) rfl;have hlen:b.length<=maxLen:=hr.bd.1;have hone:vz.oneCell'=true:=by obtain⟨A,n,c,e,_⟩:=hr;injection e with e;subst e;rfl
 rcases hE with⟨_,h⟩|⟨v,w',h,_⟩
 ·refine h.mono ?_;rintro e w' ⟨v,g,rfl,A⟩
  obtain⟨arr,cm,m1,m2,m3,m4⟩:=A.ref;have hg:W.heap.size<=g:=A.new;have on:ay [] W w':=⟨A.os,A.tape.tape,A.output,A.size,λk hk _=>A.old k hk⟩;refine⟨g,by rw[show v=_ from A.ret],hg,on,hI,hr,Nat.le_trans o.size hg,hone,hb.trans (on.below o.size (by simp)),bL.g b, ?_,LY hlen⟩;obtain⟨c1,c2,L1,L2,hcm,_,o1,o2⟩:=(show am w' (.pair (.int .i64) (.int .i64)) [] cm (bL.g b)from m4);have o1:c1=[.int .i64 _]/\L1=[]:=o1;have o2:c2=[.int .i64 _]/\L2=[]:=o2;obtain⟨rfl,_⟩:=o1;obtain⟨rfl,_⟩:=o2;subst hcm;rw[show w'.heap[g]? = some (.cells arr 84 (0,0))from m1];congr 2;exact Array.toList_inj.1 m3
 ·rw[eg]at h;cases h
def L3{W:World}{B:Nat}{e:Ending}{w':World}(h:AD W B e w'):∃(z:Int) (A:Option Addr) (n c:Nat) (Y:gK.den),e=.returned (.agg #[.int .i64 z,.slice A n c])/\Rd w' (λk=>W.heap.size<=k) gK [.int .i64 z,.slice A n c] Y/\ay [B] W w':=by obtain⟨arr,Y,rfl,hr,ho⟩:=h.ex;obtain⟨c1,c2,e1,k1,k2⟩:=id hr;have k1:c1=[.int .i64 Y.1]:=k1;obtain⟨A,n,c,k2,_⟩:=k2;subst k1 k2;have e2:arr=#[.int .i64 Y.1,.slice A n c]:=Array.toList_inj.1 e1;subst e2;exact⟨_,A,n,c,Y,rfl,hr,ho⟩
structure L4(uz:World)(e:Ending)(w':World):Prop where
 ex:∃(arr:Array Value) (Y:gK.den),e=.returned (.agg arr)/\Rd w' (λk=>uz.heap.size<=k) gK arr.toList Y
 bel:Below uz.heap.size uz w'
def L5(hI:Inv.I Tryd.prog uz)(hr:Rd uz (λ_=>True) (.sl 5 (.int .u8)) [vz] b):Calls Tryd.prog 23 #[vz] uz λe w'=>L4 uz e w':=by
  obtain⟨A0,n0,c0,e0,_⟩:=id hr;injection e0 with e0;subst e0;have t2:bV (uz.alloc (.cells #[.int .i64 0,.slice none 0 0] 36)) uz.heap.size (.int .i64 0) (.slice none 0 0):=bV.new;have oA:ay [] uz (uz.alloc (.cells #[.int .i64 0,.slice none 0 0] 36)):=(ay.refl [] uz).alloc _;have hs1:(uz.alloc (.cells #[.int .i64 0,.slice none 0 0] 36)).heap.size=uz.heap.size+1:=by simp
  go_enter Tryd.func23,Tryd.ntmps23
  go_wp2_with (first
    | (go_at_call 43
       refine(LZ hI hr oA).mono ?_;rintro e ua ⟨g,rfl,hg,o1,hc1⟩
       have t3:=t2.keep o1 (by simp);have hg1:uz.heap.size∉[g]:=by simp;omega)
    | (go_at_call 45
       refine(mK hc1).mono ?_;rintro e ub ⟨x,rfl,hx,o2,hc2⟩
       obtain⟨hx0,hx1⟩:=hx (by omega) (by omega);have t4:=t3.keep o2 hg1;have hw:IntKind.i64.wrap (1+x)=1+x:=cO (by omega) (by omega))
    | (go_at_call 44
       refine(LX hc2 (by omega)).mono ?_;rintro e uc hbent
       obtain⟨z,A,n,c,Y,rfl,hY,o3⟩:=L3 hbent;have t5:=t4.keep o3 hg1;have t6:=t5.keep ((ay.refl [] uc).alloc (.cells #[.int .i64 z,.slice A n c] 36)) (by simp);have g0:=t6.c0;have g1:=t6.c1;have g2:=t6.f (j:=0);have g3:=t6.f (j:=1)))
  have tw:=(t6.set0 (u:=.int .i64 z)).set1 (u:=.slice A n c);refine bodyPost_ret (jH rfl rfl tw) rfl ?_;have oz:=(((ay.refl [uz.heap.size] uc).alloc (.cells #[.int .i64 z,.slice A n c] 36)).setCell (p:=⟨uz.heap.size,0,none⟩) (by simp) (.int .i64 z)).setCell (p:=⟨uz.heap.size,1,none⟩) (by simp) (.slice A n c);have s1:=o1.size;have s2:=o2.size;have s3:=o3.size;refine⟨⟨_,Y,rfl,(hY.lt.frame λk hk _=>oz.keep k hk.2 ?_).mono λk hk=>?_⟩,(hc2.bel.trans (o3.below (by omega) ?_)).trans (oz.below (by omega) ?_)⟩
  · have:=hk.1
    simp only[List.mem_singleton];omega
  · have:=hk.1
    omega
  · intro x hx
    have:=List.mem_singleton.1 hx;omega
  · intro x hx
    have:=List.mem_singleton.1 hx;omega
end
def L6(_:True):kg Tryd.prog 23 uh:=by
 intro w args X ha hpre hI;obtain⟨args⟩:=args;obtain⟨b,u⟩:=X;match args,ha with
 |[],ha=>exact ha.elim
 |_::_::_,ha=>obtain⟨_,_,_,_,_,_,ha⟩:=ha;exact ha.elim
 |[v],ha =>
  obtain⟨cs,L1,L2,_,h1,h2,_⟩:=ha;have h1:cs=[v]:=h1;subst h1;have h2:L1=[]/\Rd w (λ_=>True) (.sl 5 (.int .u8)) [v] b:=h2;have eg:∀args w,(callFunc 23 args).run Tryd.prog w=.ok (.enter 23 args) w:=enters_of Tryd.func23 (by kernel_rfl) rfl;refine .inl ⟨eg _ _,(L5 hI h2.2).mono ?_⟩;rintro e w' h
  obtain⟨arr,Y,rfl,hY⟩:=h.ex;exact⟨_,rfl,⟨arr,Y,rfl,hY⟩,h.bel.os,⟨h.bel.tape,λd=>d.elim⟩,h.bel.output,h.bel.size,h.bel.block⟩
end
def L7:kg Tryd.prog 23 uh:=L6 Ci.ok
def AE:bf:=⟨[⟨.int .i64,false,false⟩],[⟨.str,false,false⟩]⟩
def pC:aO:=⟨AE,(some λX=>aZ.P X.1),λX=>((),((aZ.g X.1),()))⟩
def AF:Gm:=bq
def L8:ao Tryd.prog AF:=ao.nil
def L9:aa:=⟨[],[],[],[],[]⟩
def Ma(a:Int):St:=bG AE.ps (a,())
def AG(a:Int):St:=al [(0,xi a)] [] []
def Mb:aa:=⟨[0],[],[],[],[]⟩
def jI(a:List Int)(b:Int):St:=al [(0,xi b),(3,xo 1000192)] [] [(1000192,(⟨5,.int .u8,a,true,false⟩:ah))]
def pD:aa:=⟨[0,3],[],[],[],[(⟨false,3,0⟩,1000192)]⟩
def pE(a:List Int)(b c:Int):St:=al [(0,xi b),(3,xo 1000192),(4,xi c)] [] [(1000192,(⟨5,.int .u8,a,true,false⟩:ah))]
def AH:aa:=⟨[0,3,4],[],[],[],[(⟨false,3,0⟩,1000192)]⟩
def AI(a b:List Int)(c:Int):St:=al [(0,xi c),(3,xo 1000192),(6,xo 1000384)] [] [(1000192,(⟨5,.int .u8,a,true,false⟩:ah)),(1000384,(⟨5,.int .u8,b,true,false⟩:ah))]
def Mc:aa:=⟨[0,3,6],[],[],[],[(⟨false,3,0⟩,1000192),(⟨false,6,0⟩,1000384)]⟩
def AJ(a b:List Int):St:=al [(3,xo 1000192),(6,xo 1000384)] [] [(1000192,(⟨5,.int .u8,a,true,false⟩:ah)),(1000384,(⟨5,.int .u8,b,true,false⟩:ah))]
def Md:aa:=⟨[3,6],[],[],[],[(⟨false,3,0⟩,1000192),(⟨false,6,0⟩,1000384)]⟩
def pF(a b:List Int)(c:Int):St:=al [(3,xo 1000192),(6,xo 1000384),(7,xi c)] [] [(1000192,(⟨5,.int .u8,a,true,false⟩:ah)),(1000384,(⟨5,.int .u8,b,true,false⟩:ah))]
def AK:aa:=⟨[3,6,7],[],[],[],[(⟨false,3,0⟩,1000192),(⟨false,6,0⟩,1000384)]⟩
def mN(a:List Int):St:=al [(6,xo 1000384)] [] [(1000384,(⟨5,.int .u8,a,true,false⟩:ah))]
def un:aa:=⟨[6],[],[],[],[(⟨false,6,0⟩,1000384)]⟩
def Me(a:ByteArray):St:=al [(2,.c (.str a))] [] []
def Mf:aa:=⟨[2],[],[],[],[]⟩
def Mg:Nat->Option aa:=au [(0,pD),(2,un),(1000000,Mf)]
abbrev gM{J:Type}(N n:Nat)(U:St)(l:aa)(K:KT J):Option J:=ak AF bu Mg N (ba 99 (bv Tryd.f56) n) .n U (ap (some l) K)
def Mh N a (K:KT J):gM N 2 (Ma a) Mb K =
 aZ.Z1 N a (λa=>K .nrm (AG a)):=by kernel_rfl
def Mi N a (K:KT J):gM N 5 (AG a) pD K =
 aZ.Z3 N a (λb a=>K .nrm (jI b a)):=by kernel_rfl
def Mj N a b (K:KT J):gM N 11 (jI a b) AH K =
 aZ.Z5 N a b (λa b c=>K .nrm (pE a b c)):=by kernel_rfl
def Mk N a b c (K:KT J):gM N 71 (pE a b c) AH K =
 aZ.Z9 N a b c (λa b c=>K .nrm (pE a b c)) (λa b=>K (.exit 0) (jI a b)):=by kernel_rfl
def Ml N (K:KT J):=fh K (aZ.Z8L N (λa b=>K (.exit 0) (jI a b))) (λa b c k=>aZ.Z9 N a b c k (λa b=>K (.exit 0) (jI a b))) (λF a b c=>Mk N a b c _) (by kernel_rfl)
def Mm N a b c (K:KT J):=vL (pE a b c) (Ml N (jK pD K) N a b c) (by kernel_rfl)
def Mn N a b c (K:KT J):=vB 0 pD K (aZ.Z7 N a b c (λa b=>K .nrm (jI a b))) (Mm N a b c _) (by kernel_rfl)
def Mo N a b (K:KT J):gM N 47 (jI a b) Mc K =
 aZ.Z11 N a b (λa c b=>K .nrm (AI a c b)):=by kernel_rfl
def Mp N a b c (K:KT J):gM N 95 (AI a b c) Md K =
 aZ.Z13 N a b c (λa b=>K .nrm (AJ a b)):=by kernel_rfl
def Mq N a b (K:KT J):gM N 319 (AJ a b) AK K =
 aZ.Z16 N a b (λa b c=>K .nrm (pF a b c)):=by kernel_rfl
def Mr N b a c (K:KT J):gM N 1215 (pF b a c) AK K =
 aZ.Z19 N b a c (λb a c=>K .nrm (pF b a c)) (λa=>K (.exit 2) (mN a)):=by kernel_rfl
def Mt N (K:KT J):=fh K (aZ.Z18L N (λa=>K (.exit 2) (mN a))) (λb a c k=>aZ.Z19 N b a c k (λa=>K (.exit 2) (mN a))) (λF b a c=>Mr N b a c _) (by kernel_rfl)
def Mu N a b c (K:KT J):=vL (pF a b c) (Mt N (jK un K) N a b c) (by kernel_rfl)
def Mv N b a c (K:KT J):=vB 2 un K (aZ.Z17 N b a c (λa=>K .nrm (mN a))) (Mu N b a c _) (by kernel_rfl)
def Mw N a b (K:KT J):=vQ (λk=>aZ.Z16 N a b k) (Mq N a b _) (cv λa b c=>Mv N a b c K)
def Mx N a (K:KT J):gM N 255 (mN a) L9 K =
 aZ.Z20 N a (λb=>K .ret (Me b)):=by kernel_rfl
def My N b a (K:KT J):=vQ (λk=>aZ.Z15 N b a k) (Mw N b a _) (funext λa=>Mx N a K)
def Mz N a b c (K:KT J):=vQ (λk=>aZ.Z13 N a b c k) (Mp N a b c _) (bT λa b=>My N a b K)
def MA N a b (K:KT J):=vQ (λk=>aZ.Z11 N a b k) (Mo N a b _) (cv λa c b=>Mz N a c b K)
def MB N a b c (K:KT J):=vQ (λk=>aZ.Z7 N a b c k) (Mn N a b c _) (bT λa b=>MA N a b K)
def MC N a b (K:KT J):=vQ (λk=>aZ.Z5 N a b k) (Mj N a b _) (cv λa b c=>MB N a b c K)
def MD N a (K:KT J):=vQ (λk=>aZ.Z3 N a k) (Mi N a _) (bT λb a=>MC N b a K)
def ME N a (K:KT J):=vQ (λk=>aZ.Z1 N a k) (Mh N a _) (funext λa=>MD N a K)
def MF(h:aZ.Spec):ax Tryd.prog 56 pC :=
 bP Tryd.func56 bw L8 (λN X K=>ME N X.1 K) (by kernel_rfl) λX hb hp=>by obtain⟨a,_⟩:=X;obtain⟨N,h⟩:=h a hp;exact⟨N,Eq.trans (by kernel_rfl) (h N (Nat.le_refl N))⟩
def AL:ax Tryd.prog 56 pC:=MF aZ.ok
def AM:bf:=⟨[⟨.sl 3 (.int .i64),false,false⟩],[⟨.str,false,false⟩]⟩
def uo:aO:=⟨AM,(some λX=>cL.P X.1),λX=>((),((cL.g X.1),()))⟩
def AN:Gm:=aT bq 56 pC
def MG:ao Tryd.prog AN:=(ao.nil).add AL (by kernel_rfl)
def MH:aa:=⟨[],[],[],[],[]⟩
def MI(a:LI):St:=bG AM.ps (a,())
def AO(a:LI):St:=al [(0,.c (.sn 3 tI a none))] [] []
def MJ:aa:=⟨[0],[],[],[],[]⟩
def AP(a:LI)(b:ByteArray):St:=al [(0,.c (.sn 3 tI a none)),(3,.c (.str b))] [] []
def MK:aa:=⟨[0,3],[],[],[],[]⟩
def pG(a:LI)(b:ByteArray)(d:Int):St:=al [(0,.c (.sn 3 tI a none)),(3,.c (.str b)),(4,xi d)] [] []
def AQ:aa:=⟨[0,3,4],[],[],[],[]⟩
def mO(a:ByteArray):St:=al [(3,.c (.str a))] [] []
def up:aa:=⟨[3],[],[],[],[]⟩
def ML(a:ByteArray):St:=al [(2,.c (.str a))] [] []
def MM:aa:=⟨[2],[],[],[],[]⟩
def MN:Nat->Option aa:=au [(0,up),(1000000,MM)]
abbrev mP{J:Type}(N n:Nat)(U:St)(l:aa)(K:KT J):Option J:=ak AN bu MN N (ba 99 (bv Tryd.f61) n) .n U (ap (some l) K)
def MO N a (K:KT J):mP N 2 (MI a) MJ K =
 cL.Z1 N a (λa=>K .nrm (AO a)):=by kernel_rfl
def MP N a (K:KT J):mP N 5 (AO a) MK K =
 cL.Z3 N a (λa b=>K .nrm (AP a b)):=by kernel_rfl
def MQ N a b (K:KT J):mP N 19 (AP a b) AQ K =
 cL.Z6 N a b (λa b c=>K .nrm (pG a b c)):=by kernel_rfl
def MR N b a c (K:KT J):mP N 75 (pG b a c) AQ K =
 cL.Z9 N b a c (λb a c=>K .nrm (pG b a c)) (λa=>K (.exit 0) (mO a)):=by kernel_rfl
def MS N (K:KT J):=fh K (cL.Z8L N (λa=>K (.exit 0) (mO a))) (λb a c k=>cL.Z9 N b a c k (λa=>K (.exit 0) (mO a))) (λF b a c=>MR N b a c _) (by kernel_rfl)
def MU N a b c (K:KT J):=vL (pG a b c) (MS N (jK up K) N a b c) (by kernel_rfl)
def MV N b a c (K:KT J):=vB 0 up K (cL.Z7 N b a c (λa=>K .nrm (mO a))) (MU N b a c _) (by kernel_rfl)
def MW N a b (K:KT J):=vQ (λk=>cL.Z6 N a b k) (MQ N a b _) (cv λa b c=>MV N a b c K)
def MX N a (K:KT J):mP N 15 (mO a) MH K =
 cL.Z10 N a (λb=>K .ret (ML b)):=by kernel_rfl
def MY N b a (K:KT J):=vQ (λk=>cL.Z5 N b a k) (MW N b a _) (funext λa=>MX N a K)
def MZ N a (K:KT J):=vQ (λk=>cL.Z3 N a k) (MP N a _) (bT λa b=>MY N a b K)
def M0 N a (K:KT J):=vQ (λk=>cL.Z1 N a k) (MO N a _) (funext λa=>MZ N a K)
def M3(h:cL.Spec):ax Tryd.prog 61 uo :=
 bP Tryd.func61 bw MG (λN X K=>M0 N X.1 K) (by kernel_rfl) λX hb hp=>by obtain⟨a,_⟩:=X;obtain⟨N,h⟩:=h a hb.1 hp;exact⟨N,Eq.trans (by kernel_rfl) (h N (Nat.le_refl N))⟩
def M4:ax Tryd.prog 61 uo:=M3 cL.ok
def AR:bf:=⟨[⟨.pair (.int .i64) (.sl 61 (.pair (.sl 3 (.int .i64)) (.int .i64))),true,false⟩],[⟨.str,false,false⟩]⟩
def uq:aO:=⟨AR,none,λX=>((),((bW.g X.1),()))⟩
def AS:Gm:=aT (aT (aT bq 51 mH) 56 pC) 61 uo
def M5:ao Tryd.prog AS:=(((ao.nil).add tT (by kernel_rfl)).add AL (by kernel_rfl)).add M4 (by kernel_rfl)
def M6:aa:=⟨[],[],[],[],[]⟩
def M7(a:Int×List (LI×Int)):St:=bG AR.ps (a,())
def pH(a:Int)(b:List (LI×Int)):St:=al [(1,xb 1)] [(1,(36,[yi a,.sn 61 (.pair (.sl 3 tI) tI) b none]))] []
def AT:aa:=⟨[1],[1],[],[],[]⟩
def pI(a:ByteArray)(b:Int)(d:List (LI×Int)):St:=al [(1,xb 1),(3,.c (.str a))] [(1,(36,[yi b,.sn 61 (.pair (.sl 3 tI) tI) d none]))] []
def AU:aa:=⟨[1,3],[1],[],[],[]⟩
def pJ(a:ByteArray)(b d:Int)(e:List (LI×Int)):St:=al [(1,xb 1),(3,.c (.str a)),(4,xi b)] [(1,(36,[yi d,.sn 61 (.pair (.sl 3 tI) tI) e none]))] []
def AV:aa:=⟨[1,3,4],[1],[],[],[]⟩
def mQ(a:ByteArray):St:=al [(3,.c (.str a))] [] []
def ur:aa:=⟨[3],[],[],[],[]⟩
def mR(a:ByteArray):St:=al [(2,.c (.str a))] [] []
def M8:aa:=⟨[2],[],[],[],[]⟩
def M9:Nat->Option aa:=au [(0,ur),(1000000,M8)]
abbrev jJ{J:Type}(N n:Nat)(U:St)(l:aa)(K:KT J):Option J:=ak AS bu M9 N (ba 99 (bv Tryd.f38) n) .n U (ap (some l) K)
def Na N a (K:KT J):jJ N 2 (M7 a) AT K =
 bW.Z1 N a (λb c=>K .nrm (pH b c)):=by kernel_rfl
def Nb N a b (K:KT J):jJ N 5 (pH a b) AT K =
 bW.Z3 N a b (λa b=>K .nrm (pH a b)) (λc=>K .ret (mR c)):=by kernel_rfl
def Nc N a b (K:KT J):jJ N 11 (pH a b) AU K =
 bW.Z5 N a b (λc a b=>K .nrm (pI c a b)):=by kernel_rfl
def Nd N a b c (K:KT J):jJ N 23 (pI a b c) AU K =
 bW.Z7 N a b c (λa b c=>K .nrm (pI a b c)) (λd=>K .ret (mR d)):=by kernel_rfl
def Nf N a b c (K:KT J):jJ N 79 (pI a b c) AV K =
 bW.Z10 N a b c (λa d b c=>K .nrm (pJ a d b c)):=by kernel_rfl
def Ng N a b c d (K:KT J):jJ N 303 (pJ a b c d) AV K =
 bW.Z13 N a b c d (λa b c d=>K .nrm (pJ a b c d)) (λa=>K (.exit 0) (mQ a)):=by kernel_rfl
def Nh N (K:KT J):=oI K (bW.Z12L N (λa=>K (.exit 0) (mQ a))) (λa b c d k=>bW.Z13 N a b c d k (λa=>K (.exit 0) (mQ a))) (λF a b c d=>Ng N a b c d _) (by kernel_rfl)
def Ni N a b c d (K:KT J):=vL (pJ a b c d) (Nh N (jK ur K) N a b c d) (by kernel_rfl)
def Nj N a b c d (K:KT J):=vB 0 ur K (bW.Z11 N a b c d (λa=>K .nrm (mQ a))) (Ni N a b c d _) (by kernel_rfl)
def Nk N a b c (K:KT J):=vQ (λk=>bW.Z10 N a b c k) (Nf N a b c _) (fe λa d b c=>Nj N a d b c K)
def Nl N a (K:KT J):jJ N 63 (mQ a) M6 K =
 bW.Z14 N a (λb=>K .ret (mR b)):=by kernel_rfl
def Nm N a b c (K:KT J):=vQ (λk=>bW.Z9 N a b c k) (Nk N a b c _) (funext λa=>Nl N a K)
def Nn N a b c (K:KT J):=vQ (λk=>bW.Z7 N a b c k (λd=>K .ret (mR d))) (Nd N a b c _) (cv λa b c=>Nm N a b c K)
def No N a b (K:KT J):=vQ (λk=>bW.Z5 N a b k) (Nc N a b _) (cv λc a b=>Nn N c a b K)
def Np N a b (K:KT J):=vQ (λk=>bW.Z3 N a b k (λc=>K .ret (mR c))) (Nb N a b _) (bT λa b=>No N a b K)
def Nq N a (K:KT J):=vQ (λk=>bW.Z1 N a k) (Na N a _) (bT λb c=>Np N b c K)
def Nr(h:bW.Spec):ax Tryd.prog 38 uq :=
 bP Tryd.func38 bw M5 (λN X K=>Nq N X.1 K) (by kernel_rfl) λX hb hp=>by obtain⟨a,_⟩:=X;obtain⟨N,h⟩:=h a hb.1;exact⟨N,Eq.trans (by kernel_rfl) (h N (Nat.le_refl N))⟩
def Ns:ax Tryd.prog 38 uq:=Nr bW.ok
def AW:cy:=⟨84,[(5,.int .u8)],.pair (.int .i64) (.int .i64)⟩
def AX:List PT:=[⟨.sl 9 (.str),false,false⟩]
def Nt:List PT:=[⟨.str,false,false⟩]
def ut:dH:=⟨AW,AX,true,Nt,(some λX=>dC.P X.1.1.1 X.1.2 X.2.1),λX=>((dC.g X.1.1.1 X.1.2 X.2.1).1,((),((dC.g X.1.1.1 X.1.2 X.2.1).2,())))⟩
def AY:Gm:=addV bq 45 fo
def Nu:ao Tryd.prog AY:=(ao.nil).addV jE (by kernel_rfl)
def Nv:aa:=⟨[],[],[],[],[]⟩
def Nw(u0:Value)(b0:List Int)(r0:Int×Int)(a:List ByteArray):St:=db AW AX [u0] (((b0,()),r0),(a,()))
def Nx(u0:Value)(a:ByteArray)(b:List Int)(d e:Int):St:=al [(4,.c (.str a)),(100000,xb 100000)] [(100000,(84,[.bor u0 5 (.int .u8) b,yi d,yi e]))] []
def Ny:aa:=⟨[4,100000],[100000],[],[],[]⟩
def Nz:Nat->Option aa:=au [(1000000,Ny)]
abbrev NA{J:Type}(N n:Nat)(U:St)(l:aa)(K:KT J):Option J:=ak AY bu Nz N (ba 99 (bv Tryd.f48) n) .n U (ap (some l) K)
def NB N u0 b0 r0 a (K:KT J):NA N 1 (Nw u0 b0 r0 a) Nv K =
 dC.Z0 N b0 r0 a (λb c d e=>K .ret (Nx u0 b c d e)):=by kernel_rfl
def NC(h:dC.Spec):cW Tryd.prog 48 ut :=
 jw Tryd.func48 bw Nu (λN u X K=>NB N u X.1.1.1 X.1.2 X.2.1 K) (by kernel_rfl) λu0 X hb1 hb2 hp=>by obtain⟨⟨⟨b0,_⟩,r0⟩,a,_⟩:=X;obtain⟨N,h⟩:=h [u0] b0 r0 a hb1.1 hb2.1 hp;exact⟨N,Eq.trans (by kernel_rfl) (h N (Nat.le_refl N))⟩
def ND:cW Tryd.prog 48 ut:=NC dC.ok
def AZ:bf:=⟨[⟨.sl 5 (.int .u8),false,false⟩],[⟨.str,false,false⟩]⟩
def uu:aO:=⟨AZ,none,λX=>((),((cZ.g X.1),()))⟩
def A3:Gm:=addV (addV (addV (addV (addN (aT bq 38 uq) 43 tC) 45 fo) 46 tY) 47 t8) 48 ut
def NE:ao Tryd.prog A3:=((((((ao.nil).add Ns (by kernel_rfl)).addN zn).addV jE (by kernel_rfl)).addV Ap (by kernel_rfl)).addV Au (by kernel_rfl)).addV ND (by kernel_rfl)
def NF:aa:=⟨[],[],[],[],[]⟩
def NG(a:List Int):St:=bG AZ.ps (a,())
def NH(a:ByteArray):St:=al [(2,.c (.str a))] [] []
def NI:aa:=⟨[2],[],[],[],[]⟩
def NJ:Nat->Option aa:=au [(1000000,NI)]
abbrev NK{J:Type}(N n:Nat)(U:St)(l:aa)(K:KT J):Option J:=ak A3 bu NJ N (ba 99 (bv Tryd.f24) n) .n U (ap (some l) K)
def NL N a (K:KT J):NK N 1 (NG a) NF K =
 cZ.Z0 N a (λb=>K .ret (NH b)):=by kernel_rfl
def NM(h:cZ.Spec):ax Tryd.prog 24 uu :=
 bP Tryd.func24 bw NE (λN X K=>NL N X.1 K) (by kernel_rfl) λX hb hp=>by obtain⟨a,_⟩:=X;obtain⟨N,h⟩:=h a hb.1;exact⟨N,Eq.trans (by kernel_rfl) (h N (Nat.le_refl N))⟩
def NN:ax Tryd.prog 24 uu:=NM cZ.ok
def A4:bf:=⟨[⟨.int .i64,false,false⟩,⟨.int .i64,false,false⟩,⟨.int .i64,false,false⟩],[⟨.bool,false,false⟩]⟩
def kX:aO:=⟨A4,none,λX=>((),((ed.g X.1 X.2.1 X.2.2.1),()))⟩
def A5:Gm:=bq
def NO:ao Tryd.prog A5:=ao.nil
def NQ:aa:=⟨[],[],[],[],[]⟩
def NR(a b c:Int):St:=bG A4.ps (a,(b,(c,())))
def NS(a:Bool):St:=al [(6,xB a)] [] []
def NT:aa:=⟨[6],[],[],[],[]⟩
def NU:Nat->Option aa:=au [(1000000,NT)]
abbrev NV{J:Type}(N n:Nat)(U:St)(l:aa)(K:KT J):Option J:=ak A5 bu NU N (ba 99 (bv Tryd.f33) n) .n U (ap (some l) K)
def NW N a b c (K:KT J):NV N 1 (NR a b c) NQ K =
 ed.Z0 N a b c (λd=>K .ret (NS d)):=by kernel_rfl
def NX(h:ed.Spec):ax Tryd.prog 33 kX :=
 bP Tryd.func33 bw NO (λN X K=>NW N X.1 X.2.1 X.2.2.1 K) (by kernel_rfl) λX hb hp=>by obtain⟨a,b,c,_⟩:=X;obtain⟨N,h⟩:=h a b c;exact⟨N,Eq.trans (by kernel_rfl) (h N (Nat.le_refl N))⟩
def pL:ax Tryd.prog 33 kX:=NX ed.ok
def A6:bf:=⟨[⟨.int .i64,false,false⟩],[⟨.bool,false,false⟩]⟩
def uv:aO:=⟨A6,none,λX=>((),((dY.g X.1),()))⟩
def A7:Gm:=aT bq 33 kX
def NY:ao Tryd.prog A7:=(ao.nil).add pL (by kernel_rfl)
def NZ:aa:=⟨[],[],[],[],[]⟩
def N1(a:Int):St:=bG A6.ps (a,())
def N2(a:Bool):St:=al [(2,xB a)] [] []
def N3:aa:=⟨[2],[],[],[],[]⟩
def N4:Nat->Option aa:=au [(1000000,N3)]
abbrev N5{J:Type}(N n:Nat)(U:St)(l:aa)(K:KT J):Option J:=ak A7 bu N4 N (ba 99 (bv Tryd.f80) n) .n U (ap (some l) K)
def N6 N a (K:KT J):N5 N 1 (N1 a) NZ K =
 dY.Z0 N a (λb=>K .ret (N2 b)):=by kernel_rfl
def N7(h:dY.Spec):ax Tryd.prog 80 uv :=
 bP Tryd.func80 bw NY (λN X K=>N6 N X.1 K) (by kernel_rfl) λX hb hp=>by obtain⟨a,_⟩:=X;obtain⟨N,h⟩:=h a;exact⟨N,Eq.trans (by kernel_rfl) (h N (Nat.le_refl N))⟩
def N8:ax Tryd.prog 80 uv:=N7 dY.ok
def A8:bf:=⟨[⟨.sl 3 (.int .i64),false,false⟩,⟨.fnc 80,false,false⟩],[⟨.int .i64,false,false⟩]⟩
def uw:aO:=⟨A8,none,λX=>((),((dn.g X.1 X.2.1),()))⟩
def A9:Gm:=aT bq 80 uv
def N9:ao Tryd.prog A9:=(ao.nil).add N8 (by kernel_rfl)
def Oa:aa:=⟨[],[],[],[],[]⟩
def Ob(a:LI)(b:Unit):St:=bG A8.ps (a,(b,()))
def Ba(a:LI):St:=al [(0,.c (.sn 3 tI a none)),(1,.c (.fn 80 []))] [] []
def Oc:aa:=⟨[0,1],[],[],[],[]⟩
def pM(a:LI)(b d:Int):St:=al [(0,.c (.sn 3 tI a none)),(1,.c (.fn 80 [])),(7,xi b),(8,xi d)] [] []
def Bb:aa:=⟨[0,1,7,8],[],[],[],[]⟩
def mS :St:=al [] [] []
def ux:aa:=⟨[],[],[],[],[]⟩
def kY(a:Int):St:=al [(4,xi a)] [] []
def Od:aa:=⟨[4],[],[],[],[]⟩
def Oe:Nat->Option aa:=au [(0,ux),(1000000,Od)]
abbrev pN{J:Type}(N n:Nat)(U:St)(l:aa)(K:KT J):Option J:=ak A9 bu Oe N (ba 99 (bv Tryd.f100) n) .n U (ap (some l) K)
def Of N a b (K:KT J):pN N 2 (Ob a b) Oc K =
 dn.Z1 N a b (λa=>K .nrm (Ba a)):=by kernel_rfl
def Og N a (K:KT J):pN N 9 (Ba a) Bb K =
 dn.Z4 N a (λa b c=>K .nrm (pM a b c)):=by kernel_rfl
def Oh N a b c (K:KT J):pN N 37 (pM a b c) Bb K =
 dn.Z7 N a b c (λa b c=>K .nrm (pM a b c)) (K (.exit 0) mS) (λd=>K .ret (kY d)):=by kernel_rfl
def Oi N (K:KT J):=fh K (dn.Z6L N (K (.exit 0) mS) (λa=>K .ret (kY a))) (λb c d k=>dn.Z7 N b c d k (K (.exit 0) mS) (λa=>K .ret (kY a))) (λF b c d=>Oh N b c d _) (by kernel_rfl)
def Oj N a b c (K:KT J):=vL (pM a b c) (Oi N (jK ux K) N a b c) (by kernel_rfl)
def Ok N a b c (K:KT J):=vB 0 ux K (dn.Z5 N a b c (K .nrm mS) (λd=>K .ret (kY d))) (Oj N a b c _) (by kernel_rfl)
def Ol N a (K:KT J):=vQ (λk=>dn.Z4 N a k) (Og N a _) (cv λa b c=>Ok N a b c K)
def Om N  (K:KT J):pN N 7 mS Oa K =
 dn.Z8 N (λa=>K .ret (kY a)):=by kernel_rfl
def On N a (K:KT J):=vQ (λk=>dn.Z3 N a k (λb=>K .ret (kY b))) (Ol N a _) (Om N K)
def Oo N a b (K:KT J):=vQ (λk=>dn.Z1 N a b k) (Of N a b _) (funext λa=>On N a K)
def Oq(h:dn.Spec):ax Tryd.prog 100 uw :=
 bP Tryd.func100 bw N9 (λN X K=>Oo N X.1 X.2.1 K) (by kernel_rfl) λX hb hp=>by obtain⟨a,b,_⟩:=X;obtain⟨N,h⟩:=h a b hb.1;exact⟨N,Eq.trans (by kernel_rfl) (h N (Nat.le_refl N))⟩
def Or:ax Tryd.prog 100 uw:=Oq dn.ok
def Bc:bf:=⟨[⟨.sl 3 (.int .i64),false,false⟩,⟨.fnc 80,false,false⟩],[⟨.bool,false,false⟩]⟩
def uy:aO:=⟨Bc,none,λX=>((),((gO.g X.1 X.2.1),()))⟩
def Bd:Gm:=aT bq 100 uw
def Ot:ao Tryd.prog Bd:=(ao.nil).add Or (by kernel_rfl)
def Ou:aa:=⟨[],[],[],[],[]⟩
def Ov(a:LI)(b:Unit):St:=bG Bc.ps (a,(b,()))
def Ow(a:Bool):St:=al [(4,xB a)] [] []
def Ox:aa:=⟨[4],[],[],[],[]⟩
def Oy:Nat->Option aa:=au [(1000000,Ox)]
abbrev Oz{J:Type}(N n:Nat)(U:St)(l:aa)(K:KT J):Option J:=ak Bd bu Oy N (ba 99 (bv Tryd.f79) n) .n U (ap (some l) K)
def OA N a b (K:KT J):Oz N 1 (Ov a b) Ou K =
 gO.Z0 N a b (λc=>K .ret (Ow c)):=by kernel_rfl
def OB(h:gO.Spec):ax Tryd.prog 79 uy :=
 bP Tryd.func79 bw Ot (λN X K=>OA N X.1 X.2.1 K) (by kernel_rfl) λX hb hp=>by obtain⟨a,b,_⟩:=X;obtain⟨N,h⟩:=h a b hb.1;exact⟨N,Eq.trans (by kernel_rfl) (h N (Nat.le_refl N))⟩
def OC:ax Tryd.prog 79 uy:=OB gO.ok
def Be:bf:=⟨[⟨.sl 3 (.int .i64),false,false⟩,⟨.int .i64,false,false⟩],[⟨.bool,false,false⟩]⟩
def uA:aO:=⟨Be,none,λX=>((),((gP.g X.1 X.2.1),()))⟩
def Bf:Gm:=aT bq 79 uy
def OD:ao Tryd.prog Bf:=(ao.nil).add OC (by kernel_rfl)
def OE:aa:=⟨[],[],[],[],[]⟩
def OF(a:LI)(b:Int):St:=bG Be.ps (a,(b,()))
def OG(a:Bool):St:=al [(4,xB a)] [] []
def OH:aa:=⟨[4],[],[],[],[]⟩
def OI:Nat->Option aa:=au [(1000000,OH)]
abbrev OJ{J:Type}(N n:Nat)(U:St)(l:aa)(K:KT J):Option J:=ak Bf bu OI N (ba 99 (bv Tryd.f53) n) .n U (ap (some l) K)
def OK N a b (K:KT J):OJ N 1 (OF a b) OE K =
 gP.Z0 N a b (λc=>K .ret (OG c)):=by kernel_rfl
def OL(h:gP.Spec):ax Tryd.prog 53 uA :=
 bP Tryd.func53 bw OD (λN X K=>OK N X.1 X.2.1 K) (by kernel_rfl) λX hb hp=>by obtain⟨a,b,_⟩:=X;obtain⟨N,h⟩:=h a b hb.1;exact⟨N,Eq.trans (by kernel_rfl) (h N (Nat.le_refl N))⟩
def OM:ax Tryd.prog 53 uA:=OL gP.ok
def Bg:bf:=⟨[⟨.int .i64,false,false⟩],[⟨.bool,false,false⟩]⟩
def uB:aO:=⟨Bg,none,λX=>((),((gQ.g X.1),()))⟩
def Bh:Gm:=aT bq 33 kX
def ON:ao Tryd.prog Bh:=(ao.nil).add pL (by kernel_rfl)
def OO:aa:=⟨[],[],[],[],[]⟩
def OP(a:Int):St:=bG Bg.ps (a,())
def OQ(a:Bool):St:=al [(2,xB a)] [] []
def OR:aa:=⟨[2],[],[],[],[]⟩
def OS:Nat->Option aa:=au [(1000000,OR)]
abbrev OT{J:Type}(N n:Nat)(U:St)(l:aa)(K:KT J):Option J:=ak Bh bu OS N (ba 99 (bv Tryd.f54) n) .n U (ap (some l) K)
def OU N a (K:KT J):OT N 1 (OP a) OO K =
 gQ.Z0 N a (λb=>K .ret (OQ b)):=by kernel_rfl
def OV(h:gQ.Spec):ax Tryd.prog 54 uB :=
 bP Tryd.func54 bw ON (λN X K=>OU N X.1 K) (by kernel_rfl) λX hb hp=>by obtain⟨a,_⟩:=X;obtain⟨N,h⟩:=h a;exact⟨N,Eq.trans (by kernel_rfl) (h N (Nat.le_refl N))⟩
def OW:ax Tryd.prog 54 uB:=OV gQ.ok
end Go.Fw
namespace Go.Fw
variable {J : Type}
open Go.Proofs
variable [DC]
def Bi:bf:=⟨[⟨.int .i64,false,false⟩],[⟨.bool,false,false⟩]⟩
def uC:aO:=⟨Bi,none,λX=>((),((fL.g X.1),()))⟩
def Bj:Gm:=bq
def OX:ao Tryd.prog Bj:=ao.nil
def OY:aa:=⟨[],[],[],[],[]⟩
def OZ(a:Int):St:=bG Bi.ps (a,())
def O0(a:Bool):St:=al [(2,xB a)] [] []
def O1:aa:=⟨[2],[],[],[],[]⟩
def O2:Nat->Option aa:=au [(1000000,O1)]
abbrev O3{J:Type}(N n:Nat)(U:St)(l:aa)(K:KT J):Option J:=ak Bj bu O2 N (ba 99 (bv Tryd.f101) n) .n U (ap (some l) K)
def O4 N a (K:KT J):O3 N 1 (OZ a) OY K =
 fL.Z0 N a (λb=>K .ret (O0 b)):=by kernel_rfl
def O5(h:fL.Spec):ax Tryd.prog 101 uC :=
 bP Tryd.func101 bw OX (λN X K=>O4 N X.1 K) (by kernel_rfl) λX hb hp=>by obtain⟨a,_⟩:=X;obtain⟨N,h⟩:=h a;exact⟨N,Eq.trans (by kernel_rfl) (h N (Nat.le_refl N))⟩
def O6:ax Tryd.prog 101 uC:=O5 fL.ok
def Bk:bf:=⟨[⟨.int .i64,false,false⟩,⟨.int .i64,false,false⟩],[⟨.int .i64,false,false⟩]⟩
def uD:aO:=⟨Bk,none,λX=>((),((ft.g X.1 X.2.1),()))⟩
def Bl:Gm:=aT bq 101 uC
def O7:ao Tryd.prog Bl:=(ao.nil).add O6 (by kernel_rfl)
def O8:aa:=⟨[],[],[],[],[]⟩
def O9(a b:Int):St:=bG Bk.ps (a,(b,()))
def Pa(a:Int):St:=al [(4,xi a)] [] []
def Pb:aa:=⟨[4],[],[],[],[]⟩
def Pc:Nat->Option aa:=au [(1000000,Pb)]
abbrev Pd{J:Type}(N n:Nat)(U:St)(l:aa)(K:KT J):Option J:=ak Bl bu Pc N (ba 99 (bv Tryd.f81) n) .n U (ap (some l) K)
def Pe N a b (K:KT J):Pd N 1 (O9 a b) O8 K =
 ft.Z0 N a b (λc=>K .ret (Pa c)):=by kernel_rfl
def Pf(h:ft.Spec):ax Tryd.prog 81 uD :=
 bP Tryd.func81 bw O7 (λN X K=>Pe N X.1 X.2.1 K) (by kernel_rfl) λX hb hp=>by obtain⟨a,b,_⟩:=X;obtain⟨N,h⟩:=h a b;exact⟨N,Eq.trans (by kernel_rfl) (h N (Nat.le_refl N))⟩
def Pg:ax Tryd.prog 81 uD:=Pf ft.ok
def Bm:bf:=⟨[⟨.sl 3 (.int .i64),false,false⟩,⟨.sl 3 (.int .i64),false,false⟩],[⟨.int .i64,false,false⟩]⟩
def uE:aO:=⟨Bm,none,λX=>((),((dD.g X.1 X.2.1),()))⟩
def Bn:Gm:=aT bq 81 uD
def Ph:ao Tryd.prog Bn:=(ao.nil).add Pg (by kernel_rfl)
def Pi:aa:=⟨[],[],[],[],[]⟩
def Pj(a b:LI):St:=bG Bm.ps (a,(b,()))
def jL(a b:LI):St:=al [(0,.c (.sn 3 tI a none)),(1,.c (.sn 3 tI b none))] [] []
def pO:aa:=⟨[0,1],[],[],[],[]⟩
def pP(a b d:LI)(e f:Int):St:=al [(0,.c (.sn 3 tI a none)),(1,.c (.sn 3 tI b none)),(9,.c (.sn 3 tI d none)),(10,xi e),(11,xi f)] [] []
def Bo:aa:=⟨[0,1,9,10,11],[],[],[],[]⟩
def kZ(a:Int):St:=al [(4,xi a)] [] []
def Pk:aa:=⟨[4],[],[],[],[]⟩
def Pl:Nat->Option aa:=au [(0,pO),(1000000,Pk)]
abbrev pQ{J:Type}(N n:Nat)(U:St)(l:aa)(K:KT J):Option J:=ak Bn bu Pl N (ba 99 (bv Tryd.f55) n) .n U (ap (some l) K)
def Pm N a b (K:KT J):pQ N 2 (Pj a b) pO K =
 dD.Z1 N a b (λa b=>K .nrm (jL a b)):=by kernel_rfl
def Pn N a b (K:KT J):pQ N 9 (jL a b) Bo K =
 dD.Z4 N a b (λa b c d e=>K .nrm (pP a b c d e)):=by kernel_rfl
def Po N a b c d e (K:KT J):pQ N 37 (pP a b c d e) Bo K =
 dD.Z7 N a b c d e (λa b c d e=>K .nrm (pP a b c d e)) (λa b=>K (.exit 0) (jL a b)) (λf=>K .ret (kZ f)):=by kernel_rfl
def Pp N (K:KT J):=ma K (dD.Z6L N (λa b=>K (.exit 0) (jL a b)) (λc=>K .ret (kZ c))) (λa b d e f k=>dD.Z7 N a b d e f k (λa b=>K (.exit 0) (jL a b)) (λc=>K .ret (kZ c))) (λF a b d e f=>Po N a b d e f _) (by kernel_rfl)
def Pq N a b c d e (K:KT J):=vL (pP a b c d e) (Pp N (jK pO K) N a b c d e) (by kernel_rfl)
def Pr N a b c d e (K:KT J):=vB 0 pO K (dD.Z5 N a b c d e (λa b=>K .nrm (jL a b)) (λf=>K .ret (kZ f))) (Pq N a b c d e _) (by kernel_rfl)
def Ps N a b (K:KT J):=vQ (λk=>dD.Z4 N a b k) (Pn N a b _) (fg λa b c d e=>Pr N a b c d e K)
def Pt N a b (K:KT J):pQ N 7 (jL a b) Pi K =
 dD.Z8 N a b (λc=>K .ret (kZ c)):=by kernel_rfl
def Pu N a b (K:KT J):=vQ (λk=>dD.Z3 N a b k (λc=>K .ret (kZ c))) (Ps N a b _) (bT λa b=>Pt N a b K)
def Pv N a b (K:KT J):=vQ (λk=>dD.Z1 N a b k) (Pm N a b _) (bT λa b=>Pu N a b K)
def Pw(h:dD.Spec):ax Tryd.prog 55 uE :=
 bP Tryd.func55 bw Ph (λN X K=>Pv N X.1 X.2.1 K) (by kernel_rfl) λX hb hp=>by obtain⟨a,b,_⟩:=X;obtain⟨N,h⟩:=h a b hb.1 hb.2.1;exact⟨N,Eq.trans (by kernel_rfl) (h N (Nat.le_refl N))⟩
def Px:ax Tryd.prog 55 uE:=Pw dD.ok
end Go.Fw
namespace Go.Fw
variable {J : Type}
open Go.Proofs
def Bp:bf:=⟨[⟨.pair (.int .i64) (.sl 61 (.pair (.sl 3 (.int .i64)) (.int .i64))),true,false⟩],[⟨.bool,false,false⟩]⟩
def mT:aO:=⟨Bp,none,λX=>((),((cw.g X.1),()))⟩
def Bq:Gm:=aT (aT (aT (aT bq 33 kX) 53 uA) 54 uB) 55 uE
def Py:ao Tryd.prog Bq:=((((ao.nil).add pL (by kernel_rfl)).add OM (by kernel_rfl)).add OW (by kernel_rfl)).add Px (by kernel_rfl)
def Pz:aa:=⟨[],[],[],[],[]⟩
def PA(a:Int×List (LI×Int)):St:=bG Bp.ps (a,())
def pR(a:Int)(b:List (LI×Int)):St:=al [(1,xb 1)] [(1,(36,[yi a,.sn 61 (.pair (.sl 3 tI) tI) b none]))] []
def Br:aa:=⟨[1],[1],[],[],[]⟩
def pS(a:List (LI×Int))(b d e:Int)(f:List (LI×Int)):St:=al [(1,xb 1),(16,.c (.sn 61 (.pair (.sl 3 tI) tI) a none)),(17,xi b),(18,xi d)] [(1,(36,[yi e,.sn 61 (.pair (.sl 3 tI) tI) f none]))] []
def Bs:aa:=⟨[1,16,17,18],[1],[],[],[]⟩
def mU :St:=al [] [] []
def uF:aa:=⟨[],[],[],[],[]⟩
def iJ(a:Bool):St:=al [(2,xB a)] [] []
def PB:aa:=⟨[2],[],[],[],[]⟩
def PC:Nat->Option aa:=au [(0,uF),(1000000,PB)]
abbrev mV{J:Type}(N n:Nat)(U:St)(l:aa)(K:KT J):Option J:=ak Bq bu PC N (ba 99 (bv Tryd.f28) n) .n U (ap (some l) K)
def PD N a (K:KT J):mV N 2 (PA a) Br K =
 cw.Z1 N a (λb c=>K .nrm (pR b c)):=by kernel_rfl
def PE N a b (K:KT J):mV N 5 (pR a b) Br K =
 cw.Z3 N a b (λa b=>K .nrm (pR a b)) (λc=>K .ret (iJ c)):=by kernel_rfl
def PF N a b (K:KT J):mV N 19 (pR a b) Bs K =
 cw.Z6 N a b (λc d e a b=>K .nrm (pS c d e a b)):=by kernel_rfl
def PG N a b c d e (K:KT J):mV N 75 (pS a b c d e) Bs K =
 cw.Z9 N a b c d e (λa b c d e=>K .nrm (pS a b c d e)) (K (.exit 0) mU) (λf=>K .ret (iJ f)):=by kernel_rfl
def PH N (K:KT J):=ma K (cw.Z8L N (K (.exit 0) mU) (λa=>K .ret (iJ a))) (λb c d e f k=>cw.Z9 N b c d e f k (K (.exit 0) mU) (λa=>K .ret (iJ a))) (λF b c d e f=>PG N b c d e f _) (by kernel_rfl)
def PI N a b c d e (K:KT J):=vL (pS a b c d e) (PH N (jK uF K) N a b c d e) (by kernel_rfl)
def PJ N a b c d e (K:KT J):=vB 0 uF K (cw.Z7 N a b c d e (K .nrm mU) (λf=>K .ret (iJ f))) (PI N a b c d e _) (by kernel_rfl)
def PK N a b (K:KT J):=vQ (λk=>cw.Z6 N a b k) (PF N a b _) (fg λc d e a b=>PJ N c d e a b K)
def PL N  (K:KT J):mV N 15 mU Pz K =
 cw.Z10 N (λa=>K .ret (iJ a)):=by kernel_rfl
def PM N a b (K:KT J):=vQ (λk=>cw.Z5 N a b k (λc=>K .ret (iJ c))) (PK N a b _) (PL N K)
def PN N a b (K:KT J):=vQ (λk=>cw.Z3 N a b k (λc=>K .ret (iJ c))) (PE N a b _) (bT λa b=>PM N a b K)
def PO N a (K:KT J):=vQ (λk=>cw.Z1 N a k) (PD N a _) (bT λb c=>PN N b c K)
def PP(h:cw.Spec):ax Tryd.prog 28 mT :=
 bP Tryd.func28 bw Py (λN X K=>PO N X.1 K) (by kernel_rfl) λX hb hp=>by obtain⟨a,_⟩:=X;obtain⟨N,h⟩:=h a hb.1;exact⟨N,Eq.trans (by kernel_rfl) (h N (Nat.le_refl N))⟩
def uG:ax Tryd.prog 28 mT:=PP cw.ok
def PQ:bf:=⟨[⟨.int .i64,false,false⟩],[⟨.str,false,false⟩]⟩
def uH:aO:=⟨PQ,(some λX=>strconv_Itoa.P X.1),λX=>((),((strconv_Itoa.g X.1),()))⟩
def PR:Go.Shelf.Ren:=⟨λ|171=>73|243=>97|246=>116|283=>125|284=>126|285=>127|286=>128|129=>130|317=>129|318=>131|319=>132|320=>133|337=>134|338=>135|n=>n,λ|3=>3|9=>9|2=>2|4=>4|171=>140|0=>0|53=>118|37=>41|5=>5|173=>143|212=>150|51=>137|20=>20|213=>151|46=>110|232=>154|233=>155|n=>n,λ|17=>5|18=>6|19=>7|n=>n⟩
def PS:LaysM.n171 Tryd.prog PR:={ mixed:=(by kernel_rfl),f129:=Tryd.func130.trans (congrArg some (by kernel_rfl)),f171:=Tryd.func73.trans (congrArg some (by kernel_rfl)),f243:=Tryd.func97.trans (congrArg some (by kernel_rfl)),f246:=Tryd.func116.trans (congrArg some (by kernel_rfl)),f283:=Tryd.func125.trans (congrArg some (by kernel_rfl)),f284:=Tryd.func126.trans (congrArg some (by kernel_rfl)),f285:=Tryd.func127.trans (congrArg some (by kernel_rfl)),f286:=Tryd.func128.trans (congrArg some (by kernel_rfl)),f317:=Tryd.func129.trans (congrArg some (by kernel_rfl)),f318:=Tryd.func131.trans (congrArg some (by kernel_rfl)),f319:=Tryd.func132.trans (congrArg some (by kernel_rfl)),f320:=Tryd.func133.trans (congrArg some (by kernel_rfl)),f337:=Tryd.func134.trans (congrArg some (by kernel_rfl)),f338:=Tryd.func135.trans (congrArg some (by kernel_rfl)),t0:=Tryd.underlying0,a0:=Tryd.isAgg0,z0:=Tryd.sizeOf0,v0:=Tryd.zeroValue0,t2:=Tryd.underlying2,a2:=Tryd.isAgg2,z2:=Tryd.sizeOf2,v2:=Tryd.zeroValue2,t3:=Tryd.underlying3,a3:=Tryd.isAgg3,z3:=Tryd.sizeOf3,v3:=Tryd.zeroValue3,t4:=Tryd.underlying4,a4:=Tryd.isAgg4,z4:=Tryd.sizeOf4,v4:=Tryd.zeroValue4,t5:=Tryd.underlying5,a5:=Tryd.isAgg5,z5:=Tryd.sizeOf5,v5:=Tryd.zeroValue5,t9:=Tryd.underlying9,a9:=Tryd.isAgg9,z9:=Tryd.sizeOf9,v9:=Tryd.zeroValue9,t20:=Tryd.underlying20,a20:=Tryd.isAgg20,z20:=Tryd.sizeOf20,v20:=Tryd.zeroValue20,t37:=Tryd.underlying41,a37:=Tryd.isAgg41,z37:=Tryd.sizeOf41,v37:=Tryd.zeroValue41,t46:=Tryd.underlying110,a46:=Tryd.isAgg110,z46:=Tryd.sizeOf110,v46:=Tryd.zeroValue110,t51:=Tryd.underlying137,a51:=Tryd.isAgg137,z51:=Tryd.sizeOf137,v51:=Tryd.zeroValue137,t53:=Tryd.underlying118,a53:=Tryd.isAgg118,z53:=Tryd.sizeOf118,v53:=Tryd.zeroValue118,t171:=Tryd.underlying140,a171:=Tryd.isAgg140,z171:=Tryd.sizeOf140,v171:=Tryd.zeroValue140,t173:=Tryd.underlying143,a173:=Tryd.isAgg143,z173:=Tryd.sizeOf143,v173:=Tryd.zeroValue143,t212:=Tryd.underlying150,a212:=Tryd.isAgg150,z212:=Tryd.sizeOf150,v212:=Tryd.zeroValue150,t213:=Tryd.underlying151,a213:=Tryd.isAgg151,z213:=Tryd.sizeOf151,t232:=Tryd.underlying154,a232:=Tryd.isAgg154,z232:=Tryd.sizeOf154,v232:=Tryd.zeroValue154,t233:=Tryd.underlying155,a233:=Tryd.isAgg155,z233:=Tryd.sizeOf155,v233:=Tryd.zeroValue155,g17:=(by kernel_rfl),g18:=(by kernel_rfl),g19:=(by kernel_rfl),i0:=(by kernel_rfl),i2:=(by kernel_rfl),i3:=(by kernel_rfl),i4:=(by kernel_rfl),i5:=(by kernel_rfl),i9:=(by kernel_rfl),i20:=(by kernel_rfl),i37:=(by kernel_rfl),i46:=(by kernel_rfl),i51:=(by kernel_rfl),i53:=(by kernel_rfl),i171:=(by kernel_rfl),i173:=(by kernel_rfl),i212:=(by kernel_rfl),i232:=(by kernel_rfl),i233:=(by kernel_rfl),m17:=(by kernel_rfl),m18:=(by kernel_rfl),m19:=(by kernel_rfl) }
def PU(_:True):ax Tryd.prog 73 uH:=EH Gj PS
def PV:ax Tryd.prog 73 uH:=PU strconv_Itoa.ok
def Bt:bf:=⟨[⟨.int .i64,false,false⟩],[⟨.str,false,false⟩]⟩
def pT:aO:=⟨Bt,(some λX=>bS.P X.1),λX=>((),((bS.g X.1),()))⟩
def Bu:Gm:=aT bq 73 uH
def PW:ao Tryd.prog Bu:=(ao.nil).add PV (by kernel_rfl)
def PX:aa:=⟨[],[],[],[],[]⟩
def PY(a:Int):St:=bG Bt.ps (a,())
def PZ(a:ByteArray):St:=al [(2,.c (.str a))] [] []
def P0:aa:=⟨[2],[],[],[],[]⟩
def P1:Nat->Option aa:=au [(1000000,P0)]
abbrev P2{J:Type}(N n:Nat)(U:St)(l:aa)(K:KT J):Option J:=ak Bu bu P1 N (ba 99 (bv Tryd.f49) n) .n U (ap (some l) K)
def P3 N a (K:KT J):P2 N 1 (PY a) PX K =
 bS.Z0 N a (λb=>K .ret (PZ b)):=by kernel_rfl
def P4(h:bS.Spec):ax Tryd.prog 49 pT :=
 bP Tryd.func49 bw PW (λN X K=>P3 N X.1 K) (by kernel_rfl) λX hb hp=>by obtain⟨a,_⟩:=X;obtain⟨N,h⟩:=h a hp;exact⟨N,Eq.trans (by kernel_rfl) (h N (Nat.le_refl N))⟩
def Bv:ax Tryd.prog 49 pT:=P4 bS.ok
def P5:bf:=⟨[⟨.sl 9 (.str),false,false⟩,⟨.str,false,false⟩],[⟨.str,false,false⟩]⟩
def pU:aO:=⟨P5,(some λX=>strings_Join.P X.1 X.2.1),λX=>((),((strings_Join.g X.1 X.2.1),()))⟩
def Bw:Go.Shelf.Ren:=⟨λ|156=>50|165=>74|166=>75|169=>76|240=>98|241=>99|276=>117|277=>118|n=>n,λ|31=>47|9=>9|3=>3|4=>4|0=>0|20=>20|72=>96|76=>54|70=>94|37=>41|75=>53|127=>112|164=>130|5=>5|80=>98|n=>n,λn=>n⟩
def P6:Lays.n156 Tryd.prog Bw:={ mixed:=(by kernel_rfl),f156:=Tryd.func50.trans (congrArg some (by kernel_rfl)),f165:=Tryd.func74.trans (congrArg some (by kernel_rfl)),f166:=Tryd.func75.trans (congrArg some (by kernel_rfl)),f169:=Tryd.func76.trans (congrArg some (by kernel_rfl)),f240:=Tryd.func98.trans (congrArg some (by kernel_rfl)),f241:=Tryd.func99.trans (congrArg some (by kernel_rfl)),f276:=Tryd.func117.trans (congrArg some (by kernel_rfl)),f277:=Tryd.func118.trans (congrArg some (by kernel_rfl)),t0:=Tryd.underlying0,a0:=Tryd.isAgg0,z0:=Tryd.sizeOf0,v0:=Tryd.zeroValue0,t3:=Tryd.underlying3,a3:=Tryd.isAgg3,z3:=Tryd.sizeOf3,v3:=Tryd.zeroValue3,t4:=Tryd.underlying4,a4:=Tryd.isAgg4,z4:=Tryd.sizeOf4,v4:=Tryd.zeroValue4,t9:=Tryd.underlying9,a9:=Tryd.isAgg9,z9:=Tryd.sizeOf9,v9:=Tryd.zeroValue9,t20:=Tryd.underlying20,a20:=Tryd.isAgg20,z20:=Tryd.sizeOf20,v20:=Tryd.zeroValue20,t31:=Tryd.underlying47,a31:=Tryd.isAgg47,z31:=Tryd.sizeOf47,v31:=Tryd.zeroValue47,t37:=Tryd.underlying41,a37:=Tryd.isAgg41,z37:=Tryd.sizeOf41,v37:=Tryd.zeroValue41,t70:=Tryd.underlying94,a70:=Tryd.isAgg94,z70:=Tryd.sizeOf94,v70:=Tryd.zeroValue94,t72:=Tryd.underlying96,a72:=Tryd.isAgg96,z72:=Tryd.sizeOf96,v72:=Tryd.zeroValue96,t75:=Tryd.underlying53,a75:=Tryd.isAgg53,z75:=Tryd.sizeOf53,v75:=Tryd.zeroValue53,t76:=Tryd.underlying54,a76:=Tryd.isAgg54,z76:=Tryd.sizeOf54,v76:=Tryd.zeroValue54,t127:=Tryd.underlying112,a127:=Tryd.isAgg112,z127:=Tryd.sizeOf112,v127:=Tryd.zeroValue112,t164:=Tryd.underlying130,a164:=Tryd.isAgg130,z164:=Tryd.sizeOf130,v164:=Tryd.zeroValue130 }
def P7:Builder.Extra Tryd.prog Bw:={ sizeBuilder:=(by kernel_rfl),liesBuilder:=(by kernel_rfl),t5:=Tryd.underlying5,a5:=Tryd.isAgg5,z5:=Tryd.sizeOf5,v5:=Tryd.zeroValue5,infoByte:=(by kernel_rfl),cellsByte:=(by kernel_rfl),sizeByte:=(by kernel_rfl),neB5:=(by decide) }
def P8(_:True):ax Tryd.prog 50 pU:=EJ P6 P7
def Bx:ax Tryd.prog 50 pU:=P8 strings_Join.ok
def By:bf:=⟨[⟨.sl 3 (.int .i64),false,false⟩],[⟨.str,false,false⟩]⟩
def pV:aO:=⟨By,(some λX=>b8.P X.1),λX=>((),((b8.g X.1),()))⟩
def Bz:Gm:=aT (aT bq 49 pT) 50 pU
def P9:ao Tryd.prog Bz:=((ao.nil).add Bv (by kernel_rfl)).add Bx (by kernel_rfl)
def Qa:aa:=⟨[],[],[],[],[]⟩
def Qb(a:LI):St:=bG By.ps (a,())
def BA(a:LI):St:=al [(0,.c (.sn 3 tI a none))] [] []
def Qc:aa:=⟨[0],[],[],[],[]⟩
def BB(a:LI):St:=al [(0,.c (.sn 3 tI a none)),(3,.c (.nil))] [] []
def Qd:aa:=⟨[0,3],[],[],[],[]⟩
def BC(a:LI)(b d:Int):St:=al [(3,.c (.nil)),(6,.c (.sn 3 tI a none)),(7,xi b),(8,xi d)] [] []
def Qe:aa:=⟨[3,6,7,8],[],[],[],[]⟩
def BD(a:List ByteArray)(b:LI)(d e:Int):St:=al [(3,xo 1000192),(6,.c (.sn 3 tI b none)),(7,xi d),(8,xi e)] [] [(1000192,(⟨9,.str,a,true,false⟩:ah))]
def Qf:aa:=⟨[3,6,7,8],[],[⟨⟨false,3,0⟩,30000000,9,.str,true⟩],[],[(⟨false,3,0⟩,1000192)]⟩
def mW(a:List ByteArray):St:=al [(3,xo 1000192)] [] [(1000192,(⟨9,.str,a,true,false⟩:ah))]
def uI:aa:=⟨[3],[],[],[],[(⟨false,3,0⟩,1000192)]⟩
def Qg(a:ByteArray):St:=al [(2,.c (.str a))] [] []
def Qh:aa:=⟨[2],[],[],[],[]⟩
def Qi:Nat->Option aa:=au [(0,uI),(1000000,Qh)]
abbrev mX{J:Type}(N n:Nat)(U:St)(l:aa)(K:KT J):Option J:=ak Bz bu Qi N (ba 99 (bv Tryd.f34) n) .n U (ap (some l) K)
def Qj N a (K:KT J):mX N 2 (Qb a) Qc K =
 b8.Z1 N a (λa=>K .nrm (BA a)):=by kernel_rfl
def Qk N a (K:KT J):mX N 5 (BA a) Qd K =
 b8.Z3 N a (λa=>K .nrm (BB a)):=by kernel_rfl
def Ql N a (K:KT J):mX N 19 (BB a) Qe K =
 b8.Z6 N a (λb c d=>K .nrm (BC b c d)):=by kernel_rfl
def Qm N a b c d (K:KT J):mX N 75 (BD a b c d) Qf K =
 b8.Z9 N a b c d (λa b c d=>K .nrm (BD a b c d)) (λa=>K (.exit 0) (mW a)):=by kernel_rfl
def Qn N (K:KT J):=oI K (b8.Z8L N (λa=>K (.exit 0) (mW a))) (λa b c d k=>b8.Z9 N a b c d k (λa=>K (.exit 0) (mW a))) (λF a b c d=>Qm N a b c d _) (by kernel_rfl)
def Qo N a b c (K:KT J):=vL (BC a b c) (Qn N (jK uI K) N ([]:List ByteArray) a b c) (by kernel_rfl)
def Qp N a b c (K:KT J):=vB 0 uI K (b8.Z7 N a b c (λd=>K .nrm (mW d))) (Qo N a b c _) (by kernel_rfl)
def Qq N a (K:KT J):=vQ (λk=>b8.Z6 N a k) (Ql N a _) (cv λb c d=>Qp N b c d K)
def Qr N a (K:KT J):mX N 15 (mW a) Qa K =
 b8.Z10 N a (λb=>K .ret (Qg b)):=by kernel_rfl
def Qs N a (K:KT J):=vQ (λk=>b8.Z5 N a k) (Qq N a _) (funext λb=>Qr N b K)
def Qt N a (K:KT J):=vQ (λk=>b8.Z3 N a k) (Qk N a _) (funext λa=>Qs N a K)
def Qu N a (K:KT J):=vQ (λk=>b8.Z1 N a k) (Qj N a _) (funext λa=>Qt N a K)
def Qv(h:b8.Spec):ax Tryd.prog 34 pV :=
 bP Tryd.func34 bw P9 (λN X K=>Qu N X.1 K) (by kernel_rfl) λX hb hp=>by obtain⟨a,_⟩:=X;obtain⟨N,h⟩:=h a hb.1 hp;exact⟨N,Eq.trans (by kernel_rfl) (h N (Nat.le_refl N))⟩
def BE:ax Tryd.prog 34 pV:=Qv b8.ok
def BF:bf:=⟨[⟨.pair (.int .i64) (.sl 61 (.pair (.sl 3 (.int .i64)) (.int .i64))),true,false⟩],[⟨.str,false,false⟩]⟩
def pW:aO:=⟨BF,none,λX=>((),((bF.g X.1),()))⟩
def BG:Gm:=aT (aT (aT (aT bq 28 mT) 34 pV) 49 pT) 50 pU
def Qw:ao Tryd.prog BG:=((((ao.nil).add uG (by kernel_rfl)).add BE (by kernel_rfl)).add Bv (by kernel_rfl)).add Bx (by kernel_rfl)
def Qx:aa:=⟨[],[],[],[],[]⟩
def Qy(a:Int×List (LI×Int)):St:=bG BF.ps (a,())
def pX(a:Int)(b:List (LI×Int)):St:=al [(1,xb 1)] [(1,(36,[yi a,.sn 61 (.pair (.sl 3 tI) tI) b none]))] []
def BH:aa:=⟨[1],[1],[],[],[]⟩
def BI(a:Int)(b:List (LI×Int)):St:=al [(1,xb 1),(3,.c (.nil))] [(1,(36,[yi a,.sn 61 (.pair (.sl 3 tI) tI) b none]))] []
def Qz:aa:=⟨[1,3],[1],[],[],[]⟩
def BJ(a:List (LI×Int))(b d e:Int)(f:List (LI×Int)):St:=al [(1,xb 1),(3,.c (.nil)),(10,.c (.sn 61 (.pair (.sl 3 tI) tI) a none)),(11,xi b),(12,xi d)] [(1,(36,[yi e,.sn 61 (.pair (.sl 3 tI) tI) f none]))] []
def QA:aa:=⟨[1,3,10,11,12],[1],[],[],[]⟩
def BK(a:List ByteArray)(b:List (LI×Int))(d e f:Int)(g:List (LI×Int)):St:=al [(1,xb 1),(3,xo 1000192),(10,.c (.sn 61 (.pair (.sl 3 tI) tI) b none)),(11,xi d),(12,xi e)] [(1,(36,[yi f,.sn 61 (.pair (.sl 3 tI) tI) g none]))] [(1000192,(⟨9,.str,a,true,false⟩:ah))]
def QB:aa:=⟨[1,3,10,11,12],[1],[⟨⟨false,3,0⟩,30000000,9,.str,true⟩],[],[(⟨false,3,0⟩,1000192)]⟩
def mY(a:List ByteArray)(b:Int)(c:List (LI×Int)):St:=al [(1,xb 1),(3,xo 1000192)] [(1,(36,[yi b,.sn 61 (.pair (.sl 3 tI) tI) c none]))] [(1000192,(⟨9,.str,a,true,false⟩:ah))]
def uJ:aa:=⟨[1,3],[1],[],[],[(⟨false,3,0⟩,1000192)]⟩
def uK(a:ByteArray):St:=al [(2,.c (.str a))] [] []
def QC:aa:=⟨[2],[],[],[],[]⟩
def QD:Nat->Option aa:=au [(0,uJ),(1000000,QC)]
abbrev k7{J:Type}(N n:Nat)(U:St)(l:aa)(K:KT J):Option J:=ak BG bu QD N (ba 99 (bv Tryd.f25) n) .n U (ap (some l) K)
def QE N a (K:KT J):k7 N 2 (Qy a) BH K =
 bF.Z1 N a (λb c=>K .nrm (pX b c)):=by kernel_rfl
def QF N a b (K:KT J):k7 N 5 (pX a b) BH K =
 bF.Z3 N a b (λa b=>K .nrm (pX a b)) (λc=>K .ret (uK c)):=by kernel_rfl
def QG N a b (K:KT J):k7 N 11 (pX a b) Qz K =
 bF.Z5 N a b (λa b=>K .nrm (BI a b)):=by kernel_rfl
def QH N a b (K:KT J):k7 N 39 (BI a b) QA K =
 bF.Z8 N a b (λc d e a b=>K .nrm (BJ c d e a b)):=by kernel_rfl
def QI N a d e f b c (K:KT J):k7 N 151 (BK a d e f b c) QB K =
 bF.Z11 N a d e f b c (λa d e f b c=>K .nrm (BK a d e f b c)) (λa b c=>K (.exit 0) (mY a b c)):=by kernel_rfl
def QJ N (K:KT J):=mb K (bF.Z10L N (λa b c=>K (.exit 0) (mY a b c))) (λa d e f b c k=>bF.Z11 N a d e f b c k (λa b c=>K (.exit 0) (mY a b c))) (λF a d e f b c=>QI N a d e f b c _) (by kernel_rfl)
def QK N a b c d e (K:KT J):=vL (BJ a b c d e) (QJ N (jK uJ K) N ([]:List ByteArray) a b c d e) (by kernel_rfl)
def QL N c d e a b (K:KT J):=vB 0 uJ K (bF.Z9 N c d e a b (λf a b=>K .nrm (mY f a b))) (QK N c d e a b _) (by kernel_rfl)
def QM N a b (K:KT J):=vQ (λk=>bF.Z8 N a b k) (QH N a b _) (fg λc d e a b=>QL N c d e a b K)
def QN N a b c (K:KT J):k7 N 31 (mY a b c) Qx K =
 bF.Z12 N a b c (λd=>K .ret (uK d)):=by kernel_rfl
def QO N a b (K:KT J):=vQ (λk=>bF.Z7 N a b k) (QM N a b _) (cv λc a b=>QN N c a b K)
def QP N a b (K:KT J):=vQ (λk=>bF.Z5 N a b k) (QG N a b _) (bT λa b=>QO N a b K)
def QQ N a b (K:KT J):=vQ (λk=>bF.Z3 N a b k (λc=>K .ret (uK c))) (QF N a b _) (bT λa b=>QP N a b K)
def QR N a (K:KT J):=vQ (λk=>bF.Z1 N a k) (QE N a _) (bT λb c=>QQ N b c K)
def QS(h:bF.Spec):ax Tryd.prog 25 pW :=
 bP Tryd.func25 bw Qw (λN X K=>QR N X.1 K) (by kernel_rfl) λX hb hp=>by obtain⟨a,_⟩:=X;obtain⟨N,h⟩:=h a hb.1;exact⟨N,Eq.trans (by kernel_rfl) (h N (Nat.le_refl N))⟩
def BL:ax Tryd.prog 25 pW:=QS bF.ok
def QT:bf:=⟨[⟨.str,false,false⟩,⟨.str,false,false⟩],[⟨.str,false,false⟩,⟨.str,false,false⟩,⟨.bool,false,false⟩]⟩
def uL:aO:=⟨QT,(some λX=>strings_Cut.P X.1 X.2.1),λX=>((),((strings_Cut.g X.1 X.2.1).1,((strings_Cut.g X.1 X.2.1).2.1,((strings_Cut.g X.1 X.2.1).2.2,()))))⟩
def BM:Go.Shelf.Ren:=⟨λ|145=>39|220=>65|219=>95|217=>112|225=>113|224=>114|267=>115|266=>123|314=>124|n=>n,λ|9=>9|4=>4|59=>62|3=>3|5=>5|46=>110|146=>138|51=>137|n=>n,λ|1=>2|n=>n⟩
def QU:Lays.n145 Tryd.prog BM:={ mixed:=(by kernel_rfl),f145:=Tryd.func39.trans (congrArg some (by kernel_rfl)),f217:=Tryd.func112.trans (congrArg some (by kernel_rfl)),f219:=Tryd.func95.trans (congrArg some (by kernel_rfl)),f220:=Tryd.func65.trans (congrArg some (by kernel_rfl)),f224:=Tryd.func114.trans (congrArg some (by kernel_rfl)),f225:=Tryd.func113.trans (congrArg some (by kernel_rfl)),f266:=Tryd.func123.trans (congrArg some (by kernel_rfl)),f267:=Tryd.func115.trans (congrArg some (by kernel_rfl)),f314:=Tryd.func124.trans (congrArg some (by kernel_rfl)),t3:=Tryd.underlying3,a3:=Tryd.isAgg3,z3:=Tryd.sizeOf3,v3:=Tryd.zeroValue3,t4:=Tryd.underlying4,a4:=Tryd.isAgg4,z4:=Tryd.sizeOf4,v4:=Tryd.zeroValue4,t5:=Tryd.underlying5,a5:=Tryd.isAgg5,z5:=Tryd.sizeOf5,v5:=Tryd.zeroValue5,t9:=Tryd.underlying9,a9:=Tryd.isAgg9,z9:=Tryd.sizeOf9,v9:=Tryd.zeroValue9,t46:=Tryd.underlying110,a46:=Tryd.isAgg110,z46:=Tryd.sizeOf110,v46:=Tryd.zeroValue110,t51:=Tryd.underlying137,a51:=Tryd.isAgg137,z51:=Tryd.sizeOf137,v51:=Tryd.zeroValue137,t59:=Tryd.underlying62,a59:=Tryd.isAgg62,z59:=Tryd.sizeOf62,v59:=Tryd.zeroValue62,t146:=Tryd.underlying138,a146:=Tryd.isAgg138,z146:=Tryd.sizeOf138,v146:=Tryd.zeroValue138,g1:=(by kernel_rfl) }
def QV(_:True):ax Tryd.prog 39 uL:=EM (λw h=>(by
 obtain⟨g,h1,h2⟩:=zg w h
 have e : Tryd.prog.globalNamed "internal/bytealg.MaxLen" = some (BM.g 1) := by kernel_rfl
 rw[e]at h1;injection h1 with h1;subst h1;exact h2)) QU
def QW:ax Tryd.prog 39 uL:=QV strings_Cut.ok
def QX:bf:=⟨[⟨.str,false,false⟩,⟨.str,false,false⟩],[⟨.sl 9 (.str),false,false⟩]⟩
def pY:aO:=⟨QX,(some λX=>strings_Split.P X.1 X.2.1),λX=>((),((strings_Split.g X.1 X.2.1),()))⟩
def BN:Go.Shelf.Ren:=⟨λ|146=>31|221=>57|268=>82|138=>83|143=>84|195=>102|197=>103|218=>104|219=>95|260=>119|217=>112|225=>113|224=>114|267=>115|266=>123|314=>124|n=>n,λ|9=>9|31=>47|3=>3|4=>4|0=>0|105=>115|21=>21|5=>5|46=>110|119=>145|139=>148|138=>147|146=>138|51=>137|n=>n,λ|1=>2|3=>3|4=>4|n=>n⟩
def QY:LaysM.n146 Tryd.prog BN:={ mixed:=(by kernel_rfl),f138:=Tryd.func83.trans (congrArg some (by kernel_rfl)),f143:=Tryd.func84.trans (congrArg some (by kernel_rfl)),f146:=Tryd.func31.trans (congrArg some (by kernel_rfl)),f195:=Tryd.func102.trans (congrArg some (by kernel_rfl)),f197:=Tryd.func103.trans (congrArg some (by kernel_rfl)),f217:=Tryd.func112.trans (congrArg some (by kernel_rfl)),f218:=Tryd.func104.trans (congrArg some (by kernel_rfl)),f219:=Tryd.func95.trans (congrArg some (by kernel_rfl)),f221:=Tryd.func57.trans (congrArg some (by kernel_rfl)),f224:=Tryd.func114.trans (congrArg some (by kernel_rfl)),f225:=Tryd.func113.trans (congrArg some (by kernel_rfl)),f260:=Tryd.func119.trans (congrArg some (by kernel_rfl)),f266:=Tryd.func123.trans (congrArg some (by kernel_rfl)),f267:=Tryd.func115.trans (congrArg some (by kernel_rfl)),f268:=Tryd.func82.trans (congrArg some (by kernel_rfl)),f314:=Tryd.func124.trans (congrArg some (by kernel_rfl)),t0:=Tryd.underlying0,a0:=Tryd.isAgg0,z0:=Tryd.sizeOf0,v0:=Tryd.zeroValue0,t3:=Tryd.underlying3,a3:=Tryd.isAgg3,z3:=Tryd.sizeOf3,v3:=Tryd.zeroValue3,t4:=Tryd.underlying4,a4:=Tryd.isAgg4,z4:=Tryd.sizeOf4,v4:=Tryd.zeroValue4,t5:=Tryd.underlying5,a5:=Tryd.isAgg5,z5:=Tryd.sizeOf5,v5:=Tryd.zeroValue5,t9:=Tryd.underlying9,a9:=Tryd.isAgg9,z9:=Tryd.sizeOf9,v9:=Tryd.zeroValue9,t21:=Tryd.underlying21,a21:=Tryd.isAgg21,z21:=Tryd.sizeOf21,v21:=Tryd.zeroValue21,t31:=Tryd.underlying47,a31:=Tryd.isAgg47,z31:=Tryd.sizeOf47,v31:=Tryd.zeroValue47,t46:=Tryd.underlying110,a46:=Tryd.isAgg110,z46:=Tryd.sizeOf110,v46:=Tryd.zeroValue110,t51:=Tryd.underlying137,a51:=Tryd.isAgg137,z51:=Tryd.sizeOf137,v51:=Tryd.zeroValue137,t105:=Tryd.underlying115,a105:=Tryd.isAgg115,z105:=Tryd.sizeOf115,v105:=Tryd.zeroValue115,t119:=Tryd.underlying145,a119:=Tryd.isAgg145,z119:=Tryd.sizeOf145,t138:=Tryd.underlying147,a138:=Tryd.isAgg147,z138:=Tryd.sizeOf147,v138:=Tryd.zeroValue147,t139:=Tryd.underlying148,a139:=Tryd.isAgg148,z139:=Tryd.sizeOf148,v139:=Tryd.zeroValue148,t146:=Tryd.underlying138,a146:=Tryd.isAgg138,z146:=Tryd.sizeOf138,v146:=Tryd.zeroValue138,g1:=(by kernel_rfl),g3:=(by kernel_rfl),g4:=(by kernel_rfl),i0:=(by kernel_rfl),i3:=(by kernel_rfl),i4:=(by kernel_rfl),i5:=(by kernel_rfl),i9:=(by kernel_rfl),i21:=(by kernel_rfl),i31:=(by kernel_rfl),i46:=(by kernel_rfl),i51:=(by kernel_rfl),i105:=(by kernel_rfl),i138:=(by kernel_rfl),i139:=(by kernel_rfl),i146:=(by kernel_rfl),m1:=(by kernel_rfl),s1_3:=λw h=>Go.Proofs.cell_of_shapedOpen_int (zero:=#[.int .i64 0]) (t:=3) h (of_decide_eq_true (by kernel_rfl)) (by kernel_rfl) rfl (by kernel_rfl) (by kernel_rfl) Tryd.underlying3,m3:=(by kernel_rfl),m4:=(by kernel_rfl) }
def QZ(_:True):ax Tryd.prog 31 pY:=EL (λw h=>(by
 obtain⟨g,h1,h2⟩:=zg w h
 have e : Tryd.prog.globalNamed "internal/bytealg.MaxLen" = some (BN.g 1) := by kernel_rfl
 rw[e]at h1;injection h1 with h1;subst h1;exact h2)) QY
def BO:ax Tryd.prog 31 pY:=QZ strings_Split.ok
def Q0:bf:=⟨[⟨.str,false,false⟩],[⟨.int .i64,false,false⟩,⟨.err,false,false⟩]⟩
def uM:aO:=⟨Q0,(some λX=>eE.P X.1),λX=>((),((eE.g X.1).1,((eE.g X.1).2,())))⟩
def uN:Go.Shelf.Ren:=⟨λ|172=>32|244=>58|245=>59|247=>85|279=>86|280=>87|281=>88|282=>89|287=>105|316=>106|171=>73|205=>107|321=>120|322=>121|243=>97|246=>116|283=>125|284=>126|285=>127|286=>128|129=>130|317=>129|318=>131|319=>132|320=>133|337=>134|338=>135|n=>n,λ|9=>9|3=>3|75=>53|76=>54|4=>4|5=>5|167=>103|37=>41|0=>0|85=>104|2=>2|168=>106|53=>118|175=>119|46=>110|210=>123|127=>112|145=>136|143=>134|21=>21|171=>140|173=>143|212=>150|51=>137|20=>20|213=>151|232=>154|233=>155|80=>98|n=>n,λ|15=>0|16=>1|17=>5|18=>6|19=>7|n=>n⟩
def Q1:LaysC.n172 Tryd.prog uN:={ mixed:=(by kernel_rfl),f129:=Tryd.func130.trans (congrArg some (by kernel_rfl)),f171:=Tryd.func73.trans (congrArg some (by kernel_rfl)),f172:=Tryd.func32.trans (congrArg some (by kernel_rfl)),f205:=Tryd.func107.trans (congrArg some (by kernel_rfl)),f243:=Tryd.func97.trans (congrArg some (by kernel_rfl)),f244:=Tryd.func58.trans (congrArg some (by kernel_rfl)),f245:=Tryd.func59.trans (congrArg some (by kernel_rfl)),f246:=Tryd.func116.trans (congrArg some (by kernel_rfl)),f247:=Tryd.func85.trans (congrArg some (by kernel_rfl)),f279:=Tryd.func86.trans (congrArg some (by kernel_rfl)),f280:=Tryd.func87.trans (congrArg some (by kernel_rfl)),f281:=Tryd.func88.trans (congrArg some (by kernel_rfl)),f282:=Tryd.func89.trans (congrArg some (by kernel_rfl)),f283:=Tryd.func125.trans (congrArg some (by kernel_rfl)),f284:=Tryd.func126.trans (congrArg some (by kernel_rfl)),f285:=Tryd.func127.trans (congrArg some (by kernel_rfl)),f286:=Tryd.func128.trans (congrArg some (by kernel_rfl)),f287:=Tryd.func105.trans (congrArg some (by kernel_rfl)),f316:=Tryd.func106.trans (congrArg some (by kernel_rfl)),f317:=Tryd.func129.trans (congrArg some (by kernel_rfl)),f318:=Tryd.func131.trans (congrArg some (by kernel_rfl)),f319:=Tryd.func132.trans (congrArg some (by kernel_rfl)),f320:=Tryd.func133.trans (congrArg some (by kernel_rfl)),f321:=Tryd.func120.trans (congrArg some (by kernel_rfl)),f322:=Tryd.func121.trans (congrArg some (by kernel_rfl)),f337:=Tryd.func134.trans (congrArg some (by kernel_rfl)),f338:=Tryd.func135.trans (congrArg some (by kernel_rfl)),t0:=Tryd.underlying0,a0:=Tryd.isAgg0,z0:=Tryd.sizeOf0,v0:=Tryd.zeroValue0,t2:=Tryd.underlying2,a2:=Tryd.isAgg2,z2:=Tryd.sizeOf2,v2:=Tryd.zeroValue2,t3:=Tryd.underlying3,a3:=Tryd.isAgg3,z3:=Tryd.sizeOf3,v3:=Tryd.zeroValue3,t4:=Tryd.underlying4,a4:=Tryd.isAgg4,z4:=Tryd.sizeOf4,v4:=Tryd.zeroValue4,t5:=Tryd.underlying5,a5:=Tryd.isAgg5,z5:=Tryd.sizeOf5,v5:=Tryd.zeroValue5,t9:=Tryd.underlying9,a9:=Tryd.isAgg9,z9:=Tryd.sizeOf9,v9:=Tryd.zeroValue9,t20:=Tryd.underlying20,a20:=Tryd.isAgg20,z20:=Tryd.sizeOf20,v20:=Tryd.zeroValue20,t21:=Tryd.underlying21,a21:=Tryd.isAgg21,z21:=Tryd.sizeOf21,v21:=Tryd.zeroValue21,t37:=Tryd.underlying41,a37:=Tryd.isAgg41,z37:=Tryd.sizeOf41,v37:=Tryd.zeroValue41,t46:=Tryd.underlying110,a46:=Tryd.isAgg110,z46:=Tryd.sizeOf110,v46:=Tryd.zeroValue110,t51:=Tryd.underlying137,a51:=Tryd.isAgg137,z51:=Tryd.sizeOf137,v51:=Tryd.zeroValue137,t53:=Tryd.underlying118,a53:=Tryd.isAgg118,z53:=Tryd.sizeOf118,v53:=Tryd.zeroValue118,t75:=Tryd.underlying53,a75:=Tryd.isAgg53,z75:=Tryd.sizeOf53,v75:=Tryd.zeroValue53,t76:=Tryd.underlying54,a76:=Tryd.isAgg54,z76:=Tryd.sizeOf54,v76:=Tryd.zeroValue54,t85:=Tryd.underlying104,a85:=Tryd.isAgg104,z85:=Tryd.sizeOf104,v85:=Tryd.zeroValue104,t127:=Tryd.underlying112,a127:=Tryd.isAgg112,z127:=Tryd.sizeOf112,v127:=Tryd.zeroValue112,t143:=Tryd.underlying134,a143:=Tryd.isAgg134,z143:=Tryd.sizeOf134,v143:=Tryd.zeroValue134,t145:=Tryd.underlying136,a145:=Tryd.isAgg136,z145:=Tryd.sizeOf136,v145:=Tryd.zeroValue136,t167:=Tryd.underlying103,a167:=Tryd.isAgg103,z167:=Tryd.sizeOf103,v167:=Tryd.zeroValue103,t168:=Tryd.underlying106,a168:=Tryd.isAgg106,z168:=Tryd.sizeOf106,v168:=Tryd.zeroValue106,t171:=Tryd.underlying140,a171:=Tryd.isAgg140,z171:=Tryd.sizeOf140,v171:=Tryd.zeroValue140,t173:=Tryd.underlying143,a173:=Tryd.isAgg143,z173:=Tryd.sizeOf143,v173:=Tryd.zeroValue143,t175:=Tryd.underlying119,a175:=Tryd.isAgg119,z175:=Tryd.sizeOf119,v175:=Tryd.zeroValue119,t210:=Tryd.underlying123,a210:=Tryd.isAgg123,z210:=Tryd.sizeOf123,v210:=Tryd.zeroValue123,t212:=Tryd.underlying150,a212:=Tryd.isAgg150,z212:=Tryd.sizeOf150,v212:=Tryd.zeroValue150,t213:=Tryd.underlying151,a213:=Tryd.isAgg151,z213:=Tryd.sizeOf151,t232:=Tryd.underlying154,a232:=Tryd.isAgg154,z232:=Tryd.sizeOf154,v232:=Tryd.zeroValue154,t233:=Tryd.underlying155,a233:=Tryd.isAgg155,z233:=Tryd.sizeOf155,v233:=Tryd.zeroValue155,g15:=(by kernel_rfl),g16:=(by kernel_rfl),g17:=(by kernel_rfl),g18:=(by kernel_rfl),g19:=(by kernel_rfl),t80:=Tryd.underlying98,a80:=Tryd.isAgg98,z80:=Tryd.sizeOf98,v80:=Tryd.zeroValue98,i0:=(by kernel_rfl),i2:=(by kernel_rfl),i3:=(by kernel_rfl),i4:=(by kernel_rfl),i5:=(by kernel_rfl),i9:=(by kernel_rfl),i20:=(by kernel_rfl),i21:=(by kernel_rfl),i37:=(by kernel_rfl),i46:=(by kernel_rfl),i51:=(by kernel_rfl),i53:=(by kernel_rfl),i75:=(by kernel_rfl),i76:=(by kernel_rfl),i80:=(by kernel_rfl),i85:=(by kernel_rfl),i127:=(by kernel_rfl),i143:=(by kernel_rfl),i145:=(by kernel_rfl),i167:=(by kernel_rfl),i168:=(by kernel_rfl),i171:=(by kernel_rfl),i173:=(by kernel_rfl),i175:=(by kernel_rfl),i210:=(by kernel_rfl),i212:=(by kernel_rfl),i232:=(by kernel_rfl),i233:=(by kernel_rfl),m15:=(by kernel_rfl),m16:=(by kernel_rfl),m17:=(by kernel_rfl),m18:=(by kernel_rfl),m19:=(by kernel_rfl),c0:=(by kernel_rfl),c2:=(by kernel_rfl),c3:=(by kernel_rfl),c4:=(by kernel_rfl),c5:=(by kernel_rfl),c9:=(by kernel_rfl),c20:=(by kernel_rfl),c21:=(by kernel_rfl),c37:=(by kernel_rfl),c46:=(by kernel_rfl),c51:=(by kernel_rfl),c53:=(by kernel_rfl),c75:=(by kernel_rfl),c76:=(by kernel_rfl),c80:=(by kernel_rfl),c85:=(by kernel_rfl),c127:=(by kernel_rfl),c143:=(by kernel_rfl),c145:=(by kernel_rfl),c167:=(by kernel_rfl),c168:=(by kernel_rfl),c171:=(by kernel_rfl),c173:=(by kernel_rfl),c175:=(by kernel_rfl),c210:=(by kernel_rfl),c212:=(by kernel_rfl),c213:=(by kernel_rfl),c232:=(by kernel_rfl),c233:=(by kernel_rfl) }
def Q2(_:True):ax Tryd.prog 32 uM:=EN (λw h=>(by
 obtain⟨g,h1,h2⟩:=Gk w h
 have e : Tryd.prog.globalNamed "strconv.ErrSyntax" = some (uN.g 15) := by kernel_rfl
 rw[e]at h1;injection h1 with h1;subst h1;exact h2)) (λw h=>(by
 obtain⟨g,h1,h2⟩:=Gl w h
 have e : Tryd.prog.globalNamed "strconv.ErrRange" = some (uN.g 16) := by kernel_rfl
 rw[e]at h1;injection h1 with h1;subst h1;exact h2)) Q1
def Q3:ax Tryd.prog 32 uM:=Q2 eE.ok
def BP:bf:=⟨[⟨.str,false,false⟩],[⟨.sl 3 (.int .i64),false,false⟩,⟨.bool,false,false⟩]⟩
def e8:aO:=⟨BP,(some λX=>bp.P X.1),λX=>((),((bp.g X.1).1,((bp.g X.1).2,())))⟩
def BQ:Gm:=aT (aT (aT (aT bq 31 pY) 32 uM) 33 kX) 34 pV
def Q4:ao Tryd.prog BQ:=((((ao.nil).add BO (by kernel_rfl)).add Q3 (by kernel_rfl)).add pL (by kernel_rfl)).add BE (by kernel_rfl)
def Q5:aa:=⟨[],[],[],[],[]⟩
def Q6(a:ByteArray):St:=bG BP.ps (a,())
def pZ(a:ByteArray):St:=al [(0,.c (.str a))] [] []
def BR:aa:=⟨[0],[],[],[],[]⟩
def BS(a:ByteArray):St:=al [(0,.c (.str a)),(4,.c (.nil))] [] []
def Q7:aa:=⟨[0,4],[],[],[],[]⟩
def BT(a:List ByteArray)(b:ByteArray)(d e:Int):St:=al [(0,.c (.str b)),(4,.c (.nil)),(12,xo 1000768),(13,xi d),(14,xi e)] [] [(1000768,(⟨9,.str,a,true,false⟩:ah))]
def Q8:aa:=⟨[0,4,12,13,14],[],[],[],[(⟨false,12,0⟩,1000768)]⟩
def BU(a:LI)(b:List ByteArray)(d:ByteArray)(e f:Int):St:=al [(0,.c (.str d)),(4,xo 1000256),(12,xo 1000768),(13,xi e),(14,xi f)] [] [(1000256,(⟨3,.int .i64,a,true,false⟩:ah)),(1000768,(⟨9,.str,b,true,false⟩:ah))]
def Q9:aa:=⟨[0,4,12,13,14],[],[⟨⟨false,4,0⟩,30000000,3,.int .i64,true⟩],[],[(⟨false,4,0⟩,1000256),(⟨false,12,0⟩,1000768)]⟩
def mZ(a:LI)(b:ByteArray):St:=al [(0,.c (.str b)),(4,xo 1000256)] [] [(1000256,(⟨3,.int .i64,a,true,false⟩:ah))]
def uO:aa:=⟨[0,4],[],[],[],[(⟨false,4,0⟩,1000256)]⟩
def iK(a:LI)(b:Bool):St:=al [(2,xo 1000128),(3,xB b)] [] [(1000128,(⟨3,.int .i64,a,true,false⟩:ah))]
def Ra:aa:=⟨[2,3],[],[⟨⟨false,2,0⟩,30000000,3,.int .i64,true⟩],[],[(⟨false,2,0⟩,1000128)]⟩
def Rb:Nat->Option aa:=au [(0,uO),(1000000,Ra)]
abbrev k8{J:Type}(N n:Nat)(U:St)(l:aa)(K:KT J):Option J:=ak BQ bu Rb N (ba 99 (bv Tryd.f8) n) .n U (ap (some l) K)
def Rc N a (K:KT J):k8 N 2 (Q6 a) BR K =
 bp.Z1 N a (λa=>K .nrm (pZ a)):=by kernel_rfl
def Re N a (K:KT J):k8 N 5 (pZ a) BR K =
 bp.Z3 N a (λa=>K .nrm (pZ a)) (λb c=>K .ret (iK b c)):=by kernel_rfl
def Rg N a (K:KT J):k8 N 11 (pZ a) Q7 K =
 bp.Z5 N a (λa=>K .nrm (BS a)):=by kernel_rfl
def Rh N a (K:KT J):k8 N 39 (BS a) Q8 K =
 bp.Z8 N a (λb a c d=>K .nrm (BT b a c d)):=by kernel_rfl
def Ri N a c b d e (K:KT J):k8 N 151 (BU a c b d e) Q9 K =
 bp.Z11 N a c b d e (λa c b d e=>K .nrm (BU a c b d e)) (λa b=>K (.exit 0) (mZ a b)) (λf g=>K .ret (iK f g)):=by kernel_rfl
def Rj N (K:KT J):=ma K (bp.Z10L N (λa b=>K (.exit 0) (mZ a b)) (λc d=>K .ret (iK c d))) (λa e b f g k=>bp.Z11 N a e b f g k (λa b=>K (.exit 0) (mZ a b)) (λc d=>K .ret (iK c d))) (λF a e b f g=>Ri N a e b f g _) (by kernel_rfl)
def Rk N a b c d (K:KT J):=vL (BT a b c d) (Rj N (jK uO K) N ([]:List Int) a b c d) (by kernel_rfl)
def Rl N b a c d (K:KT J):=vB 0 uO K (bp.Z9 N b a c d (λe a=>K .nrm (mZ e a)) (λf g=>K .ret (iK f g))) (Rk N b a c d _) (by kernel_rfl)
def Rm N a (K:KT J):=vQ (λk=>bp.Z8 N a k) (Rh N a _) (fe λb a c d=>Rl N b a c d K)
def Rn N a b (K:KT J):k8 N 31 (mZ a b) Q5 K =
 bp.Z12 N a b (λc d=>K .ret (iK c d)):=by kernel_rfl
def Ro N a (K:KT J):=vQ (λk=>bp.Z7 N a k (λb c=>K .ret (iK b c))) (Rm N a _) (bT λd a=>Rn N d a K)
def Rp N a (K:KT J):=vQ (λk=>bp.Z5 N a k) (Rg N a _) (funext λa=>Ro N a K)
def Rq N a (K:KT J):=vQ (λk=>bp.Z3 N a k (λb c=>K .ret (iK b c))) (Re N a _) (funext λa=>Rp N a K)
def Rr N a (K:KT J):=vQ (λk=>bp.Z1 N a k) (Rc N a _) (funext λa=>Rq N a K)
def Rs(h:bp.Spec):ax Tryd.prog 8 e8 :=
 bP Tryd.func8 bw Q4 (λN X K=>Rr N X.1 K) (by kernel_rfl) λX hb hp=>by obtain⟨a,_⟩:=X;obtain⟨N,h⟩:=h a hp;exact⟨N,Eq.trans (by kernel_rfl) (h N (Nat.le_refl N))⟩
def Rt:ax Tryd.prog 8 e8:=Rs bp.ok
def BV:bf:=⟨[⟨.str,false,false⟩],[⟨.pair (.int .i64) (.sl 61 (.pair (.sl 3 (.int .i64)) (.int .i64))),true,false⟩,⟨.bool,false,false⟩]⟩
def uP:aO:=⟨BV,(some λX=>aX.P X.1),λX=>((),((aX.g X.1).1,((aX.g X.1).2,())))⟩
def BW:Gm:=aT (aT (aT (aT (aT bq 8 e8) 25 pW) 28 mT) 31 pY) 39 uL
def Ru:ao Tryd.prog BW:=(((((ao.nil).add Rt (by kernel_rfl)).add BL (by kernel_rfl)).add uG (by kernel_rfl)).add BO (by kernel_rfl)).add QW (by kernel_rfl)
def Rv:aa:=⟨[],[],[],[],[]⟩
def Rw(a:ByteArray):St:=bG BV.ps (a,())
def BX(a:ByteArray)(b:Int):St:=al [(0,.c (.str a)),(2,xb 2)] [(2,(36,[yi b,.nil]))] []
def Rx:aa:=⟨[0,2],[2],[],[],[]⟩
def BY(a b d:ByteArray)(e:Bool)(f:Int):St:=al [(0,.c (.str a)),(2,xb 2),(4,.c (.str b)),(5,.c (.str d)),(6,xB e)] [(2,(36,[yi f,.nil]))] []
def Ry:aa:=⟨[0,2,4,5,6],[2],[],[],[]⟩
def BZ(a:LI)(b d:ByteArray)(e f:Bool)(g:Int):St:=al [(0,.c (.str b)),(2,xb 2),(5,.c (.str d)),(6,xB e),(7,xo 1000448),(8,xB f)] [(2,(36,[yi g,.nil]))] [(1000448,(⟨3,.int .i64,a,true,false⟩:ah))]
def Rz:aa:=⟨[0,2,5,6,7,8],[2],[],[],[(⟨false,7,0⟩,1000448)]⟩
def B0(a:LI)(b d:ByteArray)(e:Int):St:=al [(0,.c (.str b)),(2,xb 2),(5,.c (.str d)),(7,xo 1000448)] [(2,(36,[yi e,.nil]))] [(1000448,(⟨3,.int .i64,a,true,false⟩:ah))]
def RA:aa:=⟨[0,2,5,7],[2],[],[],[(⟨false,7,0⟩,1000448)]⟩
def B1(a b:ByteArray)(d e:Int):St:=al [(0,.c (.str a)),(2,xb 2),(5,.c (.str b)),(9,xb 9)] [(2,(36,[yi d,.nil])),(9,(36,[yi e,.nil]))] []
def RB:aa:=⟨[0,2,5,9],[2,9],[],[],[]⟩
def uQ(a b:ByteArray)(d:Bool)(e f:Int):St:=al [(0,.c (.str a)),(2,xb 2),(5,.c (.str b)),(9,xb 9),(47,xB d)] [(2,(36,[yi e,.nil])),(9,(36,[yi f,.nil]))] []
def RC:aa:=⟨[0,2,5,9,47],[2,9],[],[],[]⟩
def B2(a:List ByteArray)(b:ByteArray)(d e f g:Int):St:=al [(0,.c (.str b)),(2,xb 2),(9,xb 9),(49,xo 1003136),(50,xi d),(51,xi e)] [(2,(36,[yi f,.nil])),(9,(36,[yi g,.nil]))] [(1003136,(⟨9,.str,a,true,false⟩:ah))]
def RD:aa:=⟨[0,2,9,49,50,51],[2,9],[],[],[(⟨false,49,0⟩,1003136)]⟩
def B3(a:List ByteArray)(b:List (LI×Int))(d:ByteArray)(e f g h:Int):St:=al [(0,.c (.str d)),(2,xb 2),(9,xb 9),(49,xo 1003136),(50,xi e),(51,xi f)] [(2,(36,[yi g,.nil])),(9,(36,[yi h,.own 20000577]))] [(1003136,(⟨9,.str,a,true,false⟩:ah)),(20000577,(⟨61,.pair (.sl 3 tI) tI,b,true,false⟩:ah))]
def RE:aa:=⟨[0,2,9,49,50,51],[2,9],[⟨⟨true,9,1⟩,30000000,61,.pair (.sl 3 (.int .i64)) (.int .i64),true⟩],[],[(⟨false,49,0⟩,1003136),(⟨true,9,1⟩,20000577)]⟩
def uR(a:List (LI×Int))(b:ByteArray)(d e:Int):St:=al [(0,.c (.str b)),(2,xb 2),(9,xb 9)] [(2,(36,[yi d,.nil])),(9,(36,[yi e,.own 20000577]))] [(20000577,(⟨61,.pair (.sl 3 tI) tI,a,true,false⟩:ah))]
def B4:aa:=⟨[0,2,9],[2,9],[],[],[(⟨true,9,1⟩,20000577)]⟩
def uS(a:List (LI×Int))(b:ByteArray)(d e:Int):St:=al [(0,.c (.str b)),(2,xb 2),(9,xb 9)] [(2,(36,[yi d,.nil])),(9,(36,[yi e,.own 20000577]))] [(20000577,(⟨61,.pair (.sl 3 tI) tI,a,true,false⟩:ah))]
def B5:aa:=⟨[0,2,9],[2,9],[⟨⟨true,9,1⟩,30000000,61,.pair (.sl 3 (.int .i64)) (.int .i64),true⟩],[],[(⟨true,9,1⟩,20000577)]⟩
def iL(a:List (LI×Int))(b:Bool)(c:Int):St:=al [(2,xb 2),(3,xB b)] [(2,(36,[yi c,.own 20000129]))] [(20000129,(⟨61,.pair (.sl 3 tI) tI,a,true,false⟩:ah))]
def RF:aa:=⟨[2,3],[2],[⟨⟨true,2,1⟩,30000000,61,.pair (.sl 3 (.int .i64)) (.int .i64),true⟩],[],[(⟨true,2,1⟩,20000129)]⟩
def RG:Nat->Option aa:=au [(0,B4),(1000000,RF)]
abbrev gf{J:Type}(N n:Nat)(U:St)(l:aa)(K:KT J):Option J:=ak BW bu RG N (ba 99 (bv Tryd.f18) n) .n U (ap (some l) K)
def RH N a (K:KT J):gf N 2 (Rw a) Rx K =
 aX.Z1 N a (λa b=>K .nrm (BX a b)):=by kernel_rfl
def RI N a b (K:KT J):gf N 5 (BX a b) Ry K =
 aX.Z3 N a b (λa c d e b=>K .nrm (BY a c d e b)):=by kernel_rfl
def RJ N a e b c d (K:KT J):gf N 11 (BY a e b c d) Rz K =
 aX.Z5 N a e b c d (λf a b c g d=>K .nrm (BZ f a b c g d)):=by kernel_rfl
def RK N b c d e f a (K:KT J):gf N 23 (BZ b c d e f a) RA K =
 aX.Z7 N b c d e f a (λb c d a=>K .nrm (B0 b c d a)) (λg h a=>K .ret (iL g h a)):=by kernel_rfl
def RL N d a b c (K:KT J):gf N 47 (B0 d a b c) RB K =
 aX.Z9 N d a b c (λa b c e=>K .nrm (B1 a b c e)):=by kernel_rfl
def RM N a b c d (K:KT J):gf N 159 (B1 a b c d) RC K =
 aX.Z12 N a b c d (λa b e c d=>K .nrm (uQ a b e c d)):=by kernel_rfl
def RN N a d e b c (K:KT J):gf N 607 (uQ a d e b c) RD K =
 aX.Z15 N a d e b c (λf a g h b c=>K .nrm (B2 f a g h b c)):=by kernel_rfl
def RO N e b c f g a d (K:KT J):gf N 2399 (B3 e b c f g a d) RE K =
 aX.Z18 N e b c f g a d (λe b c f g a d=>K .nrm (B3 e b c f g a d)) (λb c a d=>K (.exit 0) (uR b c a d)) (λh i a=>K .ret (iL h i a)):=by kernel_rfl
def RP N (K:KT J):=xa K (aX.Z17L N (λb c a d=>K (.exit 0) (uR b c a d)) (λe f a=>K .ret (iL e f a))) (λg b c h i a d k=>aX.Z18 N g b c h i a d k (λb c a d=>K (.exit 0) (uR b c a d)) (λe f a=>K .ret (iL e f a))) (λF g b c h i a d=>RO N g b c h i a d _) (by kernel_rfl)
def RQ N a b c d e f (K:KT J):=vL (B2 a b c d e f) (RP N (jK B4 K) N a ([]:List (LI×Int)) b c d e f) (by kernel_rfl)
def RR N d b e f a c (K:KT J):=vB 0 B5 K (aX.Z16 N d b e f a c (λg b a c=>K .nrm (uS g b a c)) (λh i a=>K .ret (iL h i a))) (RQ N d b e f a c _) (by kernel_rfl)
def RS N a d e b c (K:KT J):=vQ (λk=>aX.Z15 N a d e b c k) (RN N a d e b c _) (iq λf a g h b c=>RR N f a g h b c K)
def RT N a d e b c (K:KT J):gf N 479 (uQ a d e b c) B5 K =
 aX.Z19 N a d e b c (λf a b c=>K .nrm (uS f a b c)):=by kernel_rfl
def RU N b c a d e (K:KT J):=vI (.tmp 47) (a) (RS N b c a d e K) (RT N b c a d e K) (by kernel_rfl)
def RV N a b c d (K:KT J):=vQ (λk=>aX.Z12 N a b c d k) (RM N a b c d _) (fg λa b e c d=>RU N a b e c d K)
def RW N b c a d (K:KT J):gf N 127 (uS b c a d) Rv K =
 aX.Z20 N b c a d (λe f a=>K .ret (iL e f a)):=by kernel_rfl
def RX N b d a c (K:KT J):=vQ (λk=>aX.Z11 N b d a c k (λe f a=>K .ret (iL e f a))) (RV N b d a c _) (fe λg b a c=>RW N g b a c K)
def RY N d a b c (K:KT J):=vQ (λk=>aX.Z9 N d a b c k) (RL N d a b c _) (fe λa b c e=>RX N a b c e K)
def RZ N b c d e f a (K:KT J):=vQ (λk=>aX.Z7 N b c d e f a k (λg h a=>K .ret (iL g h a))) (RK N b c d e f a _) (fe λb c d a=>RY N b c d a K)
def R0 N a e b c d (K:KT J):=vQ (λk=>aX.Z5 N a e b c d k) (RJ N a e b c d _) (iq λf a b c g d=>RZ N f a b c g d K)
def R2 N a b (K:KT J):=vQ (λk=>aX.Z3 N a b k) (RI N a b _) (fg λa c d e b=>R0 N a c d e b K)
def R3 N a (K:KT J):=vQ (λk=>aX.Z1 N a k) (RH N a _) (bT λa b=>R2 N a b K)
def R4(h:aX.Spec):ax Tryd.prog 18 uP :=
 bP Tryd.func18 bw Ru (λN X K=>R3 N X.1 K) (by kernel_rfl) λX hb hp=>by obtain⟨a,_⟩:=X;obtain⟨N,h⟩:=h a hp;exact⟨N,Eq.trans (by kernel_rfl) (h N (Nat.le_refl N))⟩
def R5:ax Tryd.prog 18 uP:=R4 aX.ok
def B6:bf:=⟨[⟨.pair (.int .i64) (.sl 61 (.pair (.sl 3 (.int .i64)) (.int .i64))),true,false⟩],[⟨.bool,false,false⟩]⟩
def uT:aO:=⟨B6,none,λX=>((),((gi.g X.1),()))⟩
def B7:Gm:=aT bq 51 mH
def R6:ao Tryd.prog B7:=(ao.nil).add tT (by kernel_rfl)
def R7:aa:=⟨[],[],[],[],[]⟩
def R8(a:Int×List (LI×Int)):St:=bG B6.ps (a,())
def R9(a:Bool):St:=al [(2,xB a)] [] []
def Sa:aa:=⟨[2],[],[],[],[]⟩
def Sb:Nat->Option aa:=au [(1000000,Sa)]
abbrev Sc{J:Type}(N n:Nat)(U:St)(l:aa)(K:KT J):Option J:=ak B7 bu Sb N (ba 99 (bv Tryd.f26) n) .n U (ap (some l) K)
def Sd N a (K:KT J):Sc N 1 (R8 a) R7 K =
 gi.Z0 N a (λb=>K .ret (R9 b)):=by kernel_rfl
def Se(h:gi.Spec):ax Tryd.prog 26 uT :=
 bP Tryd.func26 bw R6 (λN X K=>Sd N X.1 K) (by kernel_rfl) λX hb hp=>by obtain⟨a,_⟩:=X;obtain⟨N,h⟩:=h a hb.1;exact⟨N,Eq.trans (by kernel_rfl) (h N (Nat.le_refl N))⟩
def Sf:ax Tryd.prog 26 uT:=Se gi.ok
def B8:bf:=⟨[⟨.sl 3 (.int .i64),false,false⟩,⟨.sl 3 (.int .i64),false,false⟩],[⟨.bool,false,false⟩]⟩
def uU:aO:=⟨B8,none,λX=>((),((cT.g X.1 X.2.1),()))⟩
def B9:Gm:=bq
def Sg:ao Tryd.prog B9:=ao.nil
def Sh:aa:=⟨[],[],[],[],[]⟩
def Si(a b:LI):St:=bG B8.ps (a,(b,()))
def p5(a b:LI):St:=al [(0,.c (.sn 3 tI a none)),(1,.c (.sn 3 tI b none))] [] []
def Ca:aa:=⟨[0,1],[],[],[],[]⟩
def p6(a b:LI)(d:Int):St:=al [(0,.c (.sn 3 tI a none)),(1,.c (.sn 3 tI b none)),(5,xi d)] [] []
def Cb:aa:=⟨[0,1,5],[],[],[],[]⟩
def m7 :St:=al [] [] []
def uV:aa:=⟨[],[],[],[],[]⟩
def iM(a:Bool):St:=al [(4,xB a)] [] []
def Sj:aa:=⟨[4],[],[],[],[]⟩
def Sk:Nat->Option aa:=au [(0,uV),(1000000,Sj)]
abbrev m8{J:Type}(N n:Nat)(U:St)(l:aa)(K:KT J):Option J:=ak B9 bu Sk N (ba 99 (bv Tryd.f52) n) .n U (ap (some l) K)
def Sl N a b (K:KT J):m8 N 2 (Si a b) Ca K =
 cT.Z1 N a b (λa b=>K .nrm (p5 a b)):=by kernel_rfl
def Sm N a b (K:KT J):m8 N 5 (p5 a b) Ca K =
 cT.Z3 N a b (λa b=>K .nrm (p5 a b)) (λc=>K .ret (iM c)):=by kernel_rfl
def Sn N a b (K:KT J):m8 N 19 (p5 a b) Cb K =
 cT.Z6 N a b (λa b c=>K .nrm (p6 a b c)):=by kernel_rfl
def So N a b c (K:KT J):m8 N 75 (p6 a b c) Cb K =
 cT.Z9 N a b c (λa b c=>K .nrm (p6 a b c)) (K (.exit 0) m7) (λd=>K .ret (iM d)):=by kernel_rfl
def Sp N (K:KT J):=fh K (cT.Z8L N (K (.exit 0) m7) (λa=>K .ret (iM a))) (λb c d k=>cT.Z9 N b c d k (K (.exit 0) m7) (λa=>K .ret (iM a))) (λF b c d=>So N b c d _) (by kernel_rfl)
def Sq N a b c (K:KT J):=vL (p6 a b c) (Sp N (jK uV K) N a b c) (by kernel_rfl)
def Sr N a b c (K:KT J):=vB 0 uV K (cT.Z7 N a b c (K .nrm m7) (λd=>K .ret (iM d))) (Sq N a b c _) (by kernel_rfl)
def Ss N a b (K:KT J):=vQ (λk=>cT.Z6 N a b k) (Sn N a b _) (cv λa b c=>Sr N a b c K)
def Su N  (K:KT J):m8 N 15 m7 Sh K =
 cT.Z10 N (λa=>K .ret (iM a)):=by kernel_rfl
def Sv N a b (K:KT J):=vQ (λk=>cT.Z5 N a b k (λc=>K .ret (iM c))) (Ss N a b _) (Su N K)
def Sw N a b (K:KT J):=vQ (λk=>cT.Z3 N a b k (λc=>K .ret (iM c))) (Sm N a b _) (bT λa b=>Sv N a b K)
def Sx N a b (K:KT J):=vQ (λk=>cT.Z1 N a b k) (Sl N a b _) (bT λa b=>Sw N a b K)
def Sy(h:cT.Spec):ax Tryd.prog 52 uU :=
 bP Tryd.func52 bw Sg (λN X K=>Sx N X.1 X.2.1 K) (by kernel_rfl) λX hb hp=>by obtain⟨a,b,_⟩:=X;obtain⟨N,h⟩:=h a b hb.1 hb.2.1;exact⟨N,Eq.trans (by kernel_rfl) (h N (Nat.le_refl N))⟩
def Sz:ax Tryd.prog 52 uU:=Sy cT.ok
def Cc:bf:=⟨[⟨.pair (.int .i64) (.sl 61 (.pair (.sl 3 (.int .i64)) (.int .i64))),true,false⟩,⟨.pair (.int .i64) (.sl 61 (.pair (.sl 3 (.int .i64)) (.int .i64))),true,false⟩],[⟨.bool,false,false⟩]⟩
def uW:aO:=⟨Cc,none,λX=>((),((dg.g X.1 X.2.1),()))⟩
def Cd:Gm:=aT bq 52 uU
def SA:ao Tryd.prog Cd:=(ao.nil).add Sz (by kernel_rfl)
def SB:aa:=⟨[],[],[],[],[]⟩
def SC(a b:Int×List (LI×Int)):St:=bG Cc.ps (a,(b,()))
def p7(a:Int)(b:List (LI×Int))(c:Int)(d:List (LI×Int)):St:=al [(2,xb 2),(3,xb 3)] [(2,(36,[yi a,.sn 61 (.pair (.sl 3 tI) tI) b none])),(3,(36,[yi c,.sn 61 (.pair (.sl 3 tI) tI) d none]))] []
def Ce:aa:=⟨[2,3],[2,3],[],[],[]⟩
def p8(a b:Int)(c:List (LI×Int))(d:Int)(e:List (LI×Int)):St:=al [(2,xb 2),(3,xb 3),(5,xi a)] [(2,(36,[yi b,.sn 61 (.pair (.sl 3 tI) tI) c none])),(3,(36,[yi d,.sn 61 (.pair (.sl 3 tI) tI) e none]))] []
def Cf:aa:=⟨[2,3,5],[2,3],[],[],[]⟩
def m9 :St:=al [] [] []
def uX:aa:=⟨[],[],[],[],[]⟩
def iN(a:Bool):St:=al [(4,xB a)] [] []
def SD:aa:=⟨[4],[],[],[],[]⟩
def SE:Nat->Option aa:=au [(0,uX),(1000000,SD)]
abbrev na{J:Type}(N n:Nat)(U:St)(l:aa)(K:KT J):Option J:=ak Cd bu SE N (ba 99 (bv Tryd.f27) n) .n U (ap (some l) K)
def SF N a b (K:KT J):na N 2 (SC a b) Ce K =
 dg.Z1 N a b (λc d e f=>K .nrm (p7 c d e f)):=by kernel_rfl
def SG N a b c d (K:KT J):na N 5 (p7 a b c d) Ce K =
 dg.Z3 N a b c d (λa b c d=>K .nrm (p7 a b c d)) (λe=>K .ret (iN e)):=by kernel_rfl
def SH N a b c d (K:KT J):na N 19 (p7 a b c d) Cf K =
 dg.Z6 N a b c d (λe a b c d=>K .nrm (p8 e a b c d)):=by kernel_rfl
def SI N a b c d e (K:KT J):na N 75 (p8 a b c d e) Cf K =
 dg.Z9 N a b c d e (λa b c d e=>K .nrm (p8 a b c d e)) (K (.exit 0) m9) (λf=>K .ret (iN f)):=by kernel_rfl
def SJ N (K:KT J):=ma K (dg.Z8L N (K (.exit 0) m9) (λa=>K .ret (iN a))) (λb c d e f k=>dg.Z9 N b c d e f k (K (.exit 0) m9) (λa=>K .ret (iN a))) (λF b c d e f=>SI N b c d e f _) (by kernel_rfl)
def SK N a b c d e (K:KT J):=vL (p8 a b c d e) (SJ N (jK uX K) N a b c d e) (by kernel_rfl)
def SL N a b c d e (K:KT J):=vB 0 uX K (dg.Z7 N a b c d e (K .nrm m9) (λf=>K .ret (iN f))) (SK N a b c d e _) (by kernel_rfl)
def SM N a b c d (K:KT J):=vQ (λk=>dg.Z6 N a b c d k) (SH N a b c d _) (fg λe a b c d=>SL N e a b c d K)
def SN N  (K:KT J):na N 15 m9 SB K =
 dg.Z10 N (λa=>K .ret (iN a)):=by kernel_rfl
def SO N a b c d (K:KT J):=vQ (λk=>dg.Z5 N a b c d k (λe=>K .ret (iN e))) (SM N a b c d _) (SN N K)
def SP N a b c d (K:KT J):=vQ (λk=>dg.Z3 N a b c d k (λe=>K .ret (iN e))) (SG N a b c d _) (fe λa b c d=>SO N a b c d K)
def SQ N a b (K:KT J):=vQ (λk=>dg.Z1 N a b k) (SF N a b _) (fe λc d e f=>SP N c d e f K)
def SR(h:dg.Spec):ax Tryd.prog 27 uW :=
 bP Tryd.func27 bw SA (λN X K=>SQ N X.1 X.2.1 K) (by kernel_rfl) λX hb hp=>by obtain⟨a,b,_⟩:=X;obtain⟨N,h⟩:=h a b hb.1 hb.2.1;exact⟨N,Eq.trans (by kernel_rfl) (h N (Nat.le_refl N))⟩
def ST:ax Tryd.prog 27 uW:=SR dg.ok
def Cg:bf:=⟨[⟨.sl 5 (.int .u8),false,false⟩],[⟨.bool,false,false⟩]⟩
def e6:aO:=⟨Cg,none,λX=>((),((jM.g X.1),()))⟩
def Ch:Gm:=aT (aT (aT (aT (aT (addZ (aT (aT bq 18 uP) 22 tB) 23 uh) 24 uu) 25 pW) 26 uT) 27 uW) 28 mT
def SU:ao Tryd.prog Ch:=((((((((ao.nil).add R5 (by kernel_rfl)).add Gx (by kernel_rfl)).addZ L7).add NN (by kernel_rfl)).add BL (by kernel_rfl)).add Sf (by kernel_rfl)).add ST (by kernel_rfl)).add uG (by kernel_rfl)
def SW:aa:=⟨[],[],[],[],[]⟩
def SX(a:List Int):St:=bG Cg.ps (a,())
def SY(a:Bool):St:=al [(2,xB a)] [] []
def SZ:aa:=⟨[2],[],[],[],[]⟩
def S0:Nat->Option aa:=au [(1000000,SZ)]
abbrev S1{J:Type}(N n:Nat)(U:St)(l:aa)(K:KT J):Option J:=ak Ch bu S0 N (ba 99 (bv Tryd.f6) n) .n U (ap (some l) K)
def S2 N a (K:KT J):S1 N 1 (SX a) SW K =
 jM.Z0 N a (λb=>K .ret (SY b)):=by kernel_rfl
def S3(h:jM.Spec):ax Tryd.prog 6 e6 :=
 bP Tryd.func6 bw SU (λN X K=>S2 N X.1 K) (by kernel_rfl) λX hb hp=>by obtain⟨a,_⟩:=X;obtain⟨N,h⟩:=h a hb.1;exact⟨N,Eq.trans (by kernel_rfl) (h N (Nat.le_refl N))⟩
def S4:ax Tryd.prog 6 e6:=S3 jM.ok
end Go.Fw
