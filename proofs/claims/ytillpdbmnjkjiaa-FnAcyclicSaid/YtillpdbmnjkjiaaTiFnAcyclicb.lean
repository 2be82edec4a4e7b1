/- The ties: the program's text comes to the plain functions. Nothing is assumed. -/
import Derived.Test.YtillpdbmnjkjiaaPuFnAcyclicb
import Derived.Test.YtillpdbmnjkjiaaTiFnAcyclica
noncomputable section
set_option linter.unusedVariables false
set_option linter.unusedSimpArgs false
set_option maxRecDepth 100000
namespace Go.Fw
variable {ρ : Type}
open Go.Proofs
def f84k : zd9 := ⟨113, [(5, .int .u8)], .pair (.int .i64) (.int .i64)⟩
def zvi : List PT := [⟨.int .i64, false, false⟩, ⟨.int .i64, false, false⟩]
def f84rs : List PT := [⟨.sl 3 (.int .i64), false, false⟩]
def e84 : z4w := ⟨f84k, zvi, true, f84rs, (some fun X => z11.P X.1.1.1 X.1.2 X.2.1 X.2.2.1), fun X => ((z11.g X.1.1.1 X.1.2 X.2.1 X.2.2.1).1, ((), ((z11.g X.1.1.1 X.1.2 X.2.1 X.2.2.1).2, ())))⟩
def f84G : Gm := addV z27 69 e69
theorem f84GOk : GOk Try.prog f84G := (GOk.nil).addV zso (by kernel_rfl)
def zb0 : z0d := ⟨[], [], [], [], []⟩
def f84s0 (u0 : Value) (b0 : List Int) (r0 : Int × Int) (a b : Int) : St := z37 f84k zvi [u0] (((b0, ()), r0), (a, (b, ())))
def f84s1 (u0 : Value) (a b : Int) (c : List Int) (d e : Int) : St := z1i [(0, xb 100000), (1, xi a), (2, xi b), (100000, xb 100000)] [(100000, (113, [.bor u0 5 (.int .u8) c, yi d, yi e]))] []
def f84l1 : z0d := ⟨[0, 1, 2, 100000], [100000], [], [], []⟩
def f84s2 (u0 : Value) (a : LI) (b c : Int) (d : List Int) (e f : Int) : St := z1i [(0, xb 100000), (1, xi b), (2, xi c), (7, xo 1000448), (100000, xb 100000)] [(100000, (113, [.bor u0 5 (.int .u8) d, yi e, yi f]))] [(1000448, (⟨3, .int .i64, a, true, false⟩ : Row))]
def f84l2 : z0d := ⟨[0, 1, 2, 7, 100000], [100000], [], [], [(⟨false, 7, 0⟩, 1000448)]⟩
def f84s3 (u0 : Value) (a : LI) (b c : Int) (d : List Int) (e f : Int) : St := z1i [(0, xb 100000), (1, xi b), (7, xo 1000448), (8, xi c), (100000, xb 100000)] [(100000, (113, [.bor u0 5 (.int .u8) d, yi e, yi f]))] [(1000448, (⟨3, .int .i64, a, true, false⟩ : Row))]
def f84l3 : z0d := ⟨[0, 1, 7, 8, 100000], [100000], [], [], [(⟨false, 7, 0⟩, 1000448)]⟩
def zsb (u0 : Value) (a : LI) (b c d : Int) (e : List Int) (f g : Int) : St := z1i [(0, xb 100000), (1, xi b), (7, xo 1000448), (8, xi c), (9, xi d), (100000, xb 100000)] [(100000, (113, [.bor u0 5 (.int .u8) e, yi f, yi g]))] [(1000448, (⟨3, .int .i64, a, true, false⟩ : Row))]
def zvj : z0d := ⟨[0, 1, 7, 8, 9, 100000], [100000], [], [], [(⟨false, 7, 0⟩, 1000448)]⟩
def znw (u0 : Value) (a : LI) (b : List Int) (c d : Int) : St := z1i [(7, xo 1000448), (100000, xb 100000)] [(100000, (113, [.bor u0 5 (.int .u8) b, yi c, yi d]))] [(1000448, (⟨3, .int .i64, a, true, false⟩ : Row))]
def zgy : z0d := ⟨[7, 100000], [100000], [], [], [(⟨false, 7, 0⟩, 1000448)]⟩
def zvh (u0 : Value) (a : LI) (b : List Int) (c d : Int) : St := z1i [(6, xo 1000384), (100000, xb 100000)] [(100000, (113, [.bor u0 5 (.int .u8) b, yi c, yi d]))] [(1000384, (⟨3, .int .i64, a, true, false⟩ : Row))]
def f84l6 : z0d := ⟨[6, 100000], [100000], [], [], [(⟨false, 6, 0⟩, 1000384)]⟩
def f84B : Nat → Option z0d := z1g [(0, zgy), (1000000, f84l6)]
abbrev zhv {ρ : Type} (N : Nat) (c : Code) (p : z0m) (σ : St) (K : KT ρ) : Option ρ := z1n f84G tab f84B N c p σ K
def zgz (n : Nat) : Code := z30 99 (z2a Try.f84) n
theorem f84t1 N u0 b0 r0 a b (K : KT ρ) : zhv N (zgz 2) .n (f84s0 u0 b0 r0 a b) (z01 (some f84l1) K) =
 z11.Z1 N b0 r0 a b (fun a b c d e => K .nrm (f84s1 u0 a b c d e)) := by kernel_rfl
theorem f84t3 N u0 a b c d e (K : KT ρ) : zhv N (zgz 5) .n (f84s1 u0 a b c d e) (z01 (some f84l2) K) =
 z11.Z3 N a b c d e (fun f a b c d e => K .nrm (f84s2 u0 f a b c d e)) := by kernel_rfl
theorem f84t5 N u0 a b f c d e (K : KT ρ) : zhv N (zgz 11) .n (f84s2 u0 a b f c d e) (z01 (some f84l3) K) =
 z11.Z5 N a b f c d e (fun a b g c d e => K .nrm (f84s3 u0 a b g c d e)) := by kernel_rfl
theorem f84t8 N u0 a b c d e f (K : KT ρ) : zhv N (zgz 39) .n (f84s3 u0 a b c d e f) (z01 (some zvj) K) =
 z11.Z8 N a b c d e f (fun a b c g d e f => K .nrm (zsb u0 a b c g d e f)) := by kernel_rfl
theorem f84t11 N u0 a e f g b c d (K : KT ρ) : zhv N (zgz 151) .n (zsb u0 a e f g b c d) (z01 (some zvj) K) =
 z11.Z11 N a e f g b c d (fun a e f g b c d => K .nrm (zsb u0 a e f g b c d)) (fun a b c d => K (.exit 0) (znw u0 a b c d)) := by kernel_rfl
def f84p10 : z0m := .mk none (some zvj) .n .n
abbrev f84w10 {ρ : Type} (N M : Nat) (σ : St) (K : KT ρ) : Option ρ := z2h (fun σ K => zhv N (zgz 151) .n σ K) zvj M σ K
theorem zvg {ρ : Type} (N : Nat) (u0 : Value) (K : KT ρ) : ∀ (M : Nat) (a : LI) (e f g : Int) (b : List Int) (c d : Int), f84w10 N M (zsb u0 a e f g b c d) K =
 z11.Z10L N (fun a b c d => K (.exit 0) (znw u0 a b c d)) M a e f g b c d
 | 0, _, _, _, _, _, _, _ => rfl
 | M + 1, a, e, f, g, b, c, d => z0w (fun k => z11.Z11 N a e f g b c d k (fun a b c d => K (.exit 0) (znw u0 a b c d))) (f84t11 N u0 (K := z15 (fun σ => f84w10 N M σ K) K) ..) (fx7 fun a e f g b c d => zvg N u0 K M a e f g b c d) (by kernel_rfl)
theorem f84t10 N u0 a e f g b c d (K : KT ρ) : zhv N (zgz 87) f84p10 (zsb u0 a e f g b c d) (z01 (some zgy) K) =
  z11.Z10 N a e f g b c d (fun a b c d => K (.exit 0) (znw u0 a b c d)) :=
 z18 (by kernel_rfl) (zvg N u0 (z01 (some zgy) K) N a e f g b c d) (by kernel_rfl)
def f84p9 : z0m := .mk (some zgy) none f84p10 .n
theorem f84t9 N u0 a e f g b c d (K : KT ρ) : zhv N (zgz 55) f84p9 (zsb u0 a e f g b c d) (z01 (some zgy) K) =
  z11.Z9 N a e f g b c d (fun a b c d => K .nrm (znw u0 a b c d)) :=
 z0l (by kernel_rfl) (f84t10 N u0 (K := z1c 0 (z01 (some zgy) K)) ..) (by kernel_rfl)
def f84p7 : z0m := .mk (some zvj) none .n f84p9
theorem f84t7 N u0 a e f b c d (K : KT ρ) : zhv N (zgz 23) f84p7 (f84s3 u0 a e f b c d) (z01 (some zgy) K) =
  z11.Z7 N a e f b c d (fun a b c d => K .nrm (znw u0 a b c d)) :=
 z06 (fun k => z11.Z8 N a e f b c d k) (by kernel_rfl) (f84t8 N u0 (K := z15 (fun σ => zhv N (zgz 55) f84p9 σ (z01 (some zgy) K)) (z01 (some zgy) K)) ..) (fx7 fun a e f g b c d => f84t9 N u0 a e f g b c d K) (by kernel_rfl)
theorem f84t12 N u0 d a b c (K : KT ρ) : zhv N (zgz 31) .n (znw u0 d a b c) (z01 (some zb0) K) =
 z11.Z12 N d a b c (fun e a b c => K .ret (zvh u0 e a b c)) := by kernel_rfl
def f84p6 : z0m := .mk (some zgy) none f84p7 .n
theorem f84t6 N u0 d e f a b c (K : KT ρ) : zhv N (zgz 15) f84p6 (f84s3 u0 d e f a b c) (z01 (some zb0) K) =
  z11.Z6 N d e f a b c (fun g a b c => K .ret (zvh u0 g a b c)) :=
 z06 (fun k => z11.Z7 N d e f a b c k) (by kernel_rfl) (f84t7 N u0 (K := z15 (fun σ => zhv N (zgz 31) .n σ (z01 (some zb0) K)) (z01 (some zb0) K)) ..) (fx4 fun d a b c => f84t12 N u0 d a b c K) (by kernel_rfl)
def f84p4 : z0m := .mk (some f84l3) none .n f84p6
theorem f84t4 N u0 d e f a b c (K : KT ρ) : zhv N (zgz 7) f84p4 (f84s2 u0 d e f a b c) (z01 (some zb0) K) =
  z11.Z4 N d e f a b c (fun g a b c => K .ret (zvh u0 g a b c)) :=
 z06 (fun k => z11.Z5 N d e f a b c k) (by kernel_rfl) (f84t5 N u0 (K := z15 (fun σ => zhv N (zgz 15) f84p6 σ (z01 (some zb0) K)) (z01 (some zb0) K)) ..) (fx6 fun d e h a b c => f84t6 N u0 d e h a b c K) (by kernel_rfl)
def f84p2 : z0m := .mk (some f84l2) none .n f84p4
theorem f84t2 N u0 d e a b c (K : KT ρ) : zhv N (zgz 3) f84p2 (f84s1 u0 d e a b c) (z01 (some zb0) K) =
  z11.Z2 N d e a b c (fun f a b c => K .ret (zvh u0 f a b c)) :=
 z06 (fun k => z11.Z3 N d e a b c k) (by kernel_rfl) (f84t3 N u0 (K := z15 (fun σ => zhv N (zgz 7) f84p4 σ (z01 (some zb0) K)) (z01 (some zb0) K)) ..) (fx6 fun g d e a b c => f84t4 N u0 g d e a b c K) (by kernel_rfl)
def f84p0 : z0m := .mk (some f84l1) none .n f84p2
theorem f84t0 N u0 b0 r0 a b (K : KT ρ) : zhv N (zgz 1) f84p0 (f84s0 u0 b0 r0 a b) (z01 (some zb0) K) =
  z11.Z0 N b0 r0 a b (fun f c d e => K .ret (zvh u0 f c d e)) :=
 z06 (fun k => z11.Z1 N b0 r0 a b k) (by kernel_rfl) (f84t1 N u0 (K := z15 (fun σ => zhv N (zgz 3) f84p2 σ (z01 (some zb0) K)) (z01 (some zb0) K)) ..) (fx5 fun a b c d e => f84t2 N u0 a b c d e K) (by kernel_rfl)
theorem f84m (N : Nat) (u0 : Value) (b0 : List Int) (r0 : Int × Int) (a b : Int) : zhv N (zgz 1) f84p0 (f84s0 u0 b0 r0 a b) (z01 (some zb0) (z6t tab f84k zvi true f84rs Try.f84.results.toList)) = z11.Z0 N b0 r0 a b (fun c f d e => some ([u0], ((d, e), ((), (c, ()))))) :=
 (f84t0 N u0 b0 r0 a b (z6t tab f84k zvi true f84rs Try.f84.results.toList)).trans (by kernel_rfl)
theorem f84ok (h : z11.Spec) : z2c Try.prog 84 e84 :=
 z2g (k := f84k) (ps := zvi) (rs := f84rs) (back := true) (c := (zgz 1)) (pl := f84p0) (je := (some zb0)) (B := f84B) Try.func84 (by kernel_rfl) (by kernel_rfl) (by kernel_rfl) z3b f84GOk (by kernel_rfl) (by kernel_rfl) (by kernel_rfl) fun lit X hl hb1 hb2 hp => by
  obtain ⟨⟨⟨b0, _⟩, r0⟩, a, b, _⟩ := X
  match lit, hl with
  | [u0], _ =>
   obtain ⟨N, h⟩ := h [u0] b0 r0 a b hb1.1 hp
   exact ⟨N, (f84m N u0 b0 r0 a b).trans (h N (Nat.le_refl N))⟩
theorem e84ok : z2c Try.prog 84 e84 := f84ok z11.ok
end Go.Fw
namespace Go.Fw
variable {ρ : Type}
open Go.Proofs
def zm2 : Sig := ⟨[⟨.sl 5 (.int .u8), false, false⟩], [⟨.pair (.int .i64) (.pair (.int .i64) (.sl 3 (.int .i64))), true, false⟩, ⟨.sl 3 (.int .i64), false, false⟩]⟩
def e39 : z2y := ⟨zm2, none, fun X => ((), ((z25.g X.1).1, ((z25.g X.1).2, ())))⟩
def f39G : Gm := addV (addV (addN z27 65 e65) 67 e67) 84 e84
theorem f39GOk : GOk Try.prog f39G := (((GOk.nil).addN e65ok).addV e67ok (by kernel_rfl)).addV e84ok (by kernel_rfl)
def f39lE : z0d := ⟨[], [], [], [], []⟩
def f39s0 (a : List Int) : St := z2p zm2.ps (a, ())
def f39s1 (a b : LI) (c d : Int) : St := z1i [(2, xb 2), (3, xo 1000192)] [(2, (30, [yi c, yi d, .own 20000130]))] [(1000192, (⟨3, .int .i64, a, true, false⟩ : Row)), (20000130, (⟨3, .int .i64, b, true, false⟩ : Row))]
def f39l1 : z0d := ⟨[2, 3], [2], [], [], [(⟨false, 3, 0⟩, 1000192), (⟨true, 2, 2⟩, 20000130)]⟩
def f39B : Nat → Option z0d := z1g [(1000000, f39l1)]
abbrev f39i {ρ : Type} (N : Nat) (c : Code) (p : z0m) (σ : St) (K : KT ρ) : Option ρ := z1n f39G tab f39B N c p σ K
def f39c (n : Nat) : Code := z30 99 (z2a Try.f39) n
theorem f39t0 N a (K : KT ρ) : f39i N (f39c 1) .n (f39s0 a) (z01 (some f39lE) K) =
 z25.Z0 N a (fun b c d e => K .ret (f39s1 b c d e)) := by kernel_rfl
theorem f39m (N : Nat) (a : List Int) : f39i N (f39c 1) .n (f39s0 a) (z01 (some f39lE) (z47 tab zm2 Try.f39.results.toList)) = z25.Z0 N a (fun b c d e => some ((), ((d, (e, c)), (b, ())))) :=
 (f39t0 N a (z47 tab zm2 Try.f39.results.toList)).trans (by kernel_rfl)
theorem f39ok (h : z25.Spec) : z0t Try.prog 39 e39 :=
 z0p (sig := zm2) (c := (f39c 1)) (pl := .n) (je := (some f39lE)) (B := f39B) Try.func39 (by kernel_rfl) (by kernel_rfl) (by kernel_rfl) z3b f39GOk (by kernel_rfl) (by kernel_rfl) (by kernel_rfl) (by kernel_rfl) fun X hb hp => by
  obtain ⟨a, _⟩ := X
  obtain ⟨N, h⟩ := h a hb.1
  exact ⟨N, (f39m N a).trans (h N (Nat.le_refl N))⟩
theorem e39ok : z0t Try.prog 39 e39 := f39ok z25.ok
end Go.Fw
namespace Go.Fw
variable {ρ : Type}
open Go.Proofs
def zlv : Sig := ⟨[⟨.int .i64, false, false⟩, ⟨.int .i64, false, false⟩, ⟨.int .i64, false, false⟩], [⟨.bool, false, false⟩]⟩
def e70 : z2y := ⟨zlv, none, fun X => ((), ((z2i.g X.1 X.2.1 X.2.2.1), ()))⟩
def f70G : Gm := z27
theorem f70GOk : GOk Try.prog f70G := GOk.nil
def f70lE : z0d := ⟨[], [], [], [], []⟩
def f70s0 (a b c : Int) : St := z2p zlv.ps (a, (b, (c, ())))
def f70s1 (a : Bool) : St := z1i [(6, xB a)] [] []
def f70l1 : z0d := ⟨[6], [], [], [], []⟩
def f70B : Nat → Option z0d := z1g [(1000000, f70l1)]
abbrev f70i {ρ : Type} (N : Nat) (c : Code) (p : z0m) (σ : St) (K : KT ρ) : Option ρ := z1n f70G tab f70B N c p σ K
def f70c (n : Nat) : Code := z30 99 (z2a Try.f70) n
theorem f70t0 N a b c (K : KT ρ) : f70i N (f70c 1) .n (f70s0 a b c) (z01 (some f70lE) K) =
 z2i.Z0 N a b c (fun d => K .ret (f70s1 d)) := by kernel_rfl
theorem f70m (N : Nat) (a b c : Int) : f70i N (f70c 1) .n (f70s0 a b c) (z01 (some f70lE) (z47 tab zlv Try.f70.results.toList)) = z2i.Z0 N a b c (fun d => some ((), (d, ()))) :=
 (f70t0 N a b c (z47 tab zlv Try.f70.results.toList)).trans (by kernel_rfl)
theorem f70ok (h : z2i.Spec) : z0t Try.prog 70 e70 :=
 z0p (sig := zlv) (c := (f70c 1)) (pl := .n) (je := (some f70lE)) (B := f70B) Try.func70 (by kernel_rfl) (by kernel_rfl) (by kernel_rfl) z3b f70GOk (by kernel_rfl) (by kernel_rfl) (by kernel_rfl) (by kernel_rfl) fun X hb hp => by
  obtain ⟨a, b, d, _⟩ := X
  obtain ⟨N, h⟩ := h a b d
  exact ⟨N, (f70m N a b d).trans (h N (Nat.le_refl N))⟩
theorem e70ok : z0t Try.prog 70 e70 := f70ok z2i.ok
end Go.Fw
namespace Go.Fw
variable {ρ : Type}
open Go.Proofs
def zg8 : Sig := ⟨[⟨.int .i64, false, false⟩], [⟨.bool, false, false⟩]⟩
def e109 : z2y := ⟨zg8, none, fun X => ((), ((z1r.g X.1), ()))⟩
def f109G : Gm := z6a z27 70 e70
theorem f109GOk : GOk Try.prog f109G := (GOk.nil).add e70ok (by kernel_rfl)
def y0y : z0d := ⟨[], [], [], [], []⟩
def f109s0 (a : Int) : St := z2p zg8.ps (a, ())
def f109s1 (a : Bool) : St := z1i [(2, xB a)] [] []
def f109l1 : z0d := ⟨[2], [], [], [], []⟩
def f109B : Nat → Option z0d := z1g [(1000000, f109l1)]
abbrev f109i {ρ : Type} (N : Nat) (c : Code) (p : z0m) (σ : St) (K : KT ρ) : Option ρ := z1n f109G tab f109B N c p σ K
def f109c (n : Nat) : Code := z30 99 (z2a Try.f109) n
theorem f109t0 N a (K : KT ρ) : f109i N (f109c 1) .n (f109s0 a) (z01 (some y0y) K) =
 z1r.Z0 N a (fun b => K .ret (f109s1 b)) := by kernel_rfl
theorem f109m (N : Nat) (a : Int) : f109i N (f109c 1) .n (f109s0 a) (z01 (some y0y) (z47 tab zg8 Try.f109.results.toList)) = z1r.Z0 N a (fun b => some ((), (b, ()))) :=
 (f109t0 N a (z47 tab zg8 Try.f109.results.toList)).trans (by kernel_rfl)
theorem f109ok (h : z1r.Spec) : z0t Try.prog 109 e109 :=
 z0p (sig := zg8) (c := (f109c 1)) (pl := .n) (je := (some y0y)) (B := f109B) Try.func109 (by kernel_rfl) (by kernel_rfl) (by kernel_rfl) z3b f109GOk (by kernel_rfl) (by kernel_rfl) (by kernel_rfl) (by kernel_rfl) fun X hb hp => by
  obtain ⟨a, _⟩ := X
  obtain ⟨N, h⟩ := h a
  exact ⟨N, (f109m N a).trans (h N (Nat.le_refl N))⟩
theorem e109ok : z0t Try.prog 109 e109 := f109ok z1r.ok
end Go.Fw
namespace Go.Fw
variable {ρ : Type}
open Go.Proofs
def zcb : Sig := ⟨[⟨.sl 3 (.int .i64), false, false⟩, ⟨.fnc 109, false, false⟩], [⟨.int .i64, false, false⟩]⟩
def e128b : z2y := ⟨zcb, none, fun X => ((), ((z09.g X.1 X.2.1), ()))⟩
def f128bG : Gm := z6a z27 109 e109
theorem f128bGOk : GOk Try.prog f128bG := (GOk.nil).add e109ok (by kernel_rfl)
def z8d : z0d := ⟨[], [], [], [], []⟩
def zo3 (a : LI) (b : Unit) : St := z2p zcb.ps (a, (b, ()))
def zjl (a : LI) : St := z1i [(0, .c (.sn 3 tI a none)), (1, .c (.fn 109 []))] [] []
def zyq : z0d := ⟨[0, 1], [], [], [], []⟩
def zd1 (a : LI) (b d : Int) : St := z1i [(0, .c (.sn 3 tI a none)), (1, .c (.fn 109 [])), (7, xi b), (8, xi d)] [] []
def zfr : z0d := ⟨[0, 1, 7, 8], [], [], [], []⟩
def zb6  : St := z1i [] [] []
def z7i : z0d := ⟨[], [], [], [], []⟩
def z7h (a : Int) : St := z1i [(4, xi a)] [] []
def f128bl4 : z0d := ⟨[4], [], [], [], []⟩
def f128bB : Nat → Option z0d := z1g [(0, z7i), (1000000, f128bl4)]
abbrev z78 {ρ : Type} (N : Nat) (c : Code) (p : z0m) (σ : St) (K : KT ρ) : Option ρ := z1n f128bG tab f128bB N c p σ K
def z6w (n : Nat) : Code := z30 99 (z2a Try.f128) n
theorem f128bt1 N a b (K : KT ρ) : z78 N (z6w 2) .n (zo3 a b) (z01 (some zyq) K) =
 z09.Z1 N a b (fun a => K .nrm (zjl a)) := by kernel_rfl
theorem f128bt4 N a (K : KT ρ) : z78 N (z6w 9) .n (zjl a) (z01 (some zfr) K) =
 z09.Z4 N a (fun a b c => K .nrm (zd1 a b c)) := by kernel_rfl
theorem f128bt7 N a b c (K : KT ρ) : z78 N (z6w 37) .n (zd1 a b c) (z01 (some zfr) K) =
 z09.Z7 N a b c (fun a b c => K .nrm (zd1 a b c)) (K (.exit 0) zb6) (fun d => K .ret (z7h d)) := by kernel_rfl
def zyo : z0m := .mk none (some zfr) .n .n
abbrev zyn {ρ : Type} (N M : Nat) (σ : St) (K : KT ρ) : Option ρ := z2h (fun σ K => z78 N (z6w 37) .n σ K) zfr M σ K
theorem zqa {ρ : Type} (N : Nat) (K : KT ρ) : ∀ (M : Nat) (a : LI) (b c : Int), zyn N M (zd1 a b c) K =
 z09.Z6L N (K (.exit 0) zb6) (fun d => K .ret (z7h d)) M a b c
 | 0, _, _, _ => rfl
 | M + 1, a, b, c => z0w (fun k => z09.Z7 N a b c k (K (.exit 0) zb6) (fun d => K .ret (z7h d))) (f128bt7 N (K := z15 (fun σ => zyn N M σ K) K) ..) (fx3 fun a b c => zqa N K M a b c) (by kernel_rfl)
theorem f128bt6 N a b c (K : KT ρ) : z78 N (z6w 21) zyo (zd1 a b c) (z01 (some z7i) K) =
  z09.Z6 N a b c (K (.exit 0) zb6) (fun d => K .ret (z7h d)) :=
 z18 (by kernel_rfl) (zqa N (z01 (some z7i) K) N a b c) (by kernel_rfl)
def zo4 : z0m := .mk (some z7i) none zyo .n
theorem f128bt5 N a b c (K : KT ρ) : z78 N (z6w 13) zo4 (zd1 a b c) (z01 (some z7i) K) =
  z09.Z5 N a b c (K .nrm zb6) (fun d => K .ret (z7h d)) :=
 z0l (by kernel_rfl) (f128bt6 N (K := z1c 0 (z01 (some z7i) K)) ..) (by kernel_rfl)
def zyp : z0m := .mk (some zfr) none .n zo4
theorem f128bt3 N a (K : KT ρ) : z78 N (z6w 5) zyp (zjl a) (z01 (some z7i) K) =
  z09.Z3 N a (K .nrm zb6) (fun b => K .ret (z7h b)) :=
 z06 (fun k => z09.Z4 N a k) (by kernel_rfl) (f128bt4 N (K := z15 (fun σ => z78 N (z6w 13) zo4 σ (z01 (some z7i) K)) (z01 (some z7i) K)) ..) (fx3 fun a c d => f128bt5 N a c d K) (by kernel_rfl)
theorem f128bt8 N  (K : KT ρ) : z78 N (z6w 7) .n zb6 (z01 (some z8d) K) =
 z09.Z8 N (fun a => K .ret (z7h a)) := by kernel_rfl
def zo5 : z0m := .mk (some z7i) none zyp .n
theorem f128bt2 N a (K : KT ρ) : z78 N (z6w 3) zo5 (zjl a) (z01 (some z8d) K) =
  z09.Z2 N a (fun b => K .ret (z7h b)) :=
 z06 (fun k => z09.Z3 N a k (fun b => K .ret (z7h b))) (by kernel_rfl) (f128bt3 N (K := z15 (fun σ => z78 N (z6w 7) .n σ (z01 (some z8d) K)) (z01 (some z8d) K)) ..) (f128bt8 N K) (by kernel_rfl)
def zo6 : z0m := .mk (some zyq) none .n zo5
theorem f128bt0 N a b (K : KT ρ) : z78 N (z6w 1) zo6 (zo3 a b) (z01 (some z8d) K) =
  z09.Z0 N a b (fun c => K .ret (z7h c)) :=
 z06 (fun k => z09.Z1 N a b k) (by kernel_rfl) (f128bt1 N (K := z15 (fun σ => z78 N (z6w 3) zo5 σ (z01 (some z8d) K)) (z01 (some z8d) K)) ..) (funext fun a => f128bt2 N a K) (by kernel_rfl)
theorem f128bm (N : Nat) (a : LI) (b : Unit) : z78 N (z6w 1) zo6 (zo3 a b) (z01 (some z8d) (z47 tab zcb Try.f128.results.toList)) = z09.Z0 N a b (fun c => some ((), (c, ()))) :=
 (f128bt0 N a b (z47 tab zcb Try.f128.results.toList)).trans (by kernel_rfl)
theorem f128bok (h : z09.Spec) : z0t Try.prog 128 e128b :=
 z0p (sig := zcb) (c := (z6w 1)) (pl := zo6) (je := (some z8d)) (B := f128bB) Try.func128 (by kernel_rfl) (by kernel_rfl) (by kernel_rfl) z3b f128bGOk (by kernel_rfl) (by kernel_rfl) (by kernel_rfl) (by kernel_rfl) fun X hb hp => by
  obtain ⟨a, b, _⟩ := X
  obtain ⟨N, h⟩ := h a b hb.1
  exact ⟨N, (f128bm N a b).trans (h N (Nat.le_refl N))⟩
theorem e128bok : z0t Try.prog 128 e128b := f128bok z09.ok
end Go.Fw
namespace Go.Fw
variable {ρ : Type}
open Go.Proofs
def zcg : Sig := ⟨[⟨.sl 3 (.int .i64), false, false⟩, ⟨.fnc 109, false, false⟩], [⟨.bool, false, false⟩]⟩
def e108b : z2y := ⟨zcg, none, fun X => ((), ((z0r.g X.1 X.2.1), ()))⟩
def f108bG : Gm := z6a z27 128 e128b
theorem f108bGOk : GOk Try.prog f108bG := (GOk.nil).add e128bok (by kernel_rfl)
def zor : z0d := ⟨[], [], [], [], []⟩
def y0z (a : LI) (b : Unit) : St := z2p zcg.ps (a, (b, ()))
def f108bs1 (a : Bool) : St := z1i [(4, xB a)] [] []
def f108bl1 : z0d := ⟨[4], [], [], [], []⟩
def f108bB : Nat → Option z0d := z1g [(1000000, f108bl1)]
abbrev f108bi {ρ : Type} (N : Nat) (c : Code) (p : z0m) (σ : St) (K : KT ρ) : Option ρ := z1n f108bG tab f108bB N c p σ K
def y10 (n : Nat) : Code := z30 99 (z2a Try.f108) n
theorem f108bt0 N a b (K : KT ρ) : f108bi N (y10 1) .n (y0z a b) (z01 (some zor) K) =
 z0r.Z0 N a b (fun c => K .ret (f108bs1 c)) := by kernel_rfl
theorem f108bm (N : Nat) (a : LI) (b : Unit) : f108bi N (y10 1) .n (y0z a b) (z01 (some zor) (z47 tab zcg Try.f108.results.toList)) = z0r.Z0 N a b (fun c => some ((), (c, ()))) :=
 (f108bt0 N a b (z47 tab zcg Try.f108.results.toList)).trans (by kernel_rfl)
theorem f108bok (h : z0r.Spec) : z0t Try.prog 108 e108b :=
 z0p (sig := zcg) (c := (y10 1)) (pl := .n) (je := (some zor)) (B := f108bB) Try.func108 (by kernel_rfl) (by kernel_rfl) (by kernel_rfl) z3b f108bGOk (by kernel_rfl) (by kernel_rfl) (by kernel_rfl) (by kernel_rfl) fun X hb hp => by
  obtain ⟨a, b, _⟩ := X
  obtain ⟨N, h⟩ := h a b hb.1
  exact ⟨N, (f108bm N a b).trans (h N (Nat.le_refl N))⟩
theorem e108bok : z0t Try.prog 108 e108b := f108bok z0r.ok
end Go.Fw
namespace Go.Fw
variable {ρ : Type}
open Go.Proofs
def zlq : Sig := ⟨[⟨.pair (.int .i64) (.pair (.int .i64) (.sl 3 (.int .i64))), true, false⟩], [⟨.bool, false, false⟩]⟩
def e75 : z2y := ⟨zlq, none, fun X => ((), ((z3g.g X.1), ()))⟩
def f75G : Gm := z6a (z6a z27 70 e70) 108 e108b
theorem f75GOk : GOk Try.prog f75G := ((GOk.nil).add e70ok (by kernel_rfl)).add e108bok (by kernel_rfl)
def f75lE : z0d := ⟨[], [], [], [], []⟩
def f75s0 (a : MT) : St := z2p zlq.ps (a, ())
def f75s1 (a : Bool) : St := z1i [(2, xB a)] [] []
def f75l1 : z0d := ⟨[2], [], [], [], []⟩
def f75B : Nat → Option z0d := z1g [(1000000, f75l1)]
abbrev f75i {ρ : Type} (N : Nat) (c : Code) (p : z0m) (σ : St) (K : KT ρ) : Option ρ := z1n f75G tab f75B N c p σ K
def f75c (n : Nat) : Code := z30 99 (z2a Try.f75) n
theorem f75t0 N a (K : KT ρ) : f75i N (f75c 1) .n (f75s0 a) (z01 (some f75lE) K) =
 z3g.Z0 N a (fun b => K .ret (f75s1 b)) := by kernel_rfl
theorem f75m (N : Nat) (a : MT) : f75i N (f75c 1) .n (f75s0 a) (z01 (some f75lE) (z47 tab zlq Try.f75.results.toList)) = z3g.Z0 N a (fun b => some ((), (b, ()))) :=
 (f75t0 N a (z47 tab zlq Try.f75.results.toList)).trans (by kernel_rfl)
theorem f75ok (h : z3g.Spec) : z0t Try.prog 75 e75 :=
 z0p (sig := zlq) (c := (f75c 1)) (pl := .n) (je := (some f75lE)) (B := f75B) Try.func75 (by kernel_rfl) (by kernel_rfl) (by kernel_rfl) z3b f75GOk (by kernel_rfl) (by kernel_rfl) (by kernel_rfl) (by kernel_rfl) fun X hb hp => by
  obtain ⟨a, _⟩ := X
  obtain ⟨N, h⟩ := h a hb.1
  exact ⟨N, (f75m N a).trans (h N (Nat.le_refl N))⟩
theorem e75ok : z0t Try.prog 75 e75 := f75ok z3g.ok
end Go.Fw
namespace Go.Fw
variable {ρ : Type}
open Go.Proofs
def zlj : Sig := ⟨[⟨.pair (.int .i64) (.pair (.int .i64) (.sl 3 (.int .i64))), true, false⟩, ⟨.int .i64, false, false⟩, ⟨.int .i64, false, false⟩], [⟨.int .i64, false, false⟩]⟩
def e83 : z2y := ⟨zlj, (some fun X => z0z.P X.1 X.2.1 X.2.2.1), fun X => ((), ((z0z.g X.1 X.2.1 X.2.2.1), ()))⟩
def f83G : Gm := z27
theorem f83GOk : GOk Try.prog f83G := GOk.nil
def f83lE : z0d := ⟨[], [], [], [], []⟩
def f83s0 (a : MT) (b c : Int) : St := z2p zlj.ps (a, (b, (c, ())))
def f83s1 (a : Int) : St := z1i [(6, xi a)] [] []
def f83l1 : z0d := ⟨[6], [], [], [], []⟩
def f83B : Nat → Option z0d := z1g [(1000000, f83l1)]
abbrev f83i {ρ : Type} (N : Nat) (c : Code) (p : z0m) (σ : St) (K : KT ρ) : Option ρ := z1n f83G tab f83B N c p σ K
def f83c (n : Nat) : Code := z30 99 (z2a Try.f83) n
theorem f83t0 N a b c (K : KT ρ) : f83i N (f83c 1) .n (f83s0 a b c) (z01 (some f83lE) K) =
 z0z.Z0 N a b c (fun d => K .ret (f83s1 d)) := by kernel_rfl
theorem f83m (N : Nat) (a : MT) (b c : Int) : f83i N (f83c 1) .n (f83s0 a b c) (z01 (some f83lE) (z47 tab zlj Try.f83.results.toList)) = z0z.Z0 N a b c (fun d => some ((), (d, ()))) :=
 (f83t0 N a b c (z47 tab zlj Try.f83.results.toList)).trans (by kernel_rfl)
theorem f83ok (h : z0z.Spec) : z0t Try.prog 83 e83 :=
 z0p (sig := zlj) (c := (f83c 1)) (pl := .n) (je := (some f83lE)) (B := f83B) Try.func83 (by kernel_rfl) (by kernel_rfl) (by kernel_rfl) z3b f83GOk (by kernel_rfl) (by kernel_rfl) (by kernel_rfl) (by kernel_rfl) fun X hb hp => by
  obtain ⟨a, b, d, _⟩ := X
  obtain ⟨N, h⟩ := h a b d hb.1 hp
  exact ⟨N, (f83m N a b d).trans (h N (Nat.le_refl N))⟩
theorem e83ok : z0t Try.prog 83 e83 := f83ok z0z.ok
end Go.Fw
namespace Go.Fw
variable {ρ : Type}
open Go.Proofs
def zg4 : Sig := ⟨[⟨.int .i64, false, false⟩, ⟨.int .i64, false, false⟩], [⟨.int .i64, false, false⟩]⟩
def e110 : z2y := ⟨zg4, (some fun X => z1v.P X.1 X.2.1), fun X => ((), ((z1v.g X.1 X.2.1), ()))⟩
def f110G : Gm := z27
theorem f110GOk : GOk Try.prog f110G := GOk.nil
def zcf : z0d := ⟨[], [], [], [], []⟩
def y0v (a b : Int) : St := z2p zg4.ps (a, (b, ()))
def zg5 (a b : Int) : St := z1i [(0, xi a), (1, xi b)] [] []
def zmk : z0d := ⟨[0, 1], [], [], [], []⟩
def zi9 (a : Int) : St := z1i [(0, xi a)] [] []
def zg6 : z0d := ⟨[0], [], [], [], []⟩
def y0u (a : Int) : St := z1i [(4, xi a)] [] []
def f110l3 : z0d := ⟨[4], [], [], [], []⟩
def f110B : Nat → Option z0d := z1g [(0, zg6), (1000000, f110l3)]
abbrev zg7 {ρ : Type} (N : Nat) (c : Code) (p : z0m) (σ : St) (K : KT ρ) : Option ρ := z1n f110G tab f110B N c p σ K
def zeb (n : Nat) : Code := z30 99 (z2a Try.f110) n
theorem f110t1 N a b (K : KT ρ) : zg7 N (zeb 2) .n (y0v a b) (z01 (some zmk) K) =
 z1v.Z1 N a b (fun a b => K .nrm (zg5 a b)) := by kernel_rfl
theorem f110t5 N a b (K : KT ρ) : zg7 N (zeb 17) .n (zg5 a b) (z01 (some zmk) K) =
 z1v.Z5 N a b (fun a b => K .nrm (zg5 a b)) (fun a => K (.exit 0) (zi9 a)) := by kernel_rfl
def f110p4 : z0m := .mk none (some zmk) .n .n
abbrev f110w4 {ρ : Type} (N M : Nat) (σ : St) (K : KT ρ) : Option ρ := z2h (fun σ K => zg7 N (zeb 17) .n σ K) zmk M σ K
theorem y0t {ρ : Type} (N : Nat) (K : KT ρ) : ∀ (M : Nat) (a b : Int), f110w4 N M (zg5 a b) K =
 z1v.Z4L N (fun a => K (.exit 0) (zi9 a)) M a b
 | 0, _, _ => rfl
 | M + 1, a, b => z0w (fun k => z1v.Z5 N a b k (fun a => K (.exit 0) (zi9 a))) (f110t5 N (K := z15 (fun σ => f110w4 N M σ K) K) ..) (fx2 fun a b => y0t N K M a b) (by kernel_rfl)
theorem f110t4 N a b (K : KT ρ) : zg7 N (zeb 9) f110p4 (zg5 a b) (z01 (some zg6) K) =
  z1v.Z4 N a b (fun a => K (.exit 0) (zi9 a)) :=
 z18 (by kernel_rfl) (y0t N (z01 (some zg6) K) N a b) (by kernel_rfl)
def f110p3 : z0m := .mk (some zg6) none f110p4 .n
theorem f110t3 N a b (K : KT ρ) : zg7 N (zeb 5) f110p3 (zg5 a b) (z01 (some zg6) K) =
  z1v.Z3 N a b (fun a => K .nrm (zi9 a)) :=
 z0l (by kernel_rfl) (f110t4 N (K := z1c 0 (z01 (some zg6) K)) ..) (by kernel_rfl)
theorem f110t6 N a (K : KT ρ) : zg7 N (zeb 7) .n (zi9 a) (z01 (some zcf) K) =
 z1v.Z6 N a (fun b => K .ret (y0u b)) := by kernel_rfl
def y0w : z0m := .mk (some zg6) none f110p3 .n
theorem f110t2 N a b (K : KT ρ) : zg7 N (zeb 3) y0w (zg5 a b) (z01 (some zcf) K) =
  z1v.Z2 N a b (fun c => K .ret (y0u c)) :=
 z06 (fun k => z1v.Z3 N a b k) (by kernel_rfl) (f110t3 N (K := z15 (fun σ => zg7 N (zeb 7) .n σ (z01 (some zcf) K)) (z01 (some zcf) K)) ..) (funext fun a => f110t6 N a K) (by kernel_rfl)
def y0x : z0m := .mk (some zmk) none .n y0w
theorem f110t0 N a b (K : KT ρ) : zg7 N (zeb 1) y0x (y0v a b) (z01 (some zcf) K) =
  z1v.Z0 N a b (fun c => K .ret (y0u c)) :=
 z06 (fun k => z1v.Z1 N a b k) (by kernel_rfl) (f110t1 N (K := z15 (fun σ => zg7 N (zeb 3) y0w σ (z01 (some zcf) K)) (z01 (some zcf) K)) ..) (fx2 fun a b => f110t2 N a b K) (by kernel_rfl)
theorem f110m (N : Nat) (a b : Int) : zg7 N (zeb 1) y0x (y0v a b) (z01 (some zcf) (z47 tab zg4 Try.f110.results.toList)) = z1v.Z0 N a b (fun c => some ((), (c, ()))) :=
 (f110t0 N a b (z47 tab zg4 Try.f110.results.toList)).trans (by kernel_rfl)
theorem f110ok (h : z1v.Spec) : z0t Try.prog 110 e110 :=
 z0p (sig := zg4) (c := (zeb 1)) (pl := y0x) (je := (some zcf)) (B := f110B) Try.func110 (by kernel_rfl) (by kernel_rfl) (by kernel_rfl) z3b f110GOk (by kernel_rfl) (by kernel_rfl) (by kernel_rfl) (by kernel_rfl) fun X hb hp => by
  obtain ⟨a, b, _⟩ := X
  obtain ⟨N, h⟩ := h a b hp
  exact ⟨N, (f110m N a b).trans (h N (Nat.le_refl N))⟩
theorem e110ok : z0t Try.prog 110 e110 := f110ok z1v.ok
end Go.Fw
namespace Go.Fw
variable {ρ : Type}
open Go.Proofs
def zll : Sig := ⟨[⟨.pair (.int .i64) (.pair (.int .i64) (.sl 3 (.int .i64))), true, false⟩], [⟨.sl 3 (.int .i64), false, true⟩]⟩
def e76 : z2y := ⟨zll, (some fun X => z02.P X.1), fun X => ((), ((z02.g X.1), ()))⟩
def f76G : Gm := z6a (z6a z27 83 e83) 110 e110
theorem f76GOk : GOk Try.prog f76G := ((GOk.nil).add e83ok (by kernel_rfl)).add e110ok (by kernel_rfl)
def zb1 : z0d := ⟨[], [], [], [], []⟩
def f76s0 (a : MT) : St := z2p zll.ps (a, ())
def f76s1 (a b : Int) (c : LI) : St := z1i [(1, xb 1)] [(1, (30, [yi a, yi b, .sn 3 tI c none]))] []
def f76l1 : z0d := ⟨[1], [1], [], [], []⟩
def f76s2 (a b : LI) (c d : Int) (e : LI) : St := z1i [(1, xb 1), (3, xo 1000192), (4, xo 1000256)] [(1, (30, [yi c, yi d, .sn 3 tI e none]))] [(1000192, (⟨3, .int .i64, a, true, false⟩ : Row)), (1000256, (⟨3, .int .i64, b, true, false⟩ : Row))]
def f76l2 : z0d := ⟨[1, 3, 4], [1], [], [], [(⟨false, 3, 0⟩, 1000192), (⟨false, 4, 0⟩, 1000256)]⟩
def f76s3 (a b c : LI) (d e : Int) (f : LI) : St := z1i [(1, xb 1), (3, xo 1000192), (4, xo 1000256), (5, xo 1000320)] [(1, (30, [yi d, yi e, .sn 3 tI f none]))] [(1000192, (⟨3, .int .i64, a, true, false⟩ : Row)), (1000256, (⟨3, .int .i64, b, true, false⟩ : Row)), (1000320, (⟨3, .int .i64, c, true, false⟩ : Row))]
def f76l3 : z0d := ⟨[1, 3, 4, 5], [1], [], [], [(⟨false, 3, 0⟩, 1000192), (⟨false, 4, 0⟩, 1000256), (⟨false, 5, 0⟩, 1000320)]⟩
def z42 (a b c : LI) (d e f g : Int) (h : LI) : St := z1i [(1, xb 1), (3, xo 1000192), (4, xo 1000256), (5, xo 1000320), (34, xi d), (35, xi e)] [(1, (30, [yi f, yi g, .sn 3 tI h none]))] [(1000192, (⟨3, .int .i64, a, true, false⟩ : Row)), (1000256, (⟨3, .int .i64, b, true, false⟩ : Row)), (1000320, (⟨3, .int .i64, c, true, false⟩ : Row))]
def z2r : z0d := ⟨[1, 3, 4, 5, 34, 35], [1], [], [], [(⟨false, 3, 0⟩, 1000192), (⟨false, 4, 0⟩, 1000256), (⟨false, 5, 0⟩, 1000320)]⟩
def f76s5 (a b c : LI) (d e : Int) (f : Bool) (g h : Int) (i : LI) : St := z1i [(1, xb 1), (3, xo 1000192), (4, xo 1000256), (5, xo 1000320), (34, xi d), (35, xi e), (36, xB f)] [(1, (30, [yi g, yi h, .sn 3 tI i none]))] [(1000192, (⟨3, .int .i64, a, true, false⟩ : Row)), (1000256, (⟨3, .int .i64, b, true, false⟩ : Row)), (1000320, (⟨3, .int .i64, c, true, false⟩ : Row))]
def f76l5 : z0d := ⟨[1, 3, 4, 5, 34, 35, 36], [1], [], [], [(⟨false, 3, 0⟩, 1000192), (⟨false, 4, 0⟩, 1000256), (⟨false, 5, 0⟩, 1000320)]⟩
def zjh (a b c : LI) (d e f g h : Int) (i : LI) : St := z1i [(1, xb 1), (3, xo 1000192), (4, xo 1000256), (5, xo 1000320), (6, xi d), (34, xi e), (35, xi f)] [(1, (30, [yi g, yi h, .sn 3 tI i none]))] [(1000192, (⟨3, .int .i64, a, true, false⟩ : Row)), (1000256, (⟨3, .int .i64, b, true, false⟩ : Row)), (1000320, (⟨3, .int .i64, c, true, false⟩ : Row))]
def zsc : z0d := ⟨[1, 3, 4, 5, 6, 34, 35], [1], [], [], [(⟨false, 3, 0⟩, 1000192), (⟨false, 4, 0⟩, 1000256), (⟨false, 5, 0⟩, 1000320)]⟩
def zc6 (a b c d : LI) (e f g h : Int) (i : LI) : St := z1i [(1, xb 1), (3, xo 1000192), (4, xo 1000256), (5, xo 1000320), (7, xo 1000448), (34, xi e), (35, xi f)] [(1, (30, [yi g, yi h, .sn 3 tI i none]))] [(1000192, (⟨3, .int .i64, a, true, false⟩ : Row)), (1000256, (⟨3, .int .i64, b, true, false⟩ : Row)), (1000320, (⟨3, .int .i64, c, true, false⟩ : Row)), (1000448, (⟨3, .int .i64, d, true, false⟩ : Row))]
def ze0 : z0d := ⟨[1, 3, 4, 5, 7, 34, 35], [1], [], [], [(⟨false, 3, 0⟩, 1000192), (⟨false, 4, 0⟩, 1000256), (⟨false, 5, 0⟩, 1000320), (⟨false, 7, 0⟩, 1000448)]⟩
def z62 (a b c d : LI) (e f g h i : Int) (j : LI) : St := z1i [(1, xb 1), (3, xo 1000192), (4, xo 1000256), (5, xo 1000320), (7, xo 1000448), (8, xi e), (34, xi f), (35, xi g)] [(1, (30, [yi h, yi i, .sn 3 tI j none]))] [(1000192, (⟨3, .int .i64, a, true, false⟩ : Row)), (1000256, (⟨3, .int .i64, b, true, false⟩ : Row)), (1000320, (⟨3, .int .i64, c, true, false⟩ : Row)), (1000448, (⟨3, .int .i64, d, true, false⟩ : Row))]
def z59 : z0d := ⟨[1, 3, 4, 5, 7, 8, 34, 35], [1], [], [], [(⟨false, 3, 0⟩, 1000192), (⟨false, 4, 0⟩, 1000256), (⟨false, 5, 0⟩, 1000320), (⟨false, 7, 0⟩, 1000448)]⟩
def f76s9 (a b c d : LI) (e f g h i j : Int) (l : LI) : St := z1i [(1, xb 1), (3, xo 1000192), (4, xo 1000256), (5, xo 1000320), (7, xo 1000448), (8, xi e), (9, xi f), (34, xi g), (35, xi h)] [(1, (30, [yi i, yi j, .sn 3 tI l none]))] [(1000192, (⟨3, .int .i64, a, true, false⟩ : Row)), (1000256, (⟨3, .int .i64, b, true, false⟩ : Row)), (1000320, (⟨3, .int .i64, c, true, false⟩ : Row)), (1000448, (⟨3, .int .i64, d, true, false⟩ : Row))]
def f76l9 : z0d := ⟨[1, 3, 4, 5, 7, 8, 9, 34, 35], [1], [], [], [(⟨false, 3, 0⟩, 1000192), (⟨false, 4, 0⟩, 1000256), (⟨false, 5, 0⟩, 1000320), (⟨false, 7, 0⟩, 1000448)]⟩
def z3p (a b c d : LI) (e f g h i j l m : Int) (o : LI) : St := z1i [(1, xb 1), (3, xo 1000192), (4, xo 1000256), (5, xo 1000320), (7, xo 1000448), (8, xi e), (9, xi f), (34, xi g), (35, xi h), (62, xi i), (63, xi j)] [(1, (30, [yi l, yi m, .sn 3 tI o none]))] [(1000192, (⟨3, .int .i64, a, true, false⟩ : Row)), (1000256, (⟨3, .int .i64, b, true, false⟩ : Row)), (1000320, (⟨3, .int .i64, c, true, false⟩ : Row)), (1000448, (⟨3, .int .i64, d, true, false⟩ : Row))]
def z3a : z0d := ⟨[1, 3, 4, 5, 7, 8, 9, 34, 35, 62, 63], [1], [], [], [(⟨false, 3, 0⟩, 1000192), (⟨false, 4, 0⟩, 1000256), (⟨false, 5, 0⟩, 1000320), (⟨false, 7, 0⟩, 1000448)]⟩
def zvt (a b c d : LI) (e f g h i j : Int) (l : Bool) (m o : Int) (p : LI) : St := z1i [(1, xb 1), (3, xo 1000192), (4, xo 1000256), (5, xo 1000320), (7, xo 1000448), (8, xi e), (9, xi f), (34, xi g), (35, xi h), (62, xi i), (63, xi j), (64, xB l)] [(1, (30, [yi m, yi o, .sn 3 tI p none]))] [(1000192, (⟨3, .int .i64, a, true, false⟩ : Row)), (1000256, (⟨3, .int .i64, b, true, false⟩ : Row)), (1000320, (⟨3, .int .i64, c, true, false⟩ : Row)), (1000448, (⟨3, .int .i64, d, true, false⟩ : Row))]
def f76l11 : z0d := ⟨[1, 3, 4, 5, 7, 8, 9, 34, 35, 62, 63, 64], [1], [], [], [(⟨false, 3, 0⟩, 1000192), (⟨false, 4, 0⟩, 1000256), (⟨false, 5, 0⟩, 1000320), (⟨false, 7, 0⟩, 1000448)]⟩
def zvs (a b c d : LI) (e f g h i j l m o : Int) (p : LI) : St := z1i [(1, xb 1), (3, xo 1000192), (4, xo 1000256), (5, xo 1000320), (7, xo 1000448), (8, xi e), (9, xi f), (10, xi g), (34, xi h), (35, xi i), (62, xi j), (63, xi l)] [(1, (30, [yi m, yi o, .sn 3 tI p none]))] [(1000192, (⟨3, .int .i64, a, true, false⟩ : Row)), (1000256, (⟨3, .int .i64, b, true, false⟩ : Row)), (1000320, (⟨3, .int .i64, c, true, false⟩ : Row)), (1000448, (⟨3, .int .i64, d, true, false⟩ : Row))]
def f76l12 : z0d := ⟨[1, 3, 4, 5, 7, 8, 9, 10, 34, 35, 62, 63], [1], [], [], [(⟨false, 3, 0⟩, 1000192), (⟨false, 4, 0⟩, 1000256), (⟨false, 5, 0⟩, 1000320), (⟨false, 7, 0⟩, 1000448)]⟩
def zlm (a b c d : LI) (e f g h i j l m o p q : Int) (r : LI) : St := z1i [(1, xb 1), (3, xo 1000192), (4, xo 1000256), (5, xo 1000320), (7, xo 1000448), (8, xi e), (9, xi f), (10, xi g), (11, xi h), (12, xi i), (34, xi j), (35, xi l), (62, xi m), (63, xi o)] [(1, (30, [yi p, yi q, .sn 3 tI r none]))] [(1000192, (⟨3, .int .i64, a, true, false⟩ : Row)), (1000256, (⟨3, .int .i64, b, true, false⟩ : Row)), (1000320, (⟨3, .int .i64, c, true, false⟩ : Row)), (1000448, (⟨3, .int .i64, d, true, false⟩ : Row))]
def zq6 : z0d := ⟨[1, 3, 4, 5, 7, 8, 9, 10, 11, 12, 34, 35, 62, 63], [1], [], [], [(⟨false, 3, 0⟩, 1000192), (⟨false, 4, 0⟩, 1000256), (⟨false, 5, 0⟩, 1000320), (⟨false, 7, 0⟩, 1000448)]⟩
def z8k (a b c d : LI) (e f g h i : Int) (j : LI) : St := z1i [(1, xb 1), (3, xo 1000192), (4, xo 1000256), (5, xo 1000320), (7, xo 1000448), (16, xi e), (34, xi f), (35, xi g)] [(1, (30, [yi h, yi i, .sn 3 tI j none]))] [(1000192, (⟨3, .int .i64, a, true, false⟩ : Row)), (1000256, (⟨3, .int .i64, b, true, false⟩ : Row)), (1000320, (⟨3, .int .i64, c, true, false⟩ : Row)), (1000448, (⟨3, .int .i64, d, true, false⟩ : Row))]
def z8l : z0d := ⟨[1, 3, 4, 5, 7, 16, 34, 35], [1], [], [], [(⟨false, 3, 0⟩, 1000192), (⟨false, 4, 0⟩, 1000256), (⟨false, 5, 0⟩, 1000320), (⟨false, 7, 0⟩, 1000448)]⟩
def zhy (a b c d : LI) (e f g h i j l : Int) (m : LI) : St := z1i [(1, xb 1), (3, xo 1000192), (4, xo 1000256), (5, xo 1000320), (7, xo 1000448), (16, xi e), (34, xi f), (35, xi g), (158, xo 1000448), (159, xi h), (160, xi i)] [(1, (30, [yi j, yi l, .sn 3 tI m none]))] [(1000192, (⟨3, .int .i64, a, true, false⟩ : Row)), (1000256, (⟨3, .int .i64, b, true, false⟩ : Row)), (1000320, (⟨3, .int .i64, c, true, false⟩ : Row)), (1000448, (⟨3, .int .i64, d, true, false⟩ : Row))]
def zlp : z0d := ⟨[1, 3, 4, 5, 7, 16, 34, 35, 158, 159, 160], [1], [], [], [(⟨false, 3, 0⟩, 1000192), (⟨false, 4, 0⟩, 1000256), (⟨false, 5, 0⟩, 1000320), (⟨false, 7, 0⟩, 1000448)]⟩
def zq5 (a b c d : LI) (e f g h i j : Int) (l : LI) : St := z1i [(1, xb 1), (3, xo 1000192), (4, xo 1000256), (5, xo 1000320), (7, xo 1000448), (16, xi e), (19, xi f), (34, xi g), (35, xi h)] [(1, (30, [yi i, yi j, .sn 3 tI l none]))] [(1000192, (⟨3, .int .i64, a, true, false⟩ : Row)), (1000256, (⟨3, .int .i64, b, true, false⟩ : Row)), (1000320, (⟨3, .int .i64, c, true, false⟩ : Row)), (1000448, (⟨3, .int .i64, d, true, false⟩ : Row))]
def f76l16 : z0d := ⟨[1, 3, 4, 5, 7, 16, 19, 34, 35], [1], [], [], [(⟨false, 3, 0⟩, 1000192), (⟨false, 4, 0⟩, 1000256), (⟨false, 5, 0⟩, 1000320), (⟨false, 7, 0⟩, 1000448)]⟩
def zhx (a b c d : LI) (e f g h i j l m : Int) (o : LI) : St := z1i [(1, xb 1), (3, xo 1000192), (4, xo 1000256), (5, xo 1000320), (7, xo 1000448), (16, xi e), (19, xi f), (34, xi g), (35, xi h), (178, xo 1000448), (179, xi i), (180, xi j)] [(1, (30, [yi l, yi m, .sn 3 tI o none]))] [(1000192, (⟨3, .int .i64, a, true, false⟩ : Row)), (1000256, (⟨3, .int .i64, b, true, false⟩ : Row)), (1000320, (⟨3, .int .i64, c, true, false⟩ : Row)), (1000448, (⟨3, .int .i64, d, true, false⟩ : Row))]
def zlo : z0d := ⟨[1, 3, 4, 5, 7, 16, 19, 34, 35, 178, 179, 180], [1], [], [], [(⟨false, 3, 0⟩, 1000192), (⟨false, 4, 0⟩, 1000256), (⟨false, 5, 0⟩, 1000320), (⟨false, 7, 0⟩, 1000448)]⟩
def zdn (a b c d : LI) (e f g h i : Int) (j : LI) : St := z1i [(1, xb 1), (3, xo 1000192), (4, xo 1000256), (5, xo 1000320), (7, xo 1000448), (19, xi e), (34, xi f), (35, xi g)] [(1, (30, [yi h, yi i, .sn 3 tI j none]))] [(1000192, (⟨3, .int .i64, a, true, false⟩ : Row)), (1000256, (⟨3, .int .i64, b, true, false⟩ : Row)), (1000320, (⟨3, .int .i64, c, true, false⟩ : Row)), (1000448, (⟨3, .int .i64, d, true, false⟩ : Row))]
def za3 : z0d := ⟨[1, 3, 4, 5, 7, 19, 34, 35], [1], [], [], [(⟨false, 3, 0⟩, 1000192), (⟨false, 4, 0⟩, 1000256), (⟨false, 5, 0⟩, 1000320), (⟨false, 7, 0⟩, 1000448)]⟩
def zhw (a b c d : LI) (e f g h i j l : Int) (m : LI) : St := z1i [(1, xb 1), (3, xo 1000192), (4, xo 1000256), (5, xo 1000320), (19, xi e), (34, xi f), (35, xi g), (205, xo 1013120), (206, xi h), (207, xi i)] [(1, (30, [yi j, yi l, .sn 3 tI m none]))] [(1000192, (⟨3, .int .i64, a, true, false⟩ : Row)), (1000256, (⟨3, .int .i64, b, true, false⟩ : Row)), (1000320, (⟨3, .int .i64, c, true, false⟩ : Row)), (1013120, (⟨3, .int .i64, d, true, false⟩ : Row))]
def zln : z0d := ⟨[1, 3, 4, 5, 19, 34, 35, 205, 206, 207], [1], [], [], [(⟨false, 3, 0⟩, 1000192), (⟨false, 4, 0⟩, 1000256), (⟨false, 5, 0⟩, 1000320), (⟨false, 205, 0⟩, 1013120)]⟩
def za1 (a : LI) : St := z1i [(5, xo 1000320)] [] [(1000320, (⟨3, .int .i64, a, true, false⟩ : Row))]
def za2 : z0d := ⟨[5], [], [], [], [(⟨false, 5, 0⟩, 1000320)]⟩
def z29 (a : LI) : St := z1i [(2, xo 1001000128)] [] [(1001000128, (⟨3, .int .i64, a, true, true⟩ : Row))]
def f76l21 : z0d := ⟨[2], [], [⟨⟨false, 2, 0⟩, 30000000, 3, .int .i64, true⟩], [], [(⟨false, 2, 0⟩, 1001000128)]⟩
def f76B : Nat → Option z0d := z1g [(5, z3a), (4, z59), (3, z59), (2, ze0), (6, z8l), (8, za3), (10, z2r), (1, z2r), (0, za2), (1000000, f76l21)]
abbrev z2q {ρ : Type} (N : Nat) (c : Code) (p : z0m) (σ : St) (K : KT ρ) : Option ρ := z1n f76G tab f76B N c p σ K
def z2o (n : Nat) : Code := z30 99 (z2a Try.f76) n
theorem f76t1 N a (K : KT ρ) : z2q N (z2o 2) .n (f76s0 a) (z01 (some f76l1) K) =
 z02.Z1 N a (fun b c d => K .nrm (f76s1 b c d)) := by kernel_rfl
theorem f76t3 N a b c (K : KT ρ) : z2q N (z2o 5) .n (f76s1 a b c) (z01 (some f76l2) K) =
 z02.Z3 N a b c (fun d e a b c => K .nrm (f76s2 d e a b c)) := by kernel_rfl
theorem f76t5 N a b c d e (K : KT ρ) : z2q N (z2o 11) .n (f76s2 a b c d e) (z01 (some f76l3) K) =
 z02.Z5 N a b c d e (fun a b f c d e => K .nrm (f76s3 a b f c d e)) := by kernel_rfl
theorem f76t8 N a b c d e f (K : KT ρ) : z2q N (z2o 39) .n (f76s3 a b c d e f) (z01 (some z2r) K) =
 z02.Z8 N a b c d e f (fun a b c g h d e f => K .nrm (z42 a b c g h d e f)) := by kernel_rfl
theorem f76t12 N a b c d e f g h (K : KT ρ) : z2q N (z2o 279) .n (z42 a b c d e f g h) (z01 (some f76l5) K) =
 z02.Z12 N a b c d e f g h (fun a b c d e i f g h => K .nrm (f76s5 a b c d e i f g h)) := by kernel_rfl
theorem f76t14 N b c a d e i f g h (K : KT ρ) : z2q N (z2o 663) .n (f76s5 b c a d e i f g h) (z01 (some z2r) K) =
 z02.Z14 N b c a d e i f g h (fun b c a d e f g h => K .nrm (z42 b c a d e f g h)) (fun a => K (.exit 0) (za1 a)) := by kernel_rfl
theorem f76t18 N a b c d e f g h (K : KT ρ) : z2q N (z2o 4503) .n (z42 a b c d e f g h) (z01 (some zsc) K) =
 z02.Z18 N a b c d e f g h (fun a b c i d e f g h => K .nrm (zjh a b c i d e f g h)) := by kernel_rfl
theorem f76t20 N a b c i d e f g h (K : KT ρ) : z2q N (z2o 10647) .n (zjh a b c i d e f g h) (z01 (some zsc) K) =
 z02.Z20 N a b c i d e f g h (fun a b c i d e f g h => K .nrm (zjh a b c i d e f g h)) (fun a b c d e f g h => K (.exit 1) (z42 a b c d e f g h)) := by kernel_rfl
theorem f76t22 N a b c d e f g h i (K : KT ρ) : z2q N (z2o 22935) .n (zjh a b c d e f g h i) (z01 (some zsc) K) =
 z02.Z22 N a b c d e f g h i (fun a b c d e f g h i => K .nrm (zjh a b c d e f g h i)) := by kernel_rfl
theorem f76t24 N a b c i d e f g h (K : KT ρ) : z2q N (z2o 47511) .n (zjh a b c i d e f g h) (z01 (some ze0) K) =
 z02.Z24 N a b c i d e f g h (fun a b c j d e f g h => K .nrm (zc6 a b c j d e f g h)) := by kernel_rfl
theorem f76t27 N a b c d e f g h i (K : KT ρ) : z2q N (z2o 162199) .n (zc6 a b c d e f g h i) (z01 (some z59) K) =
 z02.Z27 N a b c d e f g h i (fun a b c d j e f g h i => K .nrm (z62 a b c d j e f g h i)) := by kernel_rfl
theorem f76t31 N a b c d j e f g h i (K : KT ρ) : z2q N (z2o 1145239) .n (z62 a b c d j e f g h i) (z01 (some z59) K) =
 z02.Z31 N a b c d j e f g h i (fun a b c d j e f g h i => K .nrm (z62 a b c d j e f g h i)) (fun a b c d e f g h i => K (.exit 2) (zc6 a b c d e f g h i)) := by kernel_rfl
theorem f76t35 N a b c d e f g h i j (K : KT ρ) : z2q N (z2o 9009559) .n (z62 a b c d e f g h i j) (z01 (some f76l9) K) =
 z02.Z35 N a b c d e f g h i j (fun a b c d e l f g h i j => K .nrm (f76s9 a b c d e l f g h i j)) := by kernel_rfl
theorem f76t37 N a b c d e f g h i j l (K : KT ρ) : z2q N (z2o 21592471) .n (f76s9 a b c d e f g h i j l) (z01 (some z3a) K) =
 z02.Z37 N a b c d e f g h i j l (fun a b c d e f g h m o i j l => K .nrm (z3p a b c d e f g h m o i j l)) := by kernel_rfl
theorem f76t41 N a b c d e f g h i j l m o (K : KT ρ) : z2q N (z2o 147421591) .n (z3p a b c d e f g h i j l m o) (z01 (some f76l11) K) =
 z02.Z41 N a b c d e f g h i j l m o (fun a b c d e f g h i j p l m o => K .nrm (zvt a b c d e f g h i j p l m o)) := by kernel_rfl
theorem f76t43 N a b c d e l f g m o p h i j (K : KT ρ) : z2q N (z2o 348748183) .n (zvt a b c d e l f g m o p h i j) (z01 (some z3a) K) =
 z02.Z43 N a b c d e l f g m o p h i j (fun a b c d e l f g m o h i j => K .nrm (z3p a b c d e l f g m o h i j)) (fun a b c d e f g h i j => K (.exit 4) (z62 a b c d e f g h i j)) := by kernel_rfl
theorem f76t47 N a b c d e f g h i j l m o (K : KT ρ) : z2q N (z2o 2362014103) .n (z3p a b c d e f g h i j l m o) (z01 (some f76l12) K) =
 z02.Z47 N a b c d e f g h i j l m o (fun a b c d e f p g h i j l m o => K .nrm (zvs a b c d e f p g h i j l m o)) := by kernel_rfl
theorem f76t49 N a b c d e f g h i j l m o p (K : KT ρ) : z2q N (z2o 5583239575) .n (zvs a b c d e f g h i j l m o p) (z01 (some zq6) K) =
 z02.Z49 N a b c d e f g h i j l m o p (fun a b c d e f g q r h i j l m o p => K .nrm (zlm a b c d e f g q r h i j l m o p)) := by kernel_rfl
theorem f76t51 N a b c d e f p q r g h i j l m o (K : KT ρ) : z2q N (z2o 12025690519) .n (zlm a b c d e f p q r g h i j l m o) (z01 (some zq6) K) =
 z02.Z51 N a b c d e f p q r g h i j l m o (fun a b c d e f p q r g h i j l m o => K .nrm (zlm a b c d e f p q r g h i j l m o)) (fun a b c d e f g h i j l m o => K (.exit 5) (z3p a b c d e f g h i j l m o)) := by kernel_rfl
theorem f76t52 N a b c d e f p q r g h i j l m o (K : KT ρ) : z2q N (z2o 16320657815) .n (zlm a b c d e f p q r g h i j l m o) (z01 (some z3a) K) =
 z02.Z52 N a b c d e f p q r g h i j l m o (fun a b c d e f g h i j l m o => K .nrm (z3p a b c d e f g h i j l m o)) (fun s => K .ret (z29 s)) := by kernel_rfl
def zw2 : z0m := .mk (some zq6) none .n .n
theorem f76t50 N a b c d e f p q r g h i j l m o (K : KT ρ) : z2q N (z2o 7730723223) zw2 (zlm a b c d e f p q r g h i j l m o) (z01 (some z3a) K) =
  z02.Z50 N a b c d e f p q r g h i j l m o (fun a b c d e f g h i j l m o => K .nrm (z3p a b c d e f g h i j l m o)) (fun a b c d e f g h i j l m o => K (.exit 5) (z3p a b c d e f g h i j l m o)) (fun s => K .ret (z29 s)) :=
 z06 (fun k => z02.Z51 N a b c d e f p q r g h i j l m o k (fun a b c d e f g h i j l m o => K (.exit 5) (z3p a b c d e f g h i j l m o))) (by kernel_rfl) (f76t51 N (K := z15 (fun σ => z2q N (z2o 16320657815) .n σ (z01 (some z3a) K)) (z01 (some z3a) K)) ..) (fx16 fun a b c d e f p q r g h i j l m o => f76t52 N a b c d e f p q r g h i j l m o K) (by kernel_rfl)
def zw3 : z0m := .mk (some zq6) none .n zw2
theorem f76t48 N a b c d e f p g h i j l m o (K : KT ρ) : z2q N (z2o 3435755927) zw3 (zvs a b c d e f p g h i j l m o) (z01 (some z3a) K) =
  z02.Z48 N a b c d e f p g h i j l m o (fun a b c d e f g h i j l m o => K .nrm (z3p a b c d e f g h i j l m o)) (fun a b c d e f g h i j l m o => K (.exit 5) (z3p a b c d e f g h i j l m o)) (fun q => K .ret (z29 q)) :=
 z06 (fun k => z02.Z49 N a b c d e f p g h i j l m o k) (by kernel_rfl) (f76t49 N (K := z15 (fun σ => z2q N (z2o 7730723223) zw2 σ (z01 (some z3a) K)) (z01 (some z3a) K)) ..) (fx16 fun a b c d e f p r s g h i j l m o => f76t50 N a b c d e f p r s g h i j l m o K) (by kernel_rfl)
def f76p46 : z0m := .mk (some f76l12) none .n zw3
theorem f76t46 N a b c d e f g h i j l m o (K : KT ρ) : z2q N (z2o 1288272279) f76p46 (z3p a b c d e f g h i j l m o) (z01 (some z3a) K) =
  z02.Z46 N a b c d e f g h i j l m o (fun a b c d e f g h i j l m o => K .nrm (z3p a b c d e f g h i j l m o)) (fun a b c d e f g h i j l m o => K (.exit 5) (z3p a b c d e f g h i j l m o)) (fun p => K .ret (z29 p)) :=
 z06 (fun k => z02.Z47 N a b c d e f g h i j l m o k) (by kernel_rfl) (f76t47 N (K := z15 (fun σ => z2q N (z2o 3435755927) zw3 σ (z01 (some z3a) K)) (z01 (some z3a) K)) ..) (fx14 fun a b c d e f q g h i j l m o => f76t48 N a b c d e f q g h i j l m o K) (by kernel_rfl)
def f76p45 : z0m := .mk (some z3a) none f76p46 .n
theorem f76t45 N a b c d e f g h i j l m o (K : KT ρ) : z2q N (z2o 751401367) f76p45 (z3p a b c d e f g h i j l m o) (z01 (some z3a) K) =
  z02.Z45 N a b c d e f g h i j l m o (fun a b c d e f g h i j l m o => K .nrm (z3p a b c d e f g h i j l m o)) (fun p => K .ret (z29 p)) :=
 z0l (by kernel_rfl) (f76t46 N (K := z1c 5 (z01 (some z3a) K)) ..) (by kernel_rfl)
theorem f76t53 N a b c d e f g h i j l m o (K : KT ρ) : z2q N (z2o 1019836823) .n (z3p a b c d e f g h i j l m o) (z01 (some z3a) K) =
 z02.Z53 N a b c d e f g h i j l m o (fun a b c d e f g h i j l m o => K .nrm (z3p a b c d e f g h i j l m o)) := by kernel_rfl
def zw4 : z0m := .mk (some z3a) none f76p45 .n
theorem f76t44 N a b c d e f g h i j l m o (K : KT ρ) : z2q N (z2o 482965911) zw4 (z3p a b c d e f g h i j l m o) (z01 (some z3a) K) =
  z02.Z44 N a b c d e f g h i j l m o (fun a b c d e f g h i j l m o => K .nrm (z3p a b c d e f g h i j l m o)) (fun p => K .ret (z29 p)) :=
 z06 (fun k => z02.Z45 N a b c d e f g h i j l m o k (fun p => K .ret (z29 p))) (by kernel_rfl) (f76t45 N (K := z15 (fun σ => z2q N (z2o 1019836823) .n σ (z01 (some z3a) K)) (z01 (some z3a) K)) ..) (fx13 fun a b c d e f g h i j l m o => f76t53 N a b c d e f g h i j l m o K) (by kernel_rfl)
def zw5 : z0m := .mk (some z3a) none .n zw4
theorem f76t42 N a b c d e l f g m o p h i j (K : KT ρ) : z2q N (z2o 214530455) zw5 (zvt a b c d e l f g m o p h i j) (z01 (some z3a) K) =
  z02.Z42 N a b c d e l f g m o p h i j (fun a b c d e l f g m o h i j => K .nrm (z3p a b c d e l f g m o h i j)) (fun a b c d e f g h i j => K (.exit 4) (z62 a b c d e f g h i j)) (fun q => K .ret (z29 q)) :=
 z06 (fun k => z02.Z43 N a b c d e l f g m o p h i j k (fun a b c d e f g h i j => K (.exit 4) (z62 a b c d e f g h i j))) (by kernel_rfl) (f76t43 N (K := z15 (fun σ => z2q N (z2o 482965911) zw4 σ (z01 (some z3a) K)) (z01 (some z3a) K)) ..) (fx13 fun a b c d e l f g m o h i j => f76t44 N a b c d e l f g m o h i j K) (by kernel_rfl)
def zw6 : z0m := .mk (some f76l11) none .n zw5
theorem f76t40 N a b c d e l f g m o h i j (K : KT ρ) : z2q N (z2o 80312727) zw6 (z3p a b c d e l f g m o h i j) (z01 (some z3a) K) =
  z02.Z40 N a b c d e l f g m o h i j (fun a b c d e l f g m o h i j => K .nrm (z3p a b c d e l f g m o h i j)) (fun a b c d e f g h i j => K (.exit 4) (z62 a b c d e f g h i j)) (fun p => K .ret (z29 p)) :=
 z06 (fun k => z02.Z41 N a b c d e l f g m o h i j k) (by kernel_rfl) (f76t41 N (K := z15 (fun σ => z2q N (z2o 214530455) zw5 σ (z01 (some z3a) K)) (z01 (some z3a) K)) ..) (fx14 fun a b c d e l f g m o q h i j => f76t42 N a b c d e l f g m o q h i j K) (by kernel_rfl)
def f76p39 : z0m := .mk none (some z3a) zw6 .n
abbrev f76w39 {ρ : Type} (N M : Nat) (σ : St) (K : KT ρ) : Option ρ := z2h (fun σ K => z2q N (z2o 80312727) zw6 σ K) z3a M σ K
theorem zvp {ρ : Type} (N : Nat) (K : KT ρ) : ∀ (M : Nat) (a b c d : LI) (e l f g m o h i : Int) (j : LI), f76w39 N M (z3p a b c d e l f g m o h i j) K =
 z02.Z39L N (fun a b c d e f g h i j => K (.exit 4) (z62 a b c d e f g h i j)) (fun p => K .ret (z29 p)) M a b c d e l f g m o h i j
 | 0, _, _, _, _, _, _, _, _, _, _, _, _, _ => rfl
 | M + 1, a, b, c, d, e, l, f, g, m, o, h, i, j => z0w (fun k => z02.Z40 N a b c d e l f g m o h i j k (fun a b c d e f g h i j => K (.exit 4) (z62 a b c d e f g h i j)) (fun p => K .ret (z29 p))) (f76t40 N (K := z15 (fun σ => f76w39 N M σ K) K) ..) (fx13 fun a b c d e l f g m o h i j => zvp N K M a b c d e l f g m o h i j) (by kernel_rfl)
theorem f76t39 N a b c d e l f g m o h i j (K : KT ρ) : z2q N (z2o 46758295) f76p39 (z3p a b c d e l f g m o h i j) (z01 (some z59) K) =
  z02.Z39 N a b c d e l f g m o h i j (fun a b c d e f g h i j => K (.exit 4) (z62 a b c d e f g h i j)) (fun p => K .ret (z29 p)) :=
 z18 (by kernel_rfl) (zvp N (z01 (some z59) K) N a b c d e l f g m o h i j) (by kernel_rfl)
def zw7 : z0m := .mk (some z59) none f76p39 .n
theorem f76t38 N a b c d e l f g m o h i j (K : KT ρ) : z2q N (z2o 29981079) zw7 (z3p a b c d e l f g m o h i j) (z01 (some z59) K) =
  z02.Z38 N a b c d e l f g m o h i j (fun a b c d e f g h i j => K .nrm (z62 a b c d e f g h i j)) (fun p => K .ret (z29 p)) :=
 z0l (by kernel_rfl) (f76t39 N (K := z1c 4 (z01 (some z59) K)) ..) (by kernel_rfl)
def zw8 : z0m := .mk (some z3a) none .n zw7
theorem f76t36 N a b c d e l f g h i j (K : KT ρ) : z2q N (z2o 13203863) zw8 (f76s9 a b c d e l f g h i j) (z01 (some z59) K) =
  z02.Z36 N a b c d e l f g h i j (fun a b c d e f g h i j => K .nrm (z62 a b c d e f g h i j)) (fun m => K .ret (z29 m)) :=
 z06 (fun k => z02.Z37 N a b c d e l f g h i j k) (by kernel_rfl) (f76t37 N (K := z15 (fun σ => z2q N (z2o 29981079) zw7 σ (z01 (some z59) K)) (z01 (some z59) K)) ..) (fx13 fun a b c d e l f g o p h i j => f76t38 N a b c d e l f g o p h i j K) (by kernel_rfl)
def f76p34 : z0m := .mk (some f76l9) none .n zw8
theorem f76t34 N a b c d e f g h i j (K : KT ρ) : z2q N (z2o 4815255) f76p34 (z62 a b c d e f g h i j) (z01 (some z59) K) =
  z02.Z34 N a b c d e f g h i j (fun a b c d e f g h i j => K .nrm (z62 a b c d e f g h i j)) (fun l => K .ret (z29 l)) :=
 z06 (fun k => z02.Z35 N a b c d e f g h i j k) (by kernel_rfl) (f76t35 N (K := z15 (fun σ => z2q N (z2o 13203863) zw8 σ (z01 (some z59) K)) (z01 (some z59) K)) ..) (zq0 fun a b c d e m f g h i j => f76t36 N a b c d e m f g h i j K) (by kernel_rfl)
def f76p33 : z0m := .mk (some z59) none f76p34 .n
theorem f76t33 N a b c d e f g h i j (K : KT ρ) : z2q N (z2o 2718103) f76p33 (z62 a b c d e f g h i j) (z01 (some z59) K) =
  z02.Z33 N a b c d e f g h i j (fun a b c d e f g h i j => K .nrm (z62 a b c d e f g h i j)) (fun l => K .ret (z29 l)) :=
 z0l (by kernel_rfl) (f76t34 N (K := z1c 3 (z01 (some z59) K)) ..) (by kernel_rfl)
theorem f76t54 N a b c d e f g h i j (K : KT ρ) : z2q N (z2o 3766679) .n (z62 a b c d e f g h i j) (z01 (some z59) K) =
 z02.Z54 N a b c d e f g h i j (fun a b c d e f g h i j => K .nrm (z62 a b c d e f g h i j)) := by kernel_rfl
def zw9 : z0m := .mk (some z59) none f76p33 .n
theorem f76t32 N a b c d e f g h i j (K : KT ρ) : z2q N (z2o 1669527) zw9 (z62 a b c d e f g h i j) (z01 (some z59) K) =
  z02.Z32 N a b c d e f g h i j (fun a b c d e f g h i j => K .nrm (z62 a b c d e f g h i j)) (fun l => K .ret (z29 l)) :=
 z06 (fun k => z02.Z33 N a b c d e f g h i j k (fun l => K .ret (z29 l))) (by kernel_rfl) (f76t33 N (K := z15 (fun σ => z2q N (z2o 3766679) .n σ (z01 (some z59) K)) (z01 (some z59) K)) ..) (zc2 fun a b c d e f g h i j => f76t54 N a b c d e f g h i j K) (by kernel_rfl)
def zwa : z0m := .mk (some z59) none .n zw9
theorem f76t30 N a b c d j e f g h i (K : KT ρ) : z2q N (z2o 620951) zwa (z62 a b c d j e f g h i) (z01 (some z59) K) =
  z02.Z30 N a b c d j e f g h i (fun a b c d j e f g h i => K .nrm (z62 a b c d j e f g h i)) (fun a b c d e f g h i => K (.exit 2) (zc6 a b c d e f g h i)) (fun l => K .ret (z29 l)) :=
 z06 (fun k => z02.Z31 N a b c d j e f g h i k (fun a b c d e f g h i => K (.exit 2) (zc6 a b c d e f g h i))) (by kernel_rfl) (f76t31 N (K := z15 (fun σ => z2q N (z2o 1669527) zw9 σ (z01 (some z59) K)) (z01 (some z59) K)) ..) (zc2 fun a b c d j e f g h i => f76t32 N a b c d j e f g h i K) (by kernel_rfl)
def f76p29 : z0m := .mk none (some z59) zwa .n
abbrev f76w29 {ρ : Type} (N M : Nat) (σ : St) (K : KT ρ) : Option ρ := z2h (fun σ K => z2q N (z2o 620951) zwa σ K) z59 M σ K
theorem zvq {ρ : Type} (N : Nat) (K : KT ρ) : ∀ (M : Nat) (a b c d : LI) (j e f g h : Int) (i : LI), f76w29 N M (z62 a b c d j e f g h i) K =
 z02.Z29L N (fun a b c d e f g h i => K (.exit 2) (zc6 a b c d e f g h i)) (fun l => K .ret (z29 l)) M a b c d j e f g h i
 | 0, _, _, _, _, _, _, _, _, _, _ => rfl
 | M + 1, a, b, c, d, j, e, f, g, h, i => z0w (fun k => z02.Z30 N a b c d j e f g h i k (fun a b c d e f g h i => K (.exit 2) (zc6 a b c d e f g h i)) (fun l => K .ret (z29 l))) (f76t30 N (K := z15 (fun σ => f76w29 N M σ K) K) ..) (zc2 fun a b c d j e f g h i => zvq N K M a b c d j e f g h i) (by kernel_rfl)
theorem f76t29 N a b c d j e f g h i (K : KT ρ) : z2q N (z2o 358807) f76p29 (z62 a b c d j e f g h i) (z01 (some ze0) K) =
  z02.Z29 N a b c d j e f g h i (fun a b c d e f g h i => K (.exit 2) (zc6 a b c d e f g h i)) (fun l => K .ret (z29 l)) :=
 z18 (by kernel_rfl) (zvq N (z01 (some ze0) K) N a b c d j e f g h i) (by kernel_rfl)
def zwb : z0m := .mk (some ze0) none f76p29 .n
theorem f76t28 N a b c d j e f g h i (K : KT ρ) : z2q N (z2o 227735) zwb (z62 a b c d j e f g h i) (z01 (some ze0) K) =
  z02.Z28 N a b c d j e f g h i (fun a b c d e f g h i => K .nrm (zc6 a b c d e f g h i)) (fun l => K .ret (z29 l)) :=
 z0l (by kernel_rfl) (f76t29 N (K := z1c 2 (z01 (some ze0) K)) ..) (by kernel_rfl)
def f76p26 : z0m := .mk (some z59) none .n zwb
theorem f76t26 N a b c d e f g h i (K : KT ρ) : z2q N (z2o 96663) f76p26 (zc6 a b c d e f g h i) (z01 (some ze0) K) =
  z02.Z26 N a b c d e f g h i (fun a b c d e f g h i => K .nrm (zc6 a b c d e f g h i)) (fun j => K .ret (z29 j)) :=
 z06 (fun k => z02.Z27 N a b c d e f g h i k) (by kernel_rfl) (f76t27 N (K := z15 (fun σ => z2q N (z2o 227735) zwb σ (z01 (some ze0) K)) (z01 (some ze0) K)) ..) (zc2 fun a b c d l e f g h i => f76t28 N a b c d l e f g h i K) (by kernel_rfl)
theorem f76t56 N a b c d e f g h i (K : KT ρ) : z2q N (z2o 194967) .n (zc6 a b c d e f g h i) (z01 (some z8l) K) =
 z02.Z56 N a b c d e f g h i (fun a b c d j e f g h i => K .nrm (z8k a b c d j e f g h i)) := by kernel_rfl
theorem f76t59 N a b c d e f g h i j (K : KT ρ) : z2q N (z2o 653719) .n (z8k a b c d e f g h i j) (z01 (some zlp) K) =
 z02.Z59 N a b c d e f g h i j (fun a b c d e f g l m h i j => K .nrm (zhy a b c d e f g l m h i j)) := by kernel_rfl
theorem f76t62 N a b c d e f g l m h i j (K : KT ρ) : z2q N (z2o 2488727) .n (zhy a b c d e f g l m h i j) (z01 (some zlp) K) =
 z02.Z62 N a b c d e f g l m h i j (fun a b c d e f g l m h i j => K .nrm (zhy a b c d e f g l m h i j)) (fun a b c d e f g h i j => K (.exit 6) (z8k a b c d e f g h i j)) := by kernel_rfl
def f76p61 : z0m := .mk none (some zlp) .n .n
abbrev f76w61 {ρ : Type} (N M : Nat) (σ : St) (K : KT ρ) : Option ρ := z2h (fun σ K => z2q N (z2o 2488727) .n σ K) zlp M σ K
theorem zvo {ρ : Type} (N : Nat) (K : KT ρ) : ∀ (M : Nat) (a b c d : LI) (e f g l m h i : Int) (j : LI), f76w61 N M (zhy a b c d e f g l m h i j) K =
 z02.Z61L N (fun a b c d e f g h i j => K (.exit 6) (z8k a b c d e f g h i j)) M a b c d e f g l m h i j
 | 0, _, _, _, _, _, _, _, _, _, _, _, _ => rfl
 | M + 1, a, b, c, d, e, f, g, l, m, h, i, j => z0w (fun k => z02.Z62 N a b c d e f g l m h i j k (fun a b c d e f g h i j => K (.exit 6) (z8k a b c d e f g h i j))) (f76t62 N (K := z15 (fun σ => f76w61 N M σ K) K) ..) (fx12 fun a b c d e f g l m h i j => zvo N K M a b c d e f g l m h i j) (by kernel_rfl)
theorem f76t61 N a b c d e f g l m h i j (K : KT ρ) : z2q N (z2o 1440151) f76p61 (zhy a b c d e f g l m h i j) (z01 (some z8l) K) =
  z02.Z61 N a b c d e f g l m h i j (fun a b c d e f g h i j => K (.exit 6) (z8k a b c d e f g h i j)) :=
 z18 (by kernel_rfl) (zvo N (z01 (some z8l) K) N a b c d e f g l m h i j) (by kernel_rfl)
def zvz : z0m := .mk (some z8l) none f76p61 .n
theorem f76t60 N a b c d e f g l m h i j (K : KT ρ) : z2q N (z2o 915863) zvz (zhy a b c d e f g l m h i j) (z01 (some z8l) K) =
  z02.Z60 N a b c d e f g l m h i j (fun a b c d e f g h i j => K .nrm (z8k a b c d e f g h i j)) :=
 z0l (by kernel_rfl) (f76t61 N (K := z1c 6 (z01 (some z8l) K)) ..) (by kernel_rfl)
def f76p58 : z0m := .mk (some zlp) none .n zvz
theorem f76t58 N a b c d e f g h i j (K : KT ρ) : z2q N (z2o 391575) f76p58 (z8k a b c d e f g h i j) (z01 (some z8l) K) =
  z02.Z58 N a b c d e f g h i j (fun a b c d e f g h i j => K .nrm (z8k a b c d e f g h i j)) :=
 z06 (fun k => z02.Z59 N a b c d e f g h i j k) (by kernel_rfl) (f76t59 N (K := z15 (fun σ => z2q N (z2o 915863) zvz σ (z01 (some z8l) K)) (z01 (some z8l) K)) ..) (fx12 fun a b c d e f g l m h i j => f76t60 N a b c d e f g l m h i j K) (by kernel_rfl)
theorem f76t64 N a b c d e f g h i j (K : KT ρ) : z2q N (z2o 784791) .n (z8k a b c d e f g h i j) (z01 (some f76l16) K) =
 z02.Z64 N a b c d e f g h i j (fun a b c d e l f g h i j => K .nrm (zq5 a b c d e l f g h i j)) := by kernel_rfl
theorem f76t67 N a b c d e f g h i j l (K : KT ρ) : z2q N (z2o 2619799) .n (zq5 a b c d e f g h i j l) (z01 (some zlo) K) =
 z02.Z67 N a b c d e f g h i j l (fun a b c d e f g h m o i j l => K .nrm (zhx a b c d e f g h m o i j l)) := by kernel_rfl
theorem f76t70 N a b c d l e f g m o h i j (K : KT ρ) : z2q N (z2o 9959831) .n (zhx a b c d l e f g m o h i j) (z01 (some zlo) K) =
 z02.Z70 N a b c d l e f g m o h i j (fun a b c d l e f g m o h i j => K .nrm (zhx a b c d l e f g m o h i j)) (fun a b c d e f g h i j => K (.exit 8) (zdn a b c d e f g h i j)) := by kernel_rfl
def f76p69 : z0m := .mk none (some zlo) .n .n
abbrev f76w69 {ρ : Type} (N M : Nat) (σ : St) (K : KT ρ) : Option ρ := z2h (fun σ K => z2q N (z2o 9959831) .n σ K) zlo M σ K
theorem zvn {ρ : Type} (N : Nat) (K : KT ρ) : ∀ (M : Nat) (a b c d : LI) (l e f g m o h i : Int) (j : LI), f76w69 N M (zhx a b c d l e f g m o h i j) K =
 z02.Z69L N (fun a b c d e f g h i j => K (.exit 8) (zdn a b c d e f g h i j)) M a b c d l e f g m o h i j
 | 0, _, _, _, _, _, _, _, _, _, _, _, _, _ => rfl
 | M + 1, a, b, c, d, l, e, f, g, m, o, h, i, j => z0w (fun k => z02.Z70 N a b c d l e f g m o h i j k (fun a b c d e f g h i j => K (.exit 8) (zdn a b c d e f g h i j))) (f76t70 N (K := z15 (fun σ => f76w69 N M σ K) K) ..) (fx13 fun a b c d l e f g m o h i j => zvn N K M a b c d l e f g m o h i j) (by kernel_rfl)
theorem f76t69 N a b c d l e f g m o h i j (K : KT ρ) : z2q N (z2o 5765527) f76p69 (zhx a b c d l e f g m o h i j) (z01 (some za3) K) =
  z02.Z69 N a b c d l e f g m o h i j (fun a b c d e f g h i j => K (.exit 8) (zdn a b c d e f g h i j)) :=
 z18 (by kernel_rfl) (zvn N (z01 (some za3) K) N a b c d l e f g m o h i j) (by kernel_rfl)
def zvw : z0m := .mk (some za3) none f76p69 .n
theorem f76t68 N a b c d l e f g m o h i j (K : KT ρ) : z2q N (z2o 3668375) zvw (zhx a b c d l e f g m o h i j) (z01 (some za3) K) =
  z02.Z68 N a b c d l e f g m o h i j (fun a b c d e f g h i j => K .nrm (zdn a b c d e f g h i j)) :=
 z0l (by kernel_rfl) (f76t69 N (K := z1c 8 (z01 (some za3) K)) ..) (by kernel_rfl)
def f76p66 : z0m := .mk (some zlo) none .n zvw
theorem f76t66 N a b c d l e f g h i j (K : KT ρ) : z2q N (z2o 1571223) f76p66 (zq5 a b c d l e f g h i j) (z01 (some za3) K) =
  z02.Z66 N a b c d l e f g h i j (fun a b c d e f g h i j => K .nrm (zdn a b c d e f g h i j)) :=
 z06 (fun k => z02.Z67 N a b c d l e f g h i j k) (by kernel_rfl) (f76t67 N (K := z15 (fun σ => z2q N (z2o 3668375) zvw σ (z01 (some za3) K)) (z01 (some za3) K)) ..) (fx13 fun a b c d l e f g m o h i j => f76t68 N a b c d l e f g m o h i j K) (by kernel_rfl)
theorem f76t72 N a b c j d e f g h i (K : KT ρ) : z2q N (z2o 3144087) .n (zdn a b c j d e f g h i) (z01 (some zln) K) =
 z02.Z72 N a b c j d e f g h i (fun a b c l d e f m o g h i => K .nrm (zhw a b c l d e f m o g h i)) := by kernel_rfl
theorem f76t75 N a b c i j d e l m f g h (K : KT ρ) : z2q N (z2o 10484119) .n (zhw a b c i j d e l m f g h) (z01 (some zln) K) =
 z02.Z75 N a b c i j d e l m f g h (fun a b c i j d e l m f g h => K .nrm (zhw a b c i j d e l m f g h)) (fun a b c d e f g h => K (.exit 10) (z42 a b c d e f g h)) := by kernel_rfl
def f76p74 : z0m := .mk none (some zln) .n .n
abbrev f76w74 {ρ : Type} (N M : Nat) (σ : St) (K : KT ρ) : Option ρ := z2h (fun σ K => z2q N (z2o 10484119) .n σ K) zln M σ K
theorem zvm {ρ : Type} (N : Nat) (K : KT ρ) : ∀ (M : Nat) (a b c i : LI) (j d e l m f g : Int) (h : LI), f76w74 N M (zhw a b c i j d e l m f g h) K =
 z02.Z74L N (fun a b c d e f g h => K (.exit 10) (z42 a b c d e f g h)) M a b c i j d e l m f g h
 | 0, _, _, _, _, _, _, _, _, _, _, _, _ => rfl
 | M + 1, a, b, c, i, j, d, e, l, m, f, g, h => z0w (fun k => z02.Z75 N a b c i j d e l m f g h k (fun a b c d e f g h => K (.exit 10) (z42 a b c d e f g h))) (f76t75 N (K := z15 (fun σ => f76w74 N M σ K) K) ..) (fx12 fun a b c i j d e l m f g h => zvm N K M a b c i j d e l m f g h) (by kernel_rfl)
theorem f76t74 N a b c i j d e l m f g h (K : KT ρ) : z2q N (z2o 6289815) f76p74 (zhw a b c i j d e l m f g h) (z01 (some z2r) K) =
  z02.Z74 N a b c i j d e l m f g h (fun a b c d e f g h => K (.exit 10) (z42 a b c d e f g h)) :=
 z18 (by kernel_rfl) (zvm N (z01 (some z2r) K) N a b c i j d e l m f g h) (by kernel_rfl)
def zvu : z0m := .mk (some z2r) none f76p74 .n
theorem f76t73 N a b c i j d e l m f g h (K : KT ρ) : z2q N (z2o 4192663) zvu (zhw a b c i j d e l m f g h) (z01 (some z2r) K) =
  z02.Z73 N a b c i j d e l m f g h (fun a b c d e f g h => K .nrm (z42 a b c d e f g h)) :=
 z0l (by kernel_rfl) (f76t74 N (K := z1c 10 (z01 (some z2r) K)) ..) (by kernel_rfl)
def zvv : z0m := .mk (some zln) none .n zvu
theorem f76t71 N a b c j i d e f g h (K : KT ρ) : z2q N (z2o 2095511) zvv (zdn a b c j i d e f g h) (z01 (some z2r) K) =
  z02.Z71 N a b c j i d e f g h (fun a b c d e f g h => K .nrm (z42 a b c d e f g h)) :=
 z06 (fun k => z02.Z72 N a b c j i d e f g h k) (by kernel_rfl) (f76t72 N (K := z15 (fun σ => z2q N (z2o 4192663) zvu σ (z01 (some z2r) K)) (z01 (some z2r) K)) ..) (fx12 fun a b c l i d e m o f g h => f76t73 N a b c l i d e m o f g h K) (by kernel_rfl)
def zvx : z0m := .mk (some za3) none f76p66 zvv
theorem f76t65 N a b c i l j d e f g h (K : KT ρ) : z2q N (z2o 1046935) zvx (zq5 a b c i l j d e f g h) (z01 (some z2r) K) =
  z02.Z65 N a b c i l j d e f g h (fun a b c d e f g h => K .nrm (z42 a b c d e f g h)) :=
 z06 (fun k => z02.Z66 N a b c i l j d e f g h k) (by kernel_rfl) (f76t66 N (K := z15 (fun σ => z2q N (z2o 2095511) zvv σ (z01 (some z2r) K)) (z01 (some z2r) K)) ..) (zc2 fun a b c i j d e f g h => f76t71 N a b c i j d e f g h K) (by kernel_rfl)
def zvy : z0m := .mk (some f76l16) none .n zvx
theorem f76t63 N a b c i j d e f g h (K : KT ρ) : z2q N (z2o 522647) zvy (z8k a b c i j d e f g h) (z01 (some z2r) K) =
  z02.Z63 N a b c i j d e f g h (fun a b c d e f g h => K .nrm (z42 a b c d e f g h)) :=
 z06 (fun k => z02.Z64 N a b c i j d e f g h k) (by kernel_rfl) (f76t64 N (K := z15 (fun σ => z2q N (z2o 1046935) zvx σ (z01 (some z2r) K)) (z01 (some z2r) K)) ..) (zq0 fun a b c i j l d e f g h => f76t65 N a b c i j l d e f g h K) (by kernel_rfl)
def zw0 : z0m := .mk (some z8l) none f76p58 zvy
theorem f76t57 N a b c i j d e f g h (K : KT ρ) : z2q N (z2o 260503) zw0 (z8k a b c i j d e f g h) (z01 (some z2r) K) =
  z02.Z57 N a b c i j d e f g h (fun a b c d e f g h => K .nrm (z42 a b c d e f g h)) :=
 z06 (fun k => z02.Z58 N a b c i j d e f g h k) (by kernel_rfl) (f76t58 N (K := z15 (fun σ => z2q N (z2o 522647) zvy σ (z01 (some z2r) K)) (z01 (some z2r) K)) ..) (zc2 fun a b c i j d e f g h => f76t63 N a b c i j d e f g h K) (by kernel_rfl)
def zw1 : z0m := .mk (some z8l) none .n zw0
theorem f76t55 N a b c i d e f g h (K : KT ρ) : z2q N (z2o 129431) zw1 (zc6 a b c i d e f g h) (z01 (some z2r) K) =
  z02.Z55 N a b c i d e f g h (fun a b c d e f g h => K .nrm (z42 a b c d e f g h)) :=
 z06 (fun k => z02.Z56 N a b c i d e f g h k) (by kernel_rfl) (f76t56 N (K := z15 (fun σ => z2q N (z2o 260503) zw0 σ (z01 (some z2r) K)) (z01 (some z2r) K)) ..) (zc2 fun a b c i j d e f g h => f76t57 N a b c i j d e f g h K) (by kernel_rfl)
def zwc : z0m := .mk (some ze0) none f76p26 zw1
theorem f76t25 N a b c i d e f g h (K : KT ρ) : z2q N (z2o 63895) zwc (zc6 a b c i d e f g h) (z01 (some z2r) K) =
  z02.Z25 N a b c i d e f g h (fun a b c d e f g h => K .nrm (z42 a b c d e f g h)) (fun j => K .ret (z29 j)) :=
 z06 (fun k => z02.Z26 N a b c i d e f g h k (fun j => K .ret (z29 j))) (by kernel_rfl) (f76t26 N (K := z15 (fun σ => z2q N (z2o 129431) zw1 σ (z01 (some z2r) K)) (z01 (some z2r) K)) ..) (fx9 fun a b c i d e f g h => f76t55 N a b c i d e f g h K) (by kernel_rfl)
def zwd : z0m := .mk (some ze0) none .n zwc
theorem f76t23 N a b c i d e f g h (K : KT ρ) : z2q N (z2o 31127) zwd (zjh a b c i d e f g h) (z01 (some z2r) K) =
  z02.Z23 N a b c i d e f g h (fun a b c d e f g h => K .nrm (z42 a b c d e f g h)) (fun j => K .ret (z29 j)) :=
 z06 (fun k => z02.Z24 N a b c i d e f g h k) (by kernel_rfl) (f76t24 N (K := z15 (fun σ => z2q N (z2o 63895) zwc σ (z01 (some z2r) K)) (z01 (some z2r) K)) ..) (fx9 fun a b c l d e f g h => f76t25 N a b c l d e f g h K) (by kernel_rfl)
def zwe : z0m := .mk (some zsc) none .n zwd
theorem f76t21 N a b c i d e f g h (K : KT ρ) : z2q N (z2o 14743) zwe (zjh a b c i d e f g h) (z01 (some z2r) K) =
  z02.Z21 N a b c i d e f g h (fun a b c d e f g h => K .nrm (z42 a b c d e f g h)) (fun j => K .ret (z29 j)) :=
 z06 (fun k => z02.Z22 N a b c i d e f g h k) (by kernel_rfl) (f76t22 N (K := z15 (fun σ => z2q N (z2o 31127) zwd σ (z01 (some z2r) K)) (z01 (some z2r) K)) ..) (fx9 fun a b c i d e f g h => f76t23 N a b c i d e f g h K) (by kernel_rfl)
def zwf : z0m := .mk (some zsc) none .n zwe
theorem f76t19 N a b c i d e f g h (K : KT ρ) : z2q N (z2o 6551) zwf (zjh a b c i d e f g h) (z01 (some z2r) K) =
  z02.Z19 N a b c i d e f g h (fun a b c d e f g h => K .nrm (z42 a b c d e f g h)) (fun a b c d e f g h => K (.exit 1) (z42 a b c d e f g h)) (fun j => K .ret (z29 j)) :=
 z06 (fun k => z02.Z20 N a b c i d e f g h k (fun a b c d e f g h => K (.exit 1) (z42 a b c d e f g h))) (by kernel_rfl) (f76t20 N (K := z15 (fun σ => z2q N (z2o 14743) zwe σ (z01 (some z2r) K)) (z01 (some z2r) K)) ..) (fx9 fun a b c i d e f g h => f76t21 N a b c i d e f g h K) (by kernel_rfl)
def f76p17 : z0m := .mk (some zsc) none .n zwf
theorem f76t17 N a b c d e f g h (K : KT ρ) : z2q N (z2o 2455) f76p17 (z42 a b c d e f g h) (z01 (some z2r) K) =
  z02.Z17 N a b c d e f g h (fun a b c d e f g h => K .nrm (z42 a b c d e f g h)) (fun a b c d e f g h => K (.exit 1) (z42 a b c d e f g h)) (fun i => K .ret (z29 i)) :=
 z06 (fun k => z02.Z18 N a b c d e f g h k) (by kernel_rfl) (f76t18 N (K := z15 (fun σ => z2q N (z2o 6551) zwf σ (z01 (some z2r) K)) (z01 (some z2r) K)) ..) (fx9 fun a b c j d e f g h => f76t19 N a b c j d e f g h K) (by kernel_rfl)
def f76p16 : z0m := .mk (some z2r) none f76p17 .n
theorem f76t16 N a b c d e f g h (K : KT ρ) : z2q N (z2o 1431) f76p16 (z42 a b c d e f g h) (z01 (some z2r) K) =
  z02.Z16 N a b c d e f g h (fun a b c d e f g h => K .nrm (z42 a b c d e f g h)) (fun i => K .ret (z29 i)) :=
 z0l (by kernel_rfl) (f76t17 N (K := z1c 1 (z01 (some z2r) K)) ..) (by kernel_rfl)
theorem f76t76 N a b c d e f g h (K : KT ρ) : z2q N (z2o 1943) .n (z42 a b c d e f g h) (z01 (some z2r) K) =
 z02.Z76 N a b c d e f g h (fun a b c d e f g h => K .nrm (z42 a b c d e f g h)) := by kernel_rfl
def zwg : z0m := .mk (some z2r) none f76p16 .n
theorem f76t15 N a b c d e f g h (K : KT ρ) : z2q N (z2o 919) zwg (z42 a b c d e f g h) (z01 (some z2r) K) =
  z02.Z15 N a b c d e f g h (fun a b c d e f g h => K .nrm (z42 a b c d e f g h)) (fun i => K .ret (z29 i)) :=
 z06 (fun k => z02.Z16 N a b c d e f g h k (fun i => K .ret (z29 i))) (by kernel_rfl) (f76t16 N (K := z15 (fun σ => z2q N (z2o 1943) .n σ (z01 (some z2r) K)) (z01 (some z2r) K)) ..) (fx8 fun a b c d e f g h => f76t76 N a b c d e f g h K) (by kernel_rfl)
def zwh : z0m := .mk (some z2r) none .n zwg
theorem f76t13 N b c a d e i f g h (K : KT ρ) : z2q N (z2o 407) zwh (f76s5 b c a d e i f g h) (z01 (some z2r) K) =
  z02.Z13 N b c a d e i f g h (fun b c a d e f g h => K .nrm (z42 b c a d e f g h)) (fun a => K (.exit 0) (za1 a)) (fun j => K .ret (z29 j)) :=
 z06 (fun k => z02.Z14 N b c a d e i f g h k (fun a => K (.exit 0) (za1 a))) (by kernel_rfl) (f76t14 N (K := z15 (fun σ => z2q N (z2o 919) zwg σ (z01 (some z2r) K)) (z01 (some z2r) K)) ..) (fx8 fun b c a d e f g h => f76t15 N b c a d e f g h K) (by kernel_rfl)
def zwi : z0m := .mk (some f76l5) none .n zwh
theorem f76t11 N b c a d e f g h (K : KT ρ) : z2q N (z2o 151) zwi (z42 b c a d e f g h) (z01 (some z2r) K) =
  z02.Z11 N b c a d e f g h (fun b c a d e f g h => K .nrm (z42 b c a d e f g h)) (fun a => K (.exit 0) (za1 a)) (fun i => K .ret (z29 i)) :=
 z06 (fun k => z02.Z12 N b c a d e f g h k) (by kernel_rfl) (f76t12 N (K := z15 (fun σ => z2q N (z2o 407) zwh σ (z01 (some z2r) K)) (z01 (some z2r) K)) ..) (fx9 fun b c a d e j f g h => f76t13 N b c a d e j f g h K) (by kernel_rfl)
def f76p10 : z0m := .mk none (some z2r) zwi .n
abbrev f76w10 {ρ : Type} (N M : Nat) (σ : St) (K : KT ρ) : Option ρ := z2h (fun σ K => z2q N (z2o 151) zwi σ K) z2r M σ K
theorem zvr {ρ : Type} (N : Nat) (K : KT ρ) : ∀ (M : Nat) (b c a : LI) (d e f g : Int) (h : LI), f76w10 N M (z42 b c a d e f g h) K =
 z02.Z10L N (fun a => K (.exit 0) (za1 a)) (fun i => K .ret (z29 i)) M b c a d e f g h
 | 0, _, _, _, _, _, _, _, _ => rfl
 | M + 1, b, c, a, d, e, f, g, h => z0w (fun k => z02.Z11 N b c a d e f g h k (fun a => K (.exit 0) (za1 a)) (fun i => K .ret (z29 i))) (f76t11 N (K := z15 (fun σ => f76w10 N M σ K) K) ..) (fx8 fun b c a d e f g h => zvr N K M b c a d e f g h) (by kernel_rfl)
theorem f76t10 N b c a d e f g h (K : KT ρ) : z2q N (z2o 87) f76p10 (z42 b c a d e f g h) (z01 (some za2) K) =
  z02.Z10 N b c a d e f g h (fun a => K (.exit 0) (za1 a)) (fun i => K .ret (z29 i)) :=
 z18 (by kernel_rfl) (zvr N (z01 (some za2) K) N b c a d e f g h) (by kernel_rfl)
def f76p9 : z0m := .mk (some za2) none f76p10 .n
theorem f76t9 N b c a d e f g h (K : KT ρ) : z2q N (z2o 55) f76p9 (z42 b c a d e f g h) (z01 (some za2) K) =
  z02.Z9 N b c a d e f g h (fun a => K .nrm (za1 a)) (fun i => K .ret (z29 i)) :=
 z0l (by kernel_rfl) (f76t10 N (K := z1c 0 (z01 (some za2) K)) ..) (by kernel_rfl)
def f76p7 : z0m := .mk (some z2r) none .n f76p9
theorem f76t7 N b c a d e f (K : KT ρ) : z2q N (z2o 23) f76p7 (f76s3 b c a d e f) (z01 (some za2) K) =
  z02.Z7 N b c a d e f (fun a => K .nrm (za1 a)) (fun g => K .ret (z29 g)) :=
 z06 (fun k => z02.Z8 N b c a d e f k) (by kernel_rfl) (f76t8 N (K := z15 (fun σ => z2q N (z2o 55) f76p9 σ (z01 (some za2) K)) (z01 (some za2) K)) ..) (fx8 fun b c a h i d e f => f76t9 N b c a h i d e f K) (by kernel_rfl)
theorem f76t77 N a (K : KT ρ) : z2q N (z2o 31) .n (za1 a) (z01 (some zb1) K) =
 z02.Z77 N a (fun b => K .ret (z29 b)) := by kernel_rfl
def f76p6 : z0m := .mk (some za2) none f76p7 .n
theorem f76t6 N b c a d e f (K : KT ρ) : z2q N (z2o 15) f76p6 (f76s3 b c a d e f) (z01 (some zb1) K) =
  z02.Z6 N b c a d e f (fun g => K .ret (z29 g)) :=
 z06 (fun k => z02.Z7 N b c a d e f k (fun g => K .ret (z29 g))) (by kernel_rfl) (f76t7 N (K := z15 (fun σ => z2q N (z2o 31) .n σ (z01 (some zb1) K)) (z01 (some zb1) K)) ..) (funext fun a => f76t77 N a K) (by kernel_rfl)
def f76p4 : z0m := .mk (some f76l3) none .n f76p6
theorem f76t4 N a b c d e (K : KT ρ) : z2q N (z2o 7) f76p4 (f76s2 a b c d e) (z01 (some zb1) K) =
  z02.Z4 N a b c d e (fun f => K .ret (z29 f)) :=
 z06 (fun k => z02.Z5 N a b c d e k) (by kernel_rfl) (f76t5 N (K := z15 (fun σ => z2q N (z2o 15) f76p6 σ (z01 (some zb1) K)) (z01 (some zb1) K)) ..) (fx6 fun a b g c d e => f76t6 N a b g c d e K) (by kernel_rfl)
def f76p2 : z0m := .mk (some f76l2) none .n f76p4
theorem f76t2 N a b c (K : KT ρ) : z2q N (z2o 3) f76p2 (f76s1 a b c) (z01 (some zb1) K) =
  z02.Z2 N a b c (fun d => K .ret (z29 d)) :=
 z06 (fun k => z02.Z3 N a b c k) (by kernel_rfl) (f76t3 N (K := z15 (fun σ => z2q N (z2o 7) f76p4 σ (z01 (some zb1) K)) (z01 (some zb1) K)) ..) (fx5 fun e f a b c => f76t4 N e f a b c K) (by kernel_rfl)
def f76p0 : z0m := .mk (some f76l1) none .n f76p2
theorem f76t0 N a (K : KT ρ) : z2q N (z2o 1) f76p0 (f76s0 a) (z01 (some zb1) K) =
  z02.Z0 N a (fun b => K .ret (z29 b)) :=
 z06 (fun k => z02.Z1 N a k) (by kernel_rfl) (f76t1 N (K := z15 (fun σ => z2q N (z2o 3) f76p2 σ (z01 (some zb1) K)) (z01 (some zb1) K)) ..) (fx3 fun c d e => f76t2 N c d e K) (by kernel_rfl)
theorem f76m (N : Nat) (a : MT) : z2q N (z2o 1) f76p0 (f76s0 a) (z01 (some zb1) (z47 tab zll Try.f76.results.toList)) = z02.Z0 N a (fun b => some ((), (b, ()))) :=
 (f76t0 N a (z47 tab zll Try.f76.results.toList)).trans (by kernel_rfl)
theorem f76ok (h : z02.Spec) : z0t Try.prog 76 e76 :=
 z0p (sig := zll) (c := (z2o 1)) (pl := f76p0) (je := (some zb1)) (B := f76B) Try.func76 (by kernel_rfl) (by kernel_rfl) (by kernel_rfl) z3b f76GOk (by kernel_rfl) (by kernel_rfl) (by kernel_rfl) (by kernel_rfl) fun X hb hp => by
  obtain ⟨a, _⟩ := X
  obtain ⟨N, h⟩ := h a hb.1 hp
  exact ⟨N, (f76m N a).trans (h N (Nat.le_refl N))⟩
theorem e76ok : z0t Try.prog 76 e76 := f76ok z02.ok
end Go.Fw
namespace Go.Fw
variable {ρ : Type}
open Go.Proofs
def zm4 : Sig := ⟨[⟨.pair (.int .i64) (.pair (.int .i64) (.sl 3 (.int .i64))), true, false⟩], [⟨.bool, false, false⟩]⟩
def e31 : z2y := ⟨zm4, none, fun X => ((), ((z1s.g X.1), ()))⟩
def f31G : Gm := z6a (z6a z27 75 e75) 76 e76
theorem f31GOk : GOk Try.prog f31G := ((GOk.nil).add e75ok (by kernel_rfl)).add e76ok (by kernel_rfl)
def f31lE : z0d := ⟨[], [], [], [], []⟩
def f31s0 (a : MT) : St := z2p zm4.ps (a, ())
def f31s1 (a : Bool) : St := z1i [(2, xB a)] [] []
def f31l1 : z0d := ⟨[2], [], [], [], []⟩
def f31B : Nat → Option z0d := z1g [(1000000, f31l1)]
abbrev f31i {ρ : Type} (N : Nat) (c : Code) (p : z0m) (σ : St) (K : KT ρ) : Option ρ := z1n f31G tab f31B N c p σ K
def f31c (n : Nat) : Code := z30 99 (z2a Try.f31) n
theorem f31t0 N a (K : KT ρ) : f31i N (f31c 1) .n (f31s0 a) (z01 (some f31lE) K) =
 z1s.Z0 N a (fun b => K .ret (f31s1 b)) := by kernel_rfl
theorem f31m (N : Nat) (a : MT) : f31i N (f31c 1) .n (f31s0 a) (z01 (some f31lE) (z47 tab zm4 Try.f31.results.toList)) = z1s.Z0 N a (fun b => some ((), (b, ()))) :=
 (f31t0 N a (z47 tab zm4 Try.f31.results.toList)).trans (by kernel_rfl)
theorem f31ok (h : z1s.Spec) : z0t Try.prog 31 e31 :=
 z0p (sig := zm4) (c := (f31c 1)) (pl := .n) (je := (some f31lE)) (B := f31B) Try.func31 (by kernel_rfl) (by kernel_rfl) (by kernel_rfl) z3b f31GOk (by kernel_rfl) (by kernel_rfl) (by kernel_rfl) (by kernel_rfl) fun X hb hp => by
  obtain ⟨a, _⟩ := X
  obtain ⟨N, h⟩ := h a hb.1
  exact ⟨N, (f31m N a).trans (h N (Nat.le_refl N))⟩
theorem e31ok : z0t Try.prog 31 e31 := f31ok z1s.ok
end Go.Fw
namespace Go.Fw
variable {ρ : Type}
open Go.Proofs
def zm0 : Sig := ⟨[⟨.pair (.int .i64) (.pair (.int .i64) (.sl 3 (.int .i64))), true, false⟩], [⟨.bool, false, false⟩]⟩
def e40 : z2y := ⟨zm0, none, fun X => ((), ((z04.g X.1), ()))⟩
def f40G : Gm := z6a (z6a z27 31 e31) 83 e83
theorem f40GOk : GOk Try.prog f40G := ((GOk.nil).add e31ok (by kernel_rfl)).add e83ok (by kernel_rfl)
def z8v : z0d := ⟨[], [], [], [], []⟩
def f40s0 (a : MT) : St := z2p zm0.ps (a, ())
def zsl (a b : Int) (c : LI) : St := z1i [(1, xb 1)] [(1, (30, [yi a, yi b, .sn 3 tI c none]))] []
def f40l1 : z0d := ⟨[1], [1], [], [], []⟩
def zd0 (a b : Int) (d e : LI) : St := z1i [(1, xb 1), (3, .c (.mp 11))] [(1, (30, [yi a, yi b, .sn 3 tI d none])), (11, (1000000095, [.mset tI e]))] []
def ze9 : z0d := ⟨[1, 3], [1, 11], [], [], []⟩
def zsk (a b d : Int) (e f : LI) : St := z1i [(1, xb 1), (3, .c (.mp 11)), (4, xi a)] [(1, (30, [yi b, yi d, .sn 3 tI e none])), (11, (1000000095, [.mset tI f]))] []
def zy6 : z0d := ⟨[1, 3, 4], [1, 11], [], [], []⟩
def z63 (a b d e : Int) (f g : LI) : St := z1i [(1, xb 1), (3, .c (.mp 11)), (21, xi a), (22, xi b)] [(1, (30, [yi d, yi e, .sn 3 tI f none])), (11, (1000000095, [.mset tI g]))] []
def z5c : z0d := ⟨[1, 3, 21, 22], [1, 11], [], [], []⟩
def f40s5 (a b : Int) (d : Bool) (e f : Int) (g h : LI) : St := z1i [(1, xb 1), (3, .c (.mp 11)), (21, xi a), (22, xi b), (23, xB d)] [(1, (30, [yi e, yi f, .sn 3 tI g none])), (11, (1000000095, [.mset tI h]))] []
def f40l5 : z0d := ⟨[1, 3, 21, 22, 23], [1, 11], [], [], []⟩
def z7g (a b d e f g : Int) (h i : LI) : St := z1i [(1, xb 1), (3, .c (.mp 11)), (21, xi a), (22, xi b), (25, xi d), (26, xi e)] [(1, (30, [yi f, yi g, .sn 3 tI h none])), (11, (1000000095, [.mset tI i]))] []
def z52 : z0d := ⟨[1, 3, 21, 22, 25, 26], [1, 11], [], [], []⟩
def f40s7 (a b d e : Int) (f : Bool) (g h : Int) (i j : LI) : St := z1i [(1, xb 1), (3, .c (.mp 11)), (21, xi a), (22, xi b), (25, xi d), (26, xi e), (27, xB f)] [(1, (30, [yi g, yi h, .sn 3 tI i none])), (11, (1000000095, [.mset tI j]))] []
def f40l7 : z0d := ⟨[1, 3, 21, 22, 25, 26, 27], [1, 11], [], [], []⟩
def f40s8 (a b d e f g h : Int) (i j : LI) : St := z1i [(1, xb 1), (3, .c (.mp 11)), (5, xi a), (21, xi b), (22, xi d), (25, xi e), (26, xi f)] [(1, (30, [yi g, yi h, .sn 3 tI i none])), (11, (1000000095, [.mset tI j]))] []
def f40l8 : z0d := ⟨[1, 3, 5, 21, 22, 25, 26], [1, 11], [], [], []⟩
def zfl (a : Int) (b : Bool) (d e f g h i : Int) (j l : LI) : St := z1i [(1, xb 1), (3, .c (.mp 11)), (5, xi a), (6, xB b), (21, xi d), (22, xi e), (25, xi f), (26, xi g)] [(1, (30, [yi h, yi i, .sn 3 tI j none])), (11, (1000000095, [.mset tI l]))] []
def ze8 : z0d := ⟨[1, 3, 5, 6, 21, 22, 25, 26], [1, 11], [], [], []⟩
def zhz (a : Int) (b : Bool) (d e f g h i j l : Int) (m o : LI) : St := z1i [(1, xb 1), (3, .c (.mp 11)), (5, xi a), (6, xB b), (21, xi d), (22, xi e), (25, xi f), (26, xi g), (30, xi h), (31, xi i)] [(1, (30, [yi j, yi l, .sn 3 tI m none])), (11, (1000000095, [.mset tI o]))] []
def zm1 : z0d := ⟨[1, 3, 5, 6, 21, 22, 25, 26, 30, 31], [1, 11], [], [], []⟩
def za4 (a : LI) : St := z1i [(3, .c (.mp 11))] [(11, (1000000095, [.mset tI a]))] []
def za5 : z0d := ⟨[3], [11], [], [], []⟩
def zdo (a : Bool) : St := z1i [(2, xB a)] [] []
def f40l12 : z0d := ⟨[2], [], [], [], []⟩
def f40B : Nat → Option z0d := z1g [(0, ze9), (6, ze8), (5, z52), (4, z5c), (3, z5c), (2, za5), (1000000, f40l12)]
abbrev z48 {ρ : Type} (N : Nat) (c : Code) (p : z0m) (σ : St) (K : KT ρ) : Option ρ := z1n f40G tab f40B N c p σ K
def z46 (n : Nat) : Code := z30 99 (z2a Try.f40) n
theorem f40t1 N a (K : KT ρ) : z48 N (z46 2) .n (f40s0 a) (z01 (some f40l1) K) =
 z04.Z1 N a (fun b c d => K .nrm (zsl b c d)) := by kernel_rfl
theorem f40t3 N a b c (K : KT ρ) : z48 N (z46 5) .n (zsl a b c) (z01 (some f40l1) K) =
 z04.Z3 N a b c (fun a b c => K .nrm (zsl a b c)) (fun d => K .ret (zdo d)) := by kernel_rfl
theorem f40t5 N a b c (K : KT ρ) : z48 N (z46 11) .n (zsl a b c) (z01 (some ze9) K) =
 z04.Z5 N a b c (fun a b c d => K .nrm (zd0 a b c d)) := by kernel_rfl
theorem f40t8 N a b c d (K : KT ρ) : z48 N (z46 39) .n (zd0 a b c d) (z01 (some zy6) K) =
 z04.Z8 N a b c d (fun e a b c d => K .nrm (zsk e a b c d)) := by kernel_rfl
theorem f40t11 N e a b c d (K : KT ρ) : z48 N (z46 151) .n (zsk e a b c d) (z01 (some zy6) K) =
 z04.Z11 N e a b c d (fun e a b c d => K .nrm (zsk e a b c d)) (fun a b c d => K (.exit 0) (zd0 a b c d)) := by kernel_rfl
def f40p10 : z0m := .mk none (some zy6) .n .n
abbrev f40w10 {ρ : Type} (N M : Nat) (σ : St) (K : KT ρ) : Option ρ := z2h (fun σ K => z48 N (z46 151) .n σ K) zy6 M σ K
theorem zxt {ρ : Type} (N : Nat) (K : KT ρ) : ∀ (M : Nat) (e a b : Int) (c d : LI), f40w10 N M (zsk e a b c d) K =
 z04.Z10L N (fun a b c d => K (.exit 0) (zd0 a b c d)) M e a b c d
 | 0, _, _, _, _, _ => rfl
 | M + 1, e, a, b, c, d => z0w (fun k => z04.Z11 N e a b c d k (fun a b c d => K (.exit 0) (zd0 a b c d))) (f40t11 N (K := z15 (fun σ => f40w10 N M σ K) K) ..) (fx5 fun e a b c d => zxt N K M e a b c d) (by kernel_rfl)
theorem f40t10 N e a b c d (K : KT ρ) : z48 N (z46 87) f40p10 (zsk e a b c d) (z01 (some ze9) K) =
  z04.Z10 N e a b c d (fun a b c d => K (.exit 0) (zd0 a b c d)) :=
 z18 (by kernel_rfl) (zxt N (z01 (some ze9) K) N e a b c d) (by kernel_rfl)
def f40p9 : z0m := .mk (some ze9) none f40p10 .n
theorem f40t9 N e a b c d (K : KT ρ) : z48 N (z46 55) f40p9 (zsk e a b c d) (z01 (some ze9) K) =
  z04.Z9 N e a b c d (fun a b c d => K .nrm (zd0 a b c d)) :=
 z0l (by kernel_rfl) (f40t10 N (K := z1c 0 (z01 (some ze9) K)) ..) (by kernel_rfl)
def f40p7 : z0m := .mk (some zy6) none .n f40p9
theorem f40t7 N a b c d (K : KT ρ) : z48 N (z46 23) f40p7 (zd0 a b c d) (z01 (some ze9) K) =
  z04.Z7 N a b c d (fun a b c d => K .nrm (zd0 a b c d)) :=
 z06 (fun k => z04.Z8 N a b c d k) (by kernel_rfl) (f40t8 N (K := z15 (fun σ => z48 N (z46 55) f40p9 σ (z01 (some ze9) K)) (z01 (some ze9) K)) ..) (fx5 fun e a b c d => f40t9 N e a b c d K) (by kernel_rfl)
theorem f40t14 N a b c d (K : KT ρ) : z48 N (z46 79) .n (zd0 a b c d) (z01 (some z5c) K) =
 z04.Z14 N a b c d (fun e f a b c d => K .nrm (z63 e f a b c d)) := by kernel_rfl
theorem f40t18 N a b c d e f (K : KT ρ) : z48 N (z46 559) .n (z63 a b c d e f) (z01 (some f40l5) K) =
 z04.Z18 N a b c d e f (fun a b g c d e f => K .nrm (f40s5 a b g c d e f)) := by kernel_rfl
theorem f40t20 N b c g d e f a (K : KT ρ) : z48 N (z46 1327) .n (f40s5 b c g d e f a) (z01 (some z5c) K) =
 z04.Z20 N b c g d e f a (fun b c d e f a => K .nrm (z63 b c d e f a)) (fun a => K (.exit 2) (za4 a)) := by kernel_rfl
theorem f40t24 N a b c d e f (K : KT ρ) : z48 N (z46 9007) .n (z63 a b c d e f) (z01 (some z52) K) =
 z04.Z24 N a b c d e f (fun a b g h c d e f => K .nrm (z7g a b g h c d e f)) := by kernel_rfl
theorem f40t28 N a b c d e f g h (K : KT ρ) : z48 N (z46 70447) .n (z7g a b c d e f g h) (z01 (some f40l7) K) =
 z04.Z28 N a b c d e f g h (fun a b c d i e f g h => K .nrm (f40s7 a b c d i e f g h)) := by kernel_rfl
theorem f40t30 N a b g h i c d e f (K : KT ρ) : z48 N (z46 168751) .n (f40s7 a b g h i c d e f) (z01 (some z52) K) =
 z04.Z30 N a b g h i c d e f (fun a b g h c d e f => K .nrm (z7g a b g h c d e f)) (fun a b c d e f => K (.exit 4) (z63 a b c d e f)) := by kernel_rfl
theorem f40t34 N a b c d e f g h (K : KT ρ) : z48 N (z46 1151791) .n (z7g a b c d e f g h) (z01 (some f40l8) K) =
 z04.Z34 N a b c d e f g h (fun i a b c d e f g h => K .nrm (f40s8 i a b c d e f g h)) := by kernel_rfl
theorem f40t36 N a b c d e f g h i (K : KT ρ) : z48 N (z46 2724655) .n (f40s8 a b c d e f g h i) (z01 (some ze8) K) =
 z04.Z36 N a b c d e f g h i (fun a j b c d e f g h i => K .nrm (zfl a j b c d e f g h i)) := by kernel_rfl
theorem f40t39 N a b c d e f g h i j (K : KT ρ) : z48 N (z46 10064687) .n (zfl a b c d e f g h i j) (z01 (some zm1) K) =
 z04.Z39 N a b c d e f g h i j (fun a b c d e f l m g h i j => K .nrm (zhz a b c d e f l m g h i j)) := by kernel_rfl
theorem f40t42 N a b c d e f l m g h i j (K : KT ρ) : z48 N (z46 39424815) .n (zhz a b c d e f l m g h i j) (z01 (some zm1) K) =
 z04.Z42 N a b c d e f l m g h i j (fun a b c d e f l m g h i j => K .nrm (zhz a b c d e f l m g h i j)) (fun a b c d e f g h i j => K (.exit 6) (zfl a b c d e f g h i j)) := by kernel_rfl
def f40p41 : z0m := .mk none (some zm1) .n .n
abbrev f40w41 {ρ : Type} (N M : Nat) (σ : St) (K : KT ρ) : Option ρ := z2h (fun σ K => z48 N (z46 39424815) .n σ K) zm1 M σ K
theorem zxq {ρ : Type} (N : Nat) (K : KT ρ) : ∀ (M : Nat) (a : Int) (b : Bool) (c d e f l m g h : Int) (i j : LI), f40w41 N M (zhz a b c d e f l m g h i j) K =
 z04.Z41L N (fun a b c d e f g h i j => K (.exit 6) (zfl a b c d e f g h i j)) M a b c d e f l m g h i j
 | 0, _, _, _, _, _, _, _, _, _, _, _, _ => rfl
 | M + 1, a, b, c, d, e, f, l, m, g, h, i, j => z0w (fun k => z04.Z42 N a b c d e f l m g h i j k (fun a b c d e f g h i j => K (.exit 6) (zfl a b c d e f g h i j))) (f40t42 N (K := z15 (fun σ => f40w41 N M σ K) K) ..) (fx12 fun a b c d e f l m g h i j => zxq N K M a b c d e f l m g h i j) (by kernel_rfl)
theorem f40t41 N a b c d e f l m g h i j (K : KT ρ) : z48 N (z46 22647599) f40p41 (zhz a b c d e f l m g h i j) (z01 (some ze8) K) =
  z04.Z41 N a b c d e f l m g h i j (fun a b c d e f g h i j => K (.exit 6) (zfl a b c d e f g h i j)) :=
 z18 (by kernel_rfl) (zxq N (z01 (some ze8) K) N a b c d e f l m g h i j) (by kernel_rfl)
def zxu : z0m := .mk (some ze8) none f40p41 .n
theorem f40t40 N a b c d e f l m g h i j (K : KT ρ) : z48 N (z46 14258991) zxu (zhz a b c d e f l m g h i j) (z01 (some ze8) K) =
  z04.Z40 N a b c d e f l m g h i j (fun a b c d e f g h i j => K .nrm (zfl a b c d e f g h i j)) :=
 z0l (by kernel_rfl) (f40t41 N (K := z1c 6 (z01 (some ze8) K)) ..) (by kernel_rfl)
def f40p38 : z0m := .mk (some zm1) none .n zxu
theorem f40t38 N a b c d e f g h i j (K : KT ρ) : z48 N (z46 5870383) f40p38 (zfl a b c d e f g h i j) (z01 (some ze8) K) =
  z04.Z38 N a b c d e f g h i j (fun a b c d e f g h i j => K .nrm (zfl a b c d e f g h i j)) :=
 z06 (fun k => z04.Z39 N a b c d e f g h i j k) (by kernel_rfl) (f40t39 N (K := z15 (fun σ => z48 N (z46 14258991) zxu σ (z01 (some ze8) K)) (z01 (some ze8) K)) ..) (fx12 fun a b c d e f l m g h i j => f40t40 N a b c d e f l m g h i j K) (by kernel_rfl)
theorem f40t43 N i j a b c d e f g h (K : KT ρ) : z48 N (z46 7967535) .n (zfl i j a b c d e f g h) (z01 (some z52) K) =
 z04.Z43 N i j a b c d e f g h (fun a b c d e f g h => K .nrm (z7g a b c d e f g h)) := by kernel_rfl
def zxv : z0m := .mk (some ze8) none f40p38 .n
theorem f40t37 N i j a b c d e f g h (K : KT ρ) : z48 N (z46 3773231) zxv (zfl i j a b c d e f g h) (z01 (some z52) K) =
  z04.Z37 N i j a b c d e f g h (fun a b c d e f g h => K .nrm (z7g a b c d e f g h)) :=
 z06 (fun k => z04.Z38 N i j a b c d e f g h k) (by kernel_rfl) (f40t38 N (K := z15 (fun σ => z48 N (z46 7967535) .n σ (z01 (some z52) K)) (z01 (some z52) K)) ..) (zc2 fun i j a b c d e f g h => f40t43 N i j a b c d e f g h K) (by kernel_rfl)
def zxw : z0m := .mk (some ze8) none .n zxv
theorem f40t35 N i a b c d e f g h (K : KT ρ) : z48 N (z46 1676079) zxw (f40s8 i a b c d e f g h) (z01 (some z52) K) =
  z04.Z35 N i a b c d e f g h (fun a b c d e f g h => K .nrm (z7g a b c d e f g h)) :=
 z06 (fun k => z04.Z36 N i a b c d e f g h k) (by kernel_rfl) (f40t36 N (K := z15 (fun σ => z48 N (z46 3773231) zxv σ (z01 (some z52) K)) (z01 (some z52) K)) ..) (zc2 fun i j a b c d e f g h => f40t37 N i j a b c d e f g h K) (by kernel_rfl)
def f40p33 : z0m := .mk (some f40l8) none .n zxw
theorem f40t33 N a b c d e f g h (K : KT ρ) : z48 N (z46 627503) f40p33 (z7g a b c d e f g h) (z01 (some z52) K) =
  z04.Z33 N a b c d e f g h (fun a b c d e f g h => K .nrm (z7g a b c d e f g h)) :=
 z06 (fun k => z04.Z34 N a b c d e f g h k) (by kernel_rfl) (f40t34 N (K := z15 (fun σ => z48 N (z46 1676079) zxw σ (z01 (some z52) K)) (z01 (some z52) K)) ..) (fx9 fun i a b c d e f g h => f40t35 N i a b c d e f g h K) (by kernel_rfl)
def f40p32 : z0m := .mk (some z52) none f40p33 .n
theorem f40t32 N a b c d e f g h (K : KT ρ) : z48 N (z46 365359) f40p32 (z7g a b c d e f g h) (z01 (some z52) K) =
  z04.Z32 N a b c d e f g h (fun a b c d e f g h => K .nrm (z7g a b c d e f g h)) :=
 z0l (by kernel_rfl) (f40t33 N (K := z1c 5 (z01 (some z52) K)) ..) (by kernel_rfl)
theorem f40t44 N a b c d e f g h (K : KT ρ) : z48 N (z46 496431) .n (z7g a b c d e f g h) (z01 (some z52) K) =
 z04.Z44 N a b c d e f g h (fun a b c d e f g h => K .nrm (z7g a b c d e f g h)) := by kernel_rfl
def zxx : z0m := .mk (some z52) none f40p32 .n
theorem f40t31 N a b c d e f g h (K : KT ρ) : z48 N (z46 234287) zxx (z7g a b c d e f g h) (z01 (some z52) K) =
  z04.Z31 N a b c d e f g h (fun a b c d e f g h => K .nrm (z7g a b c d e f g h)) :=
 z06 (fun k => z04.Z32 N a b c d e f g h k) (by kernel_rfl) (f40t32 N (K := z15 (fun σ => z48 N (z46 496431) .n σ (z01 (some z52) K)) (z01 (some z52) K)) ..) (fx8 fun a b c d e f g h => f40t44 N a b c d e f g h K) (by kernel_rfl)
def zxy : z0m := .mk (some z52) none .n zxx
theorem f40t29 N a b g h i c d e f (K : KT ρ) : z48 N (z46 103215) zxy (f40s7 a b g h i c d e f) (z01 (some z52) K) =
  z04.Z29 N a b g h i c d e f (fun a b g h c d e f => K .nrm (z7g a b g h c d e f)) (fun a b c d e f => K (.exit 4) (z63 a b c d e f)) :=
 z06 (fun k => z04.Z30 N a b g h i c d e f k (fun a b c d e f => K (.exit 4) (z63 a b c d e f))) (by kernel_rfl) (f40t30 N (K := z15 (fun σ => z48 N (z46 234287) zxx σ (z01 (some z52) K)) (z01 (some z52) K)) ..) (fx8 fun a b g h c d e f => f40t31 N a b g h c d e f K) (by kernel_rfl)
def zxz : z0m := .mk (some f40l7) none .n zxy
theorem f40t27 N a b g h c d e f (K : KT ρ) : z48 N (z46 37679) zxz (z7g a b g h c d e f) (z01 (some z52) K) =
  z04.Z27 N a b g h c d e f (fun a b g h c d e f => K .nrm (z7g a b g h c d e f)) (fun a b c d e f => K (.exit 4) (z63 a b c d e f)) :=
 z06 (fun k => z04.Z28 N a b g h c d e f k) (by kernel_rfl) (f40t28 N (K := z15 (fun σ => z48 N (z46 103215) zxy σ (z01 (some z52) K)) (z01 (some z52) K)) ..) (fx9 fun a b g h i c d e f => f40t29 N a b g h i c d e f K) (by kernel_rfl)
def f40p26 : z0m := .mk none (some z52) zxz .n
abbrev f40w26 {ρ : Type} (N M : Nat) (σ : St) (K : KT ρ) : Option ρ := z2h (fun σ K => z48 N (z46 37679) zxz σ K) z52 M σ K
theorem zxr {ρ : Type} (N : Nat) (K : KT ρ) : ∀ (M : Nat) (a b g h c d : Int) (e f : LI), f40w26 N M (z7g a b g h c d e f) K =
 z04.Z26L N (fun a b c d e f => K (.exit 4) (z63 a b c d e f)) M a b g h c d e f
 | 0, _, _, _, _, _, _, _, _ => rfl
 | M + 1, a, b, g, h, c, d, e, f => z0w (fun k => z04.Z27 N a b g h c d e f k (fun a b c d e f => K (.exit 4) (z63 a b c d e f))) (f40t27 N (K := z15 (fun σ => f40w26 N M σ K) K) ..) (fx8 fun a b g h c d e f => zxr N K M a b g h c d e f) (by kernel_rfl)
theorem f40t26 N a b g h c d e f (K : KT ρ) : z48 N (z46 21295) f40p26 (z7g a b g h c d e f) (z01 (some z5c) K) =
  z04.Z26 N a b g h c d e f (fun a b c d e f => K (.exit 4) (z63 a b c d e f)) :=
 z18 (by kernel_rfl) (zxr N (z01 (some z5c) K) N a b g h c d e f) (by kernel_rfl)
def zy0 : z0m := .mk (some z5c) none f40p26 .n
theorem f40t25 N a b g h c d e f (K : KT ρ) : z48 N (z46 13103) zy0 (z7g a b g h c d e f) (z01 (some z5c) K) =
  z04.Z25 N a b g h c d e f (fun a b c d e f => K .nrm (z63 a b c d e f)) :=
 z0l (by kernel_rfl) (f40t26 N (K := z1c 4 (z01 (some z5c) K)) ..) (by kernel_rfl)
def f40p23 : z0m := .mk (some z52) none .n zy0
theorem f40t23 N a b c d e f (K : KT ρ) : z48 N (z46 4911) f40p23 (z63 a b c d e f) (z01 (some z5c) K) =
  z04.Z23 N a b c d e f (fun a b c d e f => K .nrm (z63 a b c d e f)) :=
 z06 (fun k => z04.Z24 N a b c d e f k) (by kernel_rfl) (f40t24 N (K := z15 (fun σ => z48 N (z46 13103) zy0 σ (z01 (some z5c) K)) (z01 (some z5c) K)) ..) (fx8 fun a b g h c d e f => f40t25 N a b g h c d e f K) (by kernel_rfl)
def f40p22 : z0m := .mk (some z5c) none f40p23 .n
theorem f40t22 N a b c d e f (K : KT ρ) : z48 N (z46 2863) f40p22 (z63 a b c d e f) (z01 (some z5c) K) =
  z04.Z22 N a b c d e f (fun a b c d e f => K .nrm (z63 a b c d e f)) :=
 z0l (by kernel_rfl) (f40t23 N (K := z1c 3 (z01 (some z5c) K)) ..) (by kernel_rfl)
theorem f40t45 N a b c d e f (K : KT ρ) : z48 N (z46 3887) .n (z63 a b c d e f) (z01 (some z5c) K) =
 z04.Z45 N a b c d e f (fun a b c d e f => K .nrm (z63 a b c d e f)) := by kernel_rfl
def zy1 : z0m := .mk (some z5c) none f40p22 .n
theorem f40t21 N a b c d e f (K : KT ρ) : z48 N (z46 1839) zy1 (z63 a b c d e f) (z01 (some z5c) K) =
  z04.Z21 N a b c d e f (fun a b c d e f => K .nrm (z63 a b c d e f)) :=
 z06 (fun k => z04.Z22 N a b c d e f k) (by kernel_rfl) (f40t22 N (K := z15 (fun σ => z48 N (z46 3887) .n σ (z01 (some z5c) K)) (z01 (some z5c) K)) ..) (fx6 fun a b c d e f => f40t45 N a b c d e f K) (by kernel_rfl)
def zy2 : z0m := .mk (some z5c) none .n zy1
theorem f40t19 N b c g d e f a (K : KT ρ) : z48 N (z46 815) zy2 (f40s5 b c g d e f a) (z01 (some z5c) K) =
  z04.Z19 N b c g d e f a (fun b c d e f a => K .nrm (z63 b c d e f a)) (fun a => K (.exit 2) (za4 a)) :=
 z06 (fun k => z04.Z20 N b c g d e f a k (fun a => K (.exit 2) (za4 a))) (by kernel_rfl) (f40t20 N (K := z15 (fun σ => z48 N (z46 1839) zy1 σ (z01 (some z5c) K)) (z01 (some z5c) K)) ..) (fx6 fun b c d e f a => f40t21 N b c d e f a K) (by kernel_rfl)
def zy3 : z0m := .mk (some f40l5) none .n zy2
theorem f40t17 N b c d e f a (K : KT ρ) : z48 N (z46 303) zy3 (z63 b c d e f a) (z01 (some z5c) K) =
  z04.Z17 N b c d e f a (fun b c d e f a => K .nrm (z63 b c d e f a)) (fun a => K (.exit 2) (za4 a)) :=
 z06 (fun k => z04.Z18 N b c d e f a k) (by kernel_rfl) (f40t18 N (K := z15 (fun σ => z48 N (z46 815) zy2 σ (z01 (some z5c) K)) (z01 (some z5c) K)) ..) (fx7 fun b c g d e f a => f40t19 N b c g d e f a K) (by kernel_rfl)
def f40p16 : z0m := .mk none (some z5c) zy3 .n
abbrev f40w16 {ρ : Type} (N M : Nat) (σ : St) (K : KT ρ) : Option ρ := z2h (fun σ K => z48 N (z46 303) zy3 σ K) z5c M σ K
theorem zxs {ρ : Type} (N : Nat) (K : KT ρ) : ∀ (M : Nat) (b c d e : Int) (f a : LI), f40w16 N M (z63 b c d e f a) K =
 z04.Z16L N (fun a => K (.exit 2) (za4 a)) M b c d e f a
 | 0, _, _, _, _, _, _ => rfl
 | M + 1, b, c, d, e, f, a => z0w (fun k => z04.Z17 N b c d e f a k (fun a => K (.exit 2) (za4 a))) (f40t17 N (K := z15 (fun σ => f40w16 N M σ K) K) ..) (fx6 fun b c d e f a => zxs N K M b c d e f a) (by kernel_rfl)
theorem f40t16 N b c d e f a (K : KT ρ) : z48 N (z46 175) f40p16 (z63 b c d e f a) (z01 (some za5) K) =
  z04.Z16 N b c d e f a (fun a => K (.exit 2) (za4 a)) :=
 z18 (by kernel_rfl) (zxs N (z01 (some za5) K) N b c d e f a) (by kernel_rfl)
def zy4 : z0m := .mk (some za5) none f40p16 .n
theorem f40t15 N b c d e f a (K : KT ρ) : z48 N (z46 111) zy4 (z63 b c d e f a) (z01 (some za5) K) =
  z04.Z15 N b c d e f a (fun a => K .nrm (za4 a)) :=
 z0l (by kernel_rfl) (f40t16 N (K := z1c 2 (z01 (some za5) K)) ..) (by kernel_rfl)
def f40p13 : z0m := .mk (some z5c) none .n zy4
theorem f40t13 N b c d a (K : KT ρ) : z48 N (z46 47) f40p13 (zd0 b c d a) (z01 (some za5) K) =
  z04.Z13 N b c d a (fun a => K .nrm (za4 a)) :=
 z06 (fun k => z04.Z14 N b c d a k) (by kernel_rfl) (f40t14 N (K := z15 (fun σ => z48 N (z46 111) zy4 σ (z01 (some za5) K)) (z01 (some za5) K)) ..) (fx6 fun e f b c d a => f40t15 N e f b c d a K) (by kernel_rfl)
theorem f40t46 N a (K : KT ρ) : z48 N (z46 63) .n (za4 a) (z01 (some z8v) K) =
 z04.Z46 N a (fun b => K .ret (zdo b)) := by kernel_rfl
def zy5 : z0m := .mk (some za5) none f40p13 .n
theorem f40t12 N b c d a (K : KT ρ) : z48 N (z46 31) zy5 (zd0 b c d a) (z01 (some z8v) K) =
  z04.Z12 N b c d a (fun e => K .ret (zdo e)) :=
 z06 (fun k => z04.Z13 N b c d a k) (by kernel_rfl) (f40t13 N (K := z15 (fun σ => z48 N (z46 63) .n σ (z01 (some z8v) K)) (z01 (some z8v) K)) ..) (funext fun a => f40t46 N a K) (by kernel_rfl)
def f40p6 : z0m := .mk (some ze9) none f40p7 zy5
theorem f40t6 N a b c d (K : KT ρ) : z48 N (z46 15) f40p6 (zd0 a b c d) (z01 (some z8v) K) =
  z04.Z6 N a b c d (fun e => K .ret (zdo e)) :=
 z06 (fun k => z04.Z7 N a b c d k) (by kernel_rfl) (f40t7 N (K := z15 (fun σ => z48 N (z46 31) zy5 σ (z01 (some z8v) K)) (z01 (some z8v) K)) ..) (fx4 fun a b c d => f40t12 N a b c d K) (by kernel_rfl)
def f40p4 : z0m := .mk (some ze9) none .n f40p6
theorem f40t4 N a b c (K : KT ρ) : z48 N (z46 7) f40p4 (zsl a b c) (z01 (some z8v) K) =
  z04.Z4 N a b c (fun d => K .ret (zdo d)) :=
 z06 (fun k => z04.Z5 N a b c k) (by kernel_rfl) (f40t5 N (K := z15 (fun σ => z48 N (z46 15) f40p6 σ (z01 (some z8v) K)) (z01 (some z8v) K)) ..) (fx4 fun a b c e => f40t6 N a b c e K) (by kernel_rfl)
def f40p2 : z0m := .mk (some f40l1) none .n f40p4
theorem f40t2 N a b c (K : KT ρ) : z48 N (z46 3) f40p2 (zsl a b c) (z01 (some z8v) K) =
  z04.Z2 N a b c (fun d => K .ret (zdo d)) :=
 z06 (fun k => z04.Z3 N a b c k (fun d => K .ret (zdo d))) (by kernel_rfl) (f40t3 N (K := z15 (fun σ => z48 N (z46 7) f40p4 σ (z01 (some z8v) K)) (z01 (some z8v) K)) ..) (fx3 fun a b c => f40t4 N a b c K) (by kernel_rfl)
def f40p0 : z0m := .mk (some f40l1) none .n f40p2
theorem f40t0 N a (K : KT ρ) : z48 N (z46 1) f40p0 (f40s0 a) (z01 (some z8v) K) =
  z04.Z0 N a (fun b => K .ret (zdo b)) :=
 z06 (fun k => z04.Z1 N a k) (by kernel_rfl) (f40t1 N (K := z15 (fun σ => z48 N (z46 3) f40p2 σ (z01 (some z8v) K)) (z01 (some z8v) K)) ..) (fx3 fun c d e => f40t2 N c d e K) (by kernel_rfl)
theorem f40m (N : Nat) (a : MT) : z48 N (z46 1) f40p0 (f40s0 a) (z01 (some z8v) (z47 tab zm0 Try.f40.results.toList)) = z04.Z0 N a (fun b => some ((), (b, ()))) :=
 (f40t0 N a (z47 tab zm0 Try.f40.results.toList)).trans (by kernel_rfl)
theorem f40ok (h : z04.Spec) : z0t Try.prog 40 e40 :=
 z0p (sig := zm0) (c := (z46 1)) (pl := f40p0) (je := (some z8v)) (B := f40B) Try.func40 (by kernel_rfl) (by kernel_rfl) (by kernel_rfl) z3b f40GOk (by kernel_rfl) (by kernel_rfl) (by kernel_rfl) (by kernel_rfl) fun X hb hp => by
  obtain ⟨a, _⟩ := X
  obtain ⟨N, h⟩ := h a hb.1
  exact ⟨N, (f40m N a).trans (h N (Nat.le_refl N))⟩
theorem e40ok : z0t Try.prog 40 e40 := f40ok z04.ok
end Go.Fw
namespace Go.Fw
variable {ρ : Type}
open Go.Proofs
def zlz : Sig := ⟨[⟨.pair (.int .i64) (.pair (.int .i64) (.sl 3 (.int .i64))), true, false⟩], [⟨.bool, false, false⟩]⟩
def e41 : z2y := ⟨zlz, none, fun X => ((), ((z07.g X.1), ()))⟩
def f41G : Gm := z6a (z6a z27 51 e51) 80 e80
theorem f41GOk : GOk Try.prog f41G := ((GOk.nil).add e51ok (by kernel_rfl)).add zsn (by kernel_rfl)
def z8u : z0d := ⟨[], [], [], [], []⟩
def f41s0 (a : MT) : St := z2p zlz.ps (a, ())
def zsj (a b : Int) (c : LI) : St := z1i [(1, xb 1)] [(1, (30, [yi a, yi b, .sn 3 tI c none]))] []
def f41l1 : z0d := ⟨[1], [1], [], [], []⟩
def zb4 (a : List Bool) (b c : Int) (d : LI) : St := z1i [(1, xb 1), (3, xo 1000192)] [(1, (30, [yi b, yi c, .sn 3 tI d none]))] [(1000192, (⟨4, .bool, a, true, false⟩ : Row))]
def ze7 : z0d := ⟨[1, 3], [1], [], [], [(⟨false, 3, 0⟩, 1000192)]⟩
def z6g (a : List Bool) (b c d : Int) (e : LI) : St := z1i [(1, xb 1), (3, xo 1000192), (4, xi b)] [(1, (30, [yi c, yi d, .sn 3 tI e none]))] [(1000192, (⟨4, .bool, a, true, false⟩ : Row))]
def z5u : z0d := ⟨[1, 3, 4], [1], [], [], [(⟨false, 3, 0⟩, 1000192)]⟩
def z8c (a : List Bool) (b c d e : Int) (f : LI) : St := z1i [(1, xb 1), (3, xo 1000192), (4, xi b), (5, xi c)] [(1, (30, [yi d, yi e, .sn 3 tI f none]))] [(1000192, (⟨4, .bool, a, true, false⟩ : Row))]
def z67 : z0d := ⟨[1, 3, 4, 5], [1], [], [], [(⟨false, 3, 0⟩, 1000192)]⟩
def zfk (a : List Bool) (b c : Int) (d : Bool) (e f : Int) (g : LI) : St := z1i [(1, xb 1), (3, xo 1000192), (4, xi b), (5, xi c), (6, xB d)] [(1, (30, [yi e, yi f, .sn 3 tI g none]))] [(1000192, (⟨4, .bool, a, true, false⟩ : Row))]
def ze6 : z0d := ⟨[1, 3, 4, 5, 6], [1], [], [], [(⟨false, 3, 0⟩, 1000192)]⟩
def zsi (a : List Bool) (b c : Int) (d : Bool) (e f g : Int) (h : LI) : St := z1i [(1, xb 1), (3, xo 1000192), (4, xi b), (5, xi c), (6, xB d), (7, xi e)] [(1, (30, [yi f, yi g, .sn 3 tI h none]))] [(1000192, (⟨4, .bool, a, true, false⟩ : Row))]
def zxp : z0d := ⟨[1, 3, 4, 5, 6, 7], [1], [], [], [(⟨false, 3, 0⟩, 1000192)]⟩
def zsh (a : List Bool) (b c d : Int) (e : LI) : St := z1i [(1, xb 1), (3, xo 1000192), (8, xi b)] [(1, (30, [yi c, yi d, .sn 3 tI e none]))] [(1000192, (⟨4, .bool, a, true, false⟩ : Row))]
def zxo : z0d := ⟨[1, 3, 8], [1], [], [], [(⟨false, 3, 0⟩, 1000192)]⟩
def zny  : St := z1i [] [] []
def zh4 : z0d := ⟨[], [], [], [], []⟩
def zb3 (a : Bool) : St := z1i [(2, xB a)] [] []
def f41l9 : z0d := ⟨[2], [], [], [], []⟩
def f41B : Nat → Option z0d := z1g [(4, ze6), (3, z67), (2, z5u), (1, z5u), (0, ze7), (6, zh4), (1000000, f41l9)]
abbrev z5b {ρ : Type} (N : Nat) (c : Code) (p : z0m) (σ : St) (K : KT ρ) : Option ρ := z1n f41G tab f41B N c p σ K
def z55 (n : Nat) : Code := z30 99 (z2a Try.f41) n
theorem f41t1 N a (K : KT ρ) : z5b N (z55 2) .n (f41s0 a) (z01 (some f41l1) K) =
 z07.Z1 N a (fun b c d => K .nrm (zsj b c d)) := by kernel_rfl
theorem f41t3 N a b c (K : KT ρ) : z5b N (z55 5) .n (zsj a b c) (z01 (some f41l1) K) =
 z07.Z3 N a b c (fun a b c => K .nrm (zsj a b c)) (fun d => K .ret (zb3 d)) := by kernel_rfl
theorem f41t5 N a b c (K : KT ρ) : z5b N (z55 11) .n (zsj a b c) (z01 (some ze7) K) =
 z07.Z5 N a b c (fun d a b c => K .nrm (zb4 d a b c)) := by kernel_rfl
theorem f41t8 N a b c d (K : KT ρ) : z5b N (z55 39) .n (zb4 a b c d) (z01 (some z5u) K) =
 z07.Z8 N a b c d (fun a e b c d => K .nrm (z6g a e b c d)) := by kernel_rfl
theorem f41t12 N a e b c d (K : KT ρ) : z5b N (z55 279) .n (z6g a e b c d) (z01 (some z5u) K) =
 z07.Z12 N a e b c d (fun a e b c d => K .nrm (z6g a e b c d)) (fun a b c d => K (.exit 0) (zb4 a b c d)) := by kernel_rfl
theorem f41t16 N a b c d e (K : KT ρ) : z5b N (z55 2199) .n (z6g a b c d e) (z01 (some z67) K) =
 z07.Z16 N a b c d e (fun a b f c d e => K .nrm (z8c a b f c d e)) := by kernel_rfl
theorem f41t20 N a b f c d e (K : KT ρ) : z5b N (z55 17559) .n (z8c a b f c d e) (z01 (some z67) K) =
 z07.Z20 N a b f c d e (fun a b f c d e => K .nrm (z8c a b f c d e)) (fun a b c d e => K (.exit 2) (z6g a b c d e)) := by kernel_rfl
theorem f41t24 N a b c d e f (K : KT ρ) : z5b N (z55 140439) .n (z8c a b c d e f) (z01 (some ze6) K) =
 z07.Z24 N a b c d e f (fun a b c g d e f => K .nrm (zfk a b c g d e f)) := by kernel_rfl
theorem f41t27 N a b c d e f g (K : KT ρ) : z5b N (z55 599191) .n (zfk a b c d e f g) (z01 (some zxp) K) =
 z07.Z27 N a b c d e f g (fun a b c d h e f g => K .nrm (zsi a b c d h e f g)) := by kernel_rfl
theorem f41t30 N a b c d h e f g (K : KT ρ) : z5b N (z55 2434199) .n (zsi a b c d h e f g) (z01 (some zxp) K) =
 z07.Z30 N a b c d h e f g (fun a b c d h e f g => K .nrm (zsi a b c d h e f g)) (fun a b c d e f g => K (.exit 4) (zfk a b c d e f g)) := by kernel_rfl
def f41p29 : z0m := .mk none (some zxp) .n .n
abbrev f41w29 {ρ : Type} (N M : Nat) (σ : St) (K : KT ρ) : Option ρ := z2h (fun σ K => z5b N (z55 2434199) .n σ K) zxp M σ K
theorem zxc {ρ : Type} (N : Nat) (K : KT ρ) : ∀ (M : Nat) (a : List Bool) (b c : Int) (d : Bool) (h e f : Int) (g : LI), f41w29 N M (zsi a b c d h e f g) K =
 z07.Z29L N (fun a b c d e f g => K (.exit 4) (zfk a b c d e f g)) M a b c d h e f g
 | 0, _, _, _, _, _, _, _, _ => rfl
 | M + 1, a, b, c, d, h, e, f, g => z0w (fun k => z07.Z30 N a b c d h e f g k (fun a b c d e f g => K (.exit 4) (zfk a b c d e f g))) (f41t30 N (K := z15 (fun σ => f41w29 N M σ K) K) ..) (fx8 fun a b c d h e f g => zxc N K M a b c d h e f g) (by kernel_rfl)
theorem f41t29 N a b c d h e f g (K : KT ρ) : z5b N (z55 1385623) f41p29 (zsi a b c d h e f g) (z01 (some ze6) K) =
  z07.Z29 N a b c d h e f g (fun a b c d e f g => K (.exit 4) (zfk a b c d e f g)) :=
 z18 (by kernel_rfl) (zxc N (z01 (some ze6) K) N a b c d h e f g) (by kernel_rfl)
def zxh : z0m := .mk (some ze6) none f41p29 .n
theorem f41t28 N a b c d h e f g (K : KT ρ) : z5b N (z55 861335) zxh (zsi a b c d h e f g) (z01 (some ze6) K) =
  z07.Z28 N a b c d h e f g (fun a b c d e f g => K .nrm (zfk a b c d e f g)) :=
 z0l (by kernel_rfl) (f41t29 N (K := z1c 4 (z01 (some ze6) K)) ..) (by kernel_rfl)
def f41p26 : z0m := .mk (some zxp) none .n zxh
theorem f41t26 N a b c d e f g (K : KT ρ) : z5b N (z55 337047) f41p26 (zfk a b c d e f g) (z01 (some ze6) K) =
  z07.Z26 N a b c d e f g (fun a b c d e f g => K .nrm (zfk a b c d e f g)) :=
 z06 (fun k => z07.Z27 N a b c d e f g k) (by kernel_rfl) (f41t27 N (K := z15 (fun σ => z5b N (z55 861335) zxh σ (z01 (some ze6) K)) (z01 (some ze6) K)) ..) (fx8 fun a b c d h e f g => f41t28 N a b c d h e f g K) (by kernel_rfl)
theorem f41t31 N a b c g d e f (K : KT ρ) : z5b N (z55 468119) .n (zfk a b c g d e f) (z01 (some z67) K) =
 z07.Z31 N a b c g d e f (fun a b c d e f => K .nrm (z8c a b c d e f)) := by kernel_rfl
def zxi : z0m := .mk (some ze6) none f41p26 .n
theorem f41t25 N a b c g d e f (K : KT ρ) : z5b N (z55 205975) zxi (zfk a b c g d e f) (z01 (some z67) K) =
  z07.Z25 N a b c g d e f (fun a b c d e f => K .nrm (z8c a b c d e f)) :=
 z06 (fun k => z07.Z26 N a b c g d e f k) (by kernel_rfl) (f41t26 N (K := z15 (fun σ => z5b N (z55 468119) .n σ (z01 (some z67) K)) (z01 (some z67) K)) ..) (fx7 fun a b c g d e f => f41t31 N a b c g d e f K) (by kernel_rfl)
def f41p23 : z0m := .mk (some ze6) none .n zxi
theorem f41t23 N a b c d e f (K : KT ρ) : z5b N (z55 74903) f41p23 (z8c a b c d e f) (z01 (some z67) K) =
  z07.Z23 N a b c d e f (fun a b c d e f => K .nrm (z8c a b c d e f)) :=
 z06 (fun k => z07.Z24 N a b c d e f k) (by kernel_rfl) (f41t24 N (K := z15 (fun σ => z5b N (z55 205975) zxi σ (z01 (some z67) K)) (z01 (some z67) K)) ..) (fx7 fun a b c g d e f => f41t25 N a b c g d e f K) (by kernel_rfl)
def f41p22 : z0m := .mk (some z67) none f41p23 .n
theorem f41t22 N a b c d e f (K : KT ρ) : z5b N (z55 42135) f41p22 (z8c a b c d e f) (z01 (some z67) K) =
  z07.Z22 N a b c d e f (fun a b c d e f => K .nrm (z8c a b c d e f)) :=
 z0l (by kernel_rfl) (f41t23 N (K := z1c 3 (z01 (some z67) K)) ..) (by kernel_rfl)
theorem f41t32 N a b c d e f (K : KT ρ) : z5b N (z55 58519) .n (z8c a b c d e f) (z01 (some z67) K) =
 z07.Z32 N a b c d e f (fun a b c d e f => K .nrm (z8c a b c d e f)) := by kernel_rfl
def zxj : z0m := .mk (some z67) none f41p22 .n
theorem f41t21 N a b c d e f (K : KT ρ) : z5b N (z55 25751) zxj (z8c a b c d e f) (z01 (some z67) K) =
  z07.Z21 N a b c d e f (fun a b c d e f => K .nrm (z8c a b c d e f)) :=
 z06 (fun k => z07.Z22 N a b c d e f k) (by kernel_rfl) (f41t22 N (K := z15 (fun σ => z5b N (z55 58519) .n σ (z01 (some z67) K)) (z01 (some z67) K)) ..) (fx6 fun a b c d e f => f41t32 N a b c d e f K) (by kernel_rfl)
def zxk : z0m := .mk (some z67) none .n zxj
theorem f41t19 N a b f c d e (K : KT ρ) : z5b N (z55 9367) zxk (z8c a b f c d e) (z01 (some z67) K) =
  z07.Z19 N a b f c d e (fun a b f c d e => K .nrm (z8c a b f c d e)) (fun a b c d e => K (.exit 2) (z6g a b c d e)) :=
 z06 (fun k => z07.Z20 N a b f c d e k (fun a b c d e => K (.exit 2) (z6g a b c d e))) (by kernel_rfl) (f41t20 N (K := z15 (fun σ => z5b N (z55 25751) zxj σ (z01 (some z67) K)) (z01 (some z67) K)) ..) (fx6 fun a b f c d e => f41t21 N a b f c d e K) (by kernel_rfl)
def f41p18 : z0m := .mk none (some z67) zxk .n
abbrev f41w18 {ρ : Type} (N M : Nat) (σ : St) (K : KT ρ) : Option ρ := z2h (fun σ K => z5b N (z55 9367) zxk σ K) z67 M σ K
theorem zxd {ρ : Type} (N : Nat) (K : KT ρ) : ∀ (M : Nat) (a : List Bool) (b f c d : Int) (e : LI), f41w18 N M (z8c a b f c d e) K =
 z07.Z18L N (fun a b c d e => K (.exit 2) (z6g a b c d e)) M a b f c d e
 | 0, _, _, _, _, _, _ => rfl
 | M + 1, a, b, f, c, d, e => z0w (fun k => z07.Z19 N a b f c d e k (fun a b c d e => K (.exit 2) (z6g a b c d e))) (f41t19 N (K := z15 (fun σ => f41w18 N M σ K) K) ..) (fx6 fun a b f c d e => zxd N K M a b f c d e) (by kernel_rfl)
theorem f41t18 N a b f c d e (K : KT ρ) : z5b N (z55 5271) f41p18 (z8c a b f c d e) (z01 (some z5u) K) =
  z07.Z18 N a b f c d e (fun a b c d e => K (.exit 2) (z6g a b c d e)) :=
 z18 (by kernel_rfl) (zxd N (z01 (some z5u) K) N a b f c d e) (by kernel_rfl)
def zxl : z0m := .mk (some z5u) none f41p18 .n
theorem f41t17 N a b f c d e (K : KT ρ) : z5b N (z55 3223) zxl (z8c a b f c d e) (z01 (some z5u) K) =
  z07.Z17 N a b f c d e (fun a b c d e => K .nrm (z6g a b c d e)) :=
 z0l (by kernel_rfl) (f41t18 N (K := z1c 2 (z01 (some z5u) K)) ..) (by kernel_rfl)
def f41p15 : z0m := .mk (some z67) none .n zxl
theorem f41t15 N a b c d e (K : KT ρ) : z5b N (z55 1175) f41p15 (z6g a b c d e) (z01 (some z5u) K) =
  z07.Z15 N a b c d e (fun a b c d e => K .nrm (z6g a b c d e)) :=
 z06 (fun k => z07.Z16 N a b c d e k) (by kernel_rfl) (f41t16 N (K := z15 (fun σ => z5b N (z55 3223) zxl σ (z01 (some z5u) K)) (z01 (some z5u) K)) ..) (fx6 fun a b f c d e => f41t17 N a b f c d e K) (by kernel_rfl)
def f41p14 : z0m := .mk (some z5u) none f41p15 .n
theorem f41t14 N a b c d e (K : KT ρ) : z5b N (z55 663) f41p14 (z6g a b c d e) (z01 (some z5u) K) =
  z07.Z14 N a b c d e (fun a b c d e => K .nrm (z6g a b c d e)) :=
 z0l (by kernel_rfl) (f41t15 N (K := z1c 1 (z01 (some z5u) K)) ..) (by kernel_rfl)
theorem f41t33 N a b c d e (K : KT ρ) : z5b N (z55 919) .n (z6g a b c d e) (z01 (some z5u) K) =
 z07.Z33 N a b c d e (fun a b c d e => K .nrm (z6g a b c d e)) := by kernel_rfl
def zxm : z0m := .mk (some z5u) none f41p14 .n
theorem f41t13 N a b c d e (K : KT ρ) : z5b N (z55 407) zxm (z6g a b c d e) (z01 (some z5u) K) =
  z07.Z13 N a b c d e (fun a b c d e => K .nrm (z6g a b c d e)) :=
 z06 (fun k => z07.Z14 N a b c d e k) (by kernel_rfl) (f41t14 N (K := z15 (fun σ => z5b N (z55 919) .n σ (z01 (some z5u) K)) (z01 (some z5u) K)) ..) (fx5 fun a b c d e => f41t33 N a b c d e K) (by kernel_rfl)
def zxn : z0m := .mk (some z5u) none .n zxm
theorem f41t11 N a e b c d (K : KT ρ) : z5b N (z55 151) zxn (z6g a e b c d) (z01 (some z5u) K) =
  z07.Z11 N a e b c d (fun a e b c d => K .nrm (z6g a e b c d)) (fun a b c d => K (.exit 0) (zb4 a b c d)) :=
 z06 (fun k => z07.Z12 N a e b c d k (fun a b c d => K (.exit 0) (zb4 a b c d))) (by kernel_rfl) (f41t12 N (K := z15 (fun σ => z5b N (z55 407) zxm σ (z01 (some z5u) K)) (z01 (some z5u) K)) ..) (fx5 fun a e b c d => f41t13 N a e b c d K) (by kernel_rfl)
def f41p10 : z0m := .mk none (some z5u) zxn .n
abbrev f41w10 {ρ : Type} (N M : Nat) (σ : St) (K : KT ρ) : Option ρ := z2h (fun σ K => z5b N (z55 151) zxn σ K) z5u M σ K
theorem zxe {ρ : Type} (N : Nat) (K : KT ρ) : ∀ (M : Nat) (a : List Bool) (e b c : Int) (d : LI), f41w10 N M (z6g a e b c d) K =
 z07.Z10L N (fun a b c d => K (.exit 0) (zb4 a b c d)) M a e b c d
 | 0, _, _, _, _, _ => rfl
 | M + 1, a, e, b, c, d => z0w (fun k => z07.Z11 N a e b c d k (fun a b c d => K (.exit 0) (zb4 a b c d))) (f41t11 N (K := z15 (fun σ => f41w10 N M σ K) K) ..) (fx5 fun a e b c d => zxe N K M a e b c d) (by kernel_rfl)
theorem f41t10 N a e b c d (K : KT ρ) : z5b N (z55 87) f41p10 (z6g a e b c d) (z01 (some ze7) K) =
  z07.Z10 N a e b c d (fun a b c d => K (.exit 0) (zb4 a b c d)) :=
 z18 (by kernel_rfl) (zxe N (z01 (some ze7) K) N a e b c d) (by kernel_rfl)
def f41p9 : z0m := .mk (some ze7) none f41p10 .n
theorem f41t9 N a e b c d (K : KT ρ) : z5b N (z55 55) f41p9 (z6g a e b c d) (z01 (some ze7) K) =
  z07.Z9 N a e b c d (fun a b c d => K .nrm (zb4 a b c d)) :=
 z0l (by kernel_rfl) (f41t10 N (K := z1c 0 (z01 (some ze7) K)) ..) (by kernel_rfl)
def f41p7 : z0m := .mk (some z5u) none .n f41p9
theorem f41t7 N a b c d (K : KT ρ) : z5b N (z55 23) f41p7 (zb4 a b c d) (z01 (some ze7) K) =
  z07.Z7 N a b c d (fun a b c d => K .nrm (zb4 a b c d)) :=
 z06 (fun k => z07.Z8 N a b c d k) (by kernel_rfl) (f41t8 N (K := z15 (fun σ => z5b N (z55 55) f41p9 σ (z01 (some ze7) K)) (z01 (some ze7) K)) ..) (fx5 fun a e b c d => f41t9 N a e b c d K) (by kernel_rfl)
theorem f41t36 N a b c d (K : KT ρ) : z5b N (z55 79) .n (zb4 a b c d) (z01 (some zxo) K) =
 z07.Z36 N a b c d (fun a e b c d => K .nrm (zsh a e b c d)) := by kernel_rfl
theorem f41t39 N a b c d e (K : KT ρ) : z5b N (z55 303) .n (zsh a b c d e) (z01 (some zxo) K) =
 z07.Z39 N a b c d e (fun a b c d e => K .nrm (zsh a b c d e)) (K (.exit 6) zny) (fun f => K .ret (zb3 f)) := by kernel_rfl
def f41p38 : z0m := .mk none (some zxo) .n .n
abbrev f41w38 {ρ : Type} (N M : Nat) (σ : St) (K : KT ρ) : Option ρ := z2h (fun σ K => z5b N (z55 303) .n σ K) zxo M σ K
theorem zxb {ρ : Type} (N : Nat) (K : KT ρ) : ∀ (M : Nat) (a : List Bool) (b c d : Int) (e : LI), f41w38 N M (zsh a b c d e) K =
 z07.Z38L N (K (.exit 6) zny) (fun f => K .ret (zb3 f)) M a b c d e
 | 0, _, _, _, _, _ => rfl
 | M + 1, a, b, c, d, e => z0w (fun k => z07.Z39 N a b c d e k (K (.exit 6) zny) (fun f => K .ret (zb3 f))) (f41t39 N (K := z15 (fun σ => f41w38 N M σ K) K) ..) (fx5 fun a b c d e => zxb N K M a b c d e) (by kernel_rfl)
theorem f41t38 N a b c d e (K : KT ρ) : z5b N (z55 175) f41p38 (zsh a b c d e) (z01 (some zh4) K) =
  z07.Z38 N a b c d e (K (.exit 6) zny) (fun f => K .ret (zb3 f)) :=
 z18 (by kernel_rfl) (zxb N (z01 (some zh4) K) N a b c d e) (by kernel_rfl)
def zxf : z0m := .mk (some zh4) none f41p38 .n
theorem f41t37 N a b c d e (K : KT ρ) : z5b N (z55 111) zxf (zsh a b c d e) (z01 (some zh4) K) =
  z07.Z37 N a b c d e (K .nrm zny) (fun f => K .ret (zb3 f)) :=
 z0l (by kernel_rfl) (f41t38 N (K := z1c 6 (z01 (some zh4) K)) ..) (by kernel_rfl)
def f41p35 : z0m := .mk (some zxo) none .n zxf
theorem f41t35 N a b c d (K : KT ρ) : z5b N (z55 47) f41p35 (zb4 a b c d) (z01 (some zh4) K) =
  z07.Z35 N a b c d (K .nrm zny) (fun e => K .ret (zb3 e)) :=
 z06 (fun k => z07.Z36 N a b c d k) (by kernel_rfl) (f41t36 N (K := z15 (fun σ => z5b N (z55 111) zxf σ (z01 (some zh4) K)) (z01 (some zh4) K)) ..) (fx5 fun a f b c d => f41t37 N a f b c d K) (by kernel_rfl)
theorem f41t40 N  (K : KT ρ) : z5b N (z55 63) .n zny (z01 (some z8u) K) =
 z07.Z40 N (fun a => K .ret (zb3 a)) := by kernel_rfl
def zxg : z0m := .mk (some zh4) none f41p35 .n
theorem f41t34 N a b c d (K : KT ρ) : z5b N (z55 31) zxg (zb4 a b c d) (z01 (some z8u) K) =
  z07.Z34 N a b c d (fun e => K .ret (zb3 e)) :=
 z06 (fun k => z07.Z35 N a b c d k (fun e => K .ret (zb3 e))) (by kernel_rfl) (f41t35 N (K := z15 (fun σ => z5b N (z55 63) .n σ (z01 (some z8u) K)) (z01 (some z8u) K)) ..) (f41t40 N K) (by kernel_rfl)
def f41p6 : z0m := .mk (some ze7) none f41p7 zxg
theorem f41t6 N a b c d (K : KT ρ) : z5b N (z55 15) f41p6 (zb4 a b c d) (z01 (some z8u) K) =
  z07.Z6 N a b c d (fun e => K .ret (zb3 e)) :=
 z06 (fun k => z07.Z7 N a b c d k) (by kernel_rfl) (f41t7 N (K := z15 (fun σ => z5b N (z55 31) zxg σ (z01 (some z8u) K)) (z01 (some z8u) K)) ..) (fx4 fun a b c d => f41t34 N a b c d K) (by kernel_rfl)
def f41p4 : z0m := .mk (some ze7) none .n f41p6
theorem f41t4 N a b c (K : KT ρ) : z5b N (z55 7) f41p4 (zsj a b c) (z01 (some z8u) K) =
  z07.Z4 N a b c (fun d => K .ret (zb3 d)) :=
 z06 (fun k => z07.Z5 N a b c k) (by kernel_rfl) (f41t5 N (K := z15 (fun σ => z5b N (z55 15) f41p6 σ (z01 (some z8u) K)) (z01 (some z8u) K)) ..) (fx4 fun e a b c => f41t6 N e a b c K) (by kernel_rfl)
def f41p2 : z0m := .mk (some f41l1) none .n f41p4
theorem f41t2 N a b c (K : KT ρ) : z5b N (z55 3) f41p2 (zsj a b c) (z01 (some z8u) K) =
  z07.Z2 N a b c (fun d => K .ret (zb3 d)) :=
 z06 (fun k => z07.Z3 N a b c k (fun d => K .ret (zb3 d))) (by kernel_rfl) (f41t3 N (K := z15 (fun σ => z5b N (z55 7) f41p4 σ (z01 (some z8u) K)) (z01 (some z8u) K)) ..) (fx3 fun a b c => f41t4 N a b c K) (by kernel_rfl)
def f41p0 : z0m := .mk (some f41l1) none .n f41p2
theorem f41t0 N a (K : KT ρ) : z5b N (z55 1) f41p0 (f41s0 a) (z01 (some z8u) K) =
  z07.Z0 N a (fun b => K .ret (zb3 b)) :=
 z06 (fun k => z07.Z1 N a k) (by kernel_rfl) (f41t1 N (K := z15 (fun σ => z5b N (z55 3) f41p2 σ (z01 (some z8u) K)) (z01 (some z8u) K)) ..) (fx3 fun c d e => f41t2 N c d e K) (by kernel_rfl)
theorem f41m (N : Nat) (a : MT) : z5b N (z55 1) f41p0 (f41s0 a) (z01 (some z8u) (z47 tab zlz Try.f41.results.toList)) = z07.Z0 N a (fun b => some ((), (b, ()))) :=
 (f41t0 N a (z47 tab zlz Try.f41.results.toList)).trans (by kernel_rfl)
theorem f41ok (h : z07.Spec) : z0t Try.prog 41 e41 :=
 z0p (sig := zlz) (c := (z55 1)) (pl := f41p0) (je := (some z8u)) (B := f41B) Try.func41 (by kernel_rfl) (by kernel_rfl) (by kernel_rfl) z3b f41GOk (by kernel_rfl) (by kernel_rfl) (by kernel_rfl) (by kernel_rfl) fun X hb hp => by
  obtain ⟨a, _⟩ := X
  obtain ⟨N, h⟩ := h a hb.1
  exact ⟨N, (f41m N a).trans (h N (Nat.le_refl N))⟩
theorem e41ok : z0t Try.prog 41 e41 := f41ok z07.ok
end Go.Fw
namespace Go.Fw
variable {ρ : Type}
open Go.Proofs
def zm3 : Sig := ⟨[⟨.pair (.int .i64) (.pair (.int .i64) (.sl 3 (.int .i64))), true, false⟩, ⟨.int .i64, false, false⟩, ⟨.int .i64, false, false⟩], [⟨.int .i64, false, false⟩]⟩
def e33 : z2y := ⟨zm3, (some fun X => z2w.P X.1 X.2.1 X.2.2.1), fun X => ((), ((z2w.g X.1 X.2.1 X.2.2.1), ()))⟩
def f33G : Gm := z27
theorem f33GOk : GOk Try.prog f33G := GOk.nil
def f33lE : z0d := ⟨[], [], [], [], []⟩
def f33s0 (a : MT) (b c : Int) : St := z2p zm3.ps (a, (b, (c, ())))
def f33s1 (a : Int) : St := z1i [(6, xi a)] [] []
def f33l1 : z0d := ⟨[6], [], [], [], []⟩
def f33B : Nat → Option z0d := z1g [(1000000, f33l1)]
abbrev f33i {ρ : Type} (N : Nat) (c : Code) (p : z0m) (σ : St) (K : KT ρ) : Option ρ := z1n f33G tab f33B N c p σ K
def f33c (n : Nat) : Code := z30 99 (z2a Try.f33) n
theorem f33t0 N a b c (K : KT ρ) : f33i N (f33c 1) .n (f33s0 a b c) (z01 (some f33lE) K) =
 z2w.Z0 N a b c (fun d => K .ret (f33s1 d)) := by kernel_rfl
theorem f33m (N : Nat) (a : MT) (b c : Int) : f33i N (f33c 1) .n (f33s0 a b c) (z01 (some f33lE) (z47 tab zm3 Try.f33.results.toList)) = z2w.Z0 N a b c (fun d => some ((), (d, ()))) :=
 (f33t0 N a b c (z47 tab zm3 Try.f33.results.toList)).trans (by kernel_rfl)
theorem f33ok (h : z2w.Spec) : z0t Try.prog 33 e33 :=
 z0p (sig := zm3) (c := (f33c 1)) (pl := .n) (je := (some f33lE)) (B := f33B) Try.func33 (by kernel_rfl) (by kernel_rfl) (by kernel_rfl) z3b f33GOk (by kernel_rfl) (by kernel_rfl) (by kernel_rfl) (by kernel_rfl) fun X hb hp => by
  obtain ⟨a, b, d, _⟩ := X
  obtain ⟨N, h⟩ := h a b d hb.1 hp
  exact ⟨N, (f33m N a b d).trans (h N (Nat.le_refl N))⟩
theorem e33ok : z0t Try.prog 33 e33 := f33ok z2w.ok
end Go.Fw
namespace Go.Fw
variable {ρ : Type}
open Go.Proofs
def zli : Sig := ⟨[⟨.sl 3 (.int .i64), false, false⟩], [⟨.sl 3 (.int .i64), false, false⟩]⟩
def e91 : z2y := ⟨zli, (some fun X => z14.P X.1), fun X => ((), ((z14.g X.1), ()))⟩
def f91G : Gm := z27
theorem f91GOk : GOk Try.prog f91G := GOk.nil
def f91lE : z0d := ⟨[], [], [], [], []⟩
def f91s0 (a : LI) : St := z2p zli.ps (a, ())
def f91s1 (a : LI) : St := z1i [(2, xo 1000128)] [] [(1000128, (⟨3, .int .i64, a, true, false⟩ : Row))]
def f91l1 : z0d := ⟨[2], [], [⟨⟨false, 2, 0⟩, 30000000, 3, .int .i64, true⟩], [], [(⟨false, 2, 0⟩, 1000128)]⟩
def f91B : Nat → Option z0d := z1g [(1000000, f91l1)]
abbrev f91i {ρ : Type} (N : Nat) (c : Code) (p : z0m) (σ : St) (K : KT ρ) : Option ρ := z1n f91G tab f91B N c p σ K
def f91c (n : Nat) : Code := z30 99 (z2a Try.f91) n
theorem f91t0 N a (K : KT ρ) : f91i N (f91c 1) .n (f91s0 a) (z01 (some f91lE) K) =
 z14.Z0 N a (fun b => K .ret (f91s1 b)) := by kernel_rfl
theorem f91m (N : Nat) (a : LI) : f91i N (f91c 1) .n (f91s0 a) (z01 (some f91lE) (z47 tab zli Try.f91.results.toList)) = z14.Z0 N a (fun b => some ((), (b, ()))) :=
 (f91t0 N a (z47 tab zli Try.f91.results.toList)).trans (by kernel_rfl)
theorem f91ok (h : z14.Spec) : z0t Try.prog 91 e91 :=
 z0p (sig := zli) (c := (f91c 1)) (pl := .n) (je := (some f91lE)) (B := f91B) Try.func91 (by kernel_rfl) (by kernel_rfl) (by kernel_rfl) z3b f91GOk (by kernel_rfl) (by kernel_rfl) (by kernel_rfl) (by kernel_rfl) fun X hb hp => by
  obtain ⟨a, _⟩ := X
  obtain ⟨N, h⟩ := h a hb.1 hp
  exact ⟨N, (f91m N a).trans (h N (Nat.le_refl N))⟩
theorem e91ok : z0t Try.prog 91 e91 := f91ok z14.ok
end Go.Fw
namespace Go.Fw
variable {ρ : Type}
open Go.Proofs
def zlu : Sig := ⟨[⟨.pair (.int .i64) (.pair (.int .i64) (.sl 3 (.int .i64))), true, false⟩, ⟨.int .i64, false, false⟩], [⟨.pair (.int .i64) (.pair (.int .i64) (.sl 3 (.int .i64))), true, false⟩]⟩
def e71 : z2y := ⟨zlu, (some fun X => z0g.P X.1 X.2.1), fun X => ((), ((z0g.g X.1 X.2.1), ()))⟩
def f71G : Gm := z6a (z6a z27 83 e83) 91 e91
theorem f71GOk : GOk Try.prog f71G := ((GOk.nil).add e83ok (by kernel_rfl)).add e91ok (by kernel_rfl)
def ze2 : z0d := ⟨[], [], [], [], []⟩
def f71s0 (a : MT) (b : Int) : St := z2p zlu.ps (a, (b, ()))
def f71s1 (a b c : Int) (d : LI) (e f : Int) : St := z1i [(1, xi a), (2, xb 2), (4, xb 4)] [(2, (30, [yi b, yi c, .sn 3 tI d none])), (4, (30, [yi e, yi f, .nil]))] []
def f71l1 : z0d := ⟨[1, 2, 4], [2, 4], [], [], []⟩
def f71s2 (a : LI) (b c d : Int) (e : LI) (f g h i : Int) : St := z1i [(1, xi b), (2, xb 2), (4, xb 4), (5, xb 5)] [(2, (30, [yi c, yi d, .sn 3 tI e none])), (4, (30, [yi f, yi g, .nil])), (5, (30, [yi h, yi i, .own 20000322]))] [(20000322, (⟨3, .int .i64, a, true, false⟩ : Row))]
def f71l2 : z0d := ⟨[1, 2, 4, 5], [2, 4, 5], [], [], [(⟨true, 5, 2⟩, 20000322)]⟩
def z6f (a : LI) (b c d e : Int) (f : LI) (g h i j : Int) : St := z1i [(1, xi b), (2, xb 2), (4, xb 4), (5, xb 5), (6, xi c)] [(2, (30, [yi d, yi e, .sn 3 tI f none])), (4, (30, [yi g, yi h, .nil])), (5, (30, [yi i, yi j, .own 20000322]))] [(20000322, (⟨3, .int .i64, a, true, false⟩ : Row))]
def z5t : z0d := ⟨[1, 2, 4, 5, 6], [2, 4, 5], [], [], [(⟨true, 5, 2⟩, 20000322)]⟩
def z7f (a : LI) (b c d e f : Int) (g : LI) (h i j l : Int) : St := z1i [(1, xi b), (2, xb 2), (4, xb 4), (5, xb 5), (6, xi c), (7, xi d)] [(2, (30, [yi e, yi f, .sn 3 tI g none])), (4, (30, [yi h, yi i, .nil])), (5, (30, [yi j, yi l, .own 20000322]))] [(20000322, (⟨3, .int .i64, a, true, false⟩ : Row))]
def z4t : z0d := ⟨[1, 2, 4, 5, 6, 7], [2, 4, 5], [], [], [(⟨true, 5, 2⟩, 20000322)]⟩
def f71s5 (a : LI) (b d e f g h : Int) (i : LI) (j l m o : Int) : St := z1i [(1, xi b), (2, xb 2), (4, xb 4), (5, xb 5), (6, xi d), (7, xi e), (8, .c (.elt 20000322 f 0))] [(2, (30, [yi g, yi h, .sn 3 tI i none])), (4, (30, [yi j, yi l, .nil])), (5, (30, [yi m, yi o, .own 20000322]))] [(20000322, (⟨3, .int .i64, a, true, false⟩ : Row))]
def f71l5 : z0d := ⟨[1, 2, 4, 5, 6, 7, 8], [2, 4, 5], [], [], [(⟨true, 5, 2⟩, 20000322)]⟩
def f71s6 (a : LI) (b d e f g h i j : Int) (l : LI) (m o p q : Int) : St := z1i [(1, xi b), (2, xb 2), (4, xb 4), (5, xb 5), (6, xi d), (7, xi e), (8, .c (.elt 20000322 f 0)), (9, xi g), (10, xi h)] [(2, (30, [yi i, yi j, .sn 3 tI l none])), (4, (30, [yi m, yi o, .nil])), (5, (30, [yi p, yi q, .own 20000322]))] [(20000322, (⟨3, .int .i64, a, true, false⟩ : Row))]
def f71l6 : z0d := ⟨[1, 2, 4, 5, 6, 7, 8, 9, 10], [2, 4, 5], [], [], [(⟨true, 5, 2⟩, 20000322)]⟩
def f71s7 (a : LI) (b d e f g h : Int) (i : Bool) (j l : Int) (m : LI) (o p q r : Int) : St := z1i [(1, xi b), (2, xb 2), (4, xb 4), (5, xb 5), (6, xi d), (7, xi e), (8, .c (.elt 20000322 f 0)), (9, xi g), (10, xi h), (48, xB i)] [(2, (30, [yi j, yi l, .sn 3 tI m none])), (4, (30, [yi o, yi p, .nil])), (5, (30, [yi q, yi r, .own 20000322]))] [(20000322, (⟨3, .int .i64, a, true, false⟩ : Row))]
def f71l7 : z0d := ⟨[1, 2, 4, 5, 6, 7, 8, 9, 10, 48], [2, 4, 5], [], [], [(⟨true, 5, 2⟩, 20000322)]⟩
def zjk (a : LI) (b c d e : Int) : St := z1i [(4, xb 4), (5, xb 5)] [(4, (30, [yi b, yi c, .nil])), (5, (30, [yi d, yi e, .own 20000322]))] [(20000322, (⟨3, .int .i64, a, true, false⟩ : Row))]
def zh2 : z0d := ⟨[4, 5], [4, 5], [], [], [(⟨true, 5, 2⟩, 20000322)]⟩
def f71s9 (a : LI) (b c : Int) : St := z1i [(4, xb 4)] [(4, (30, [yi b, yi c, .own 20000258]))] [(20000258, (⟨3, .int .i64, a, true, false⟩ : Row))]
def f71l9 : z0d := ⟨[4], [4], [], [], [(⟨true, 4, 2⟩, 20000258)]⟩
def f71B : Nat → Option z0d := z1g [(4, z4t), (3, z4t), (2, z5t), (1, z5t), (0, zh2), (1000000, f71l9)]
abbrev z6v {ρ : Type} (N : Nat) (c : Code) (p : z0m) (σ : St) (K : KT ρ) : Option ρ := z1n f71G tab f71B N c p σ K
def z6n (n : Nat) : Code := z30 99 (z2a Try.f71) n
theorem f71t1 N b a (K : KT ρ) : z6v N (z6n 2) .n (f71s0 b a) (z01 (some f71l1) K) =
 z0g.Z1 N b a (fun a c d e f g => K .nrm (f71s1 a c d e f g)) := by kernel_rfl
theorem f71t3 N a b c d e f (K : KT ρ) : z6v N (z6n 5) .n (f71s1 a b c d e f) (z01 (some f71l2) K) =
 z0g.Z3 N a b c d e f (fun g a b c d e f h i => K .nrm (f71s2 g a b c d e f h i)) := by kernel_rfl
theorem f71t6 N a b c d e f g h i (K : KT ρ) : z6v N (z6n 19) .n (f71s2 a b c d e f g h i) (z01 (some z5t) K) =
 z0g.Z6 N a b c d e f g h i (fun a b j c d e f g h i => K .nrm (z6f a b j c d e f g h i)) := by kernel_rfl
theorem f71t10 N a f g h i j b c d e (K : KT ρ) : z6v N (z6n 139) .n (z6f a f g h i j b c d e) (z01 (some z5t) K) =
 z0g.Z10 N a f g h i j b c d e (fun a f g h i j b c d e => K .nrm (z6f a f g h i j b c d e)) (fun a b c d e => K (.exit 0) (zjk a b c d e)) := by kernel_rfl
theorem f71t14 N a b c d e f g h i j (K : KT ρ) : z6v N (z6n 1099) .n (z6f a b c d e f g h i j) (z01 (some z4t) K) =
 z0g.Z14 N a b c d e f g h i j (fun a b c l d e f g h i j => K .nrm (z7f a b c l d e f g h i j)) := by kernel_rfl
theorem f71t18 N a b c l d e f g h i j (K : KT ρ) : z6v N (z6n 8779) .n (z7f a b c l d e f g h i j) (z01 (some z4t) K) =
 z0g.Z18 N a b c l d e f g h i j (fun a b c l d e f g h i j => K .nrm (z7f a b c l d e f g h i j)) (fun a b c d e f g h i j => K (.exit 2) (z6f a b c d e f g h i j)) := by kernel_rfl
theorem f71t22 N a b c d e f g h i j l (K : KT ρ) : z6v N (z6n 70219) .n (z7f a b c d e f g h i j l) (z01 (some f71l5) K) =
 z0g.Z22 N a b c d e f g h i j l (fun a b c d m e f g h i j l => K .nrm (f71s5 a b c d m e f g h i j l)) := by kernel_rfl
theorem f71t24 N a b c d e f g h i j l m (K : KT ρ) : z6v N (z6n 168523) .n (f71s5 a b c d e f g h i j l m) (z01 (some f71l6) K) =
 z0g.Z24 N a b c d e f g h i j l m (fun a b c d e o p f g h i j l m => K .nrm (f71s6 a b c d e o p f g h i j l m)) := by kernel_rfl
theorem f71t27 N a b c d e f g h i j l m o p (K : KT ρ) : z6v N (z6n 627275) .n (f71s6 a b c d e f g h i j l m o p) (z01 (some f71l7) K) =
 z0g.Z27 N a b c d e f g h i j l m o p (fun a b c d e f g q h i j l m o p => K .nrm (f71s7 a b c d e f g q h i j l m o p)) := by kernel_rfl
theorem f71t28 N a b c d m o p q e f g h i j l (K : KT ρ) : z6v N (z6n 889419) .n (f71s7 a b c d m o p q e f g h i j l) (z01 (some z4t) K) =
 z0g.Z28 N a b c d m o p q e f g h i j l (fun a b c d e f g h i j l => K .nrm (z7f a b c d e f g h i j l)) := by kernel_rfl
def f71p26 : z0m := .mk (some f71l7) none .n .n
theorem f71t26 N a b c d m o p e f g h i j l (K : KT ρ) : z6v N (z6n 365131) f71p26 (f71s6 a b c d m o p e f g h i j l) (z01 (some z4t) K) =
  z0g.Z26 N a b c d m o p e f g h i j l (fun a b c d e f g h i j l => K .nrm (z7f a b c d e f g h i j l)) :=
 z06 (fun k => z0g.Z27 N a b c d m o p e f g h i j l k) (by kernel_rfl) (f71t27 N (K := z15 (fun σ => z6v N (z6n 889419) .n σ (z01 (some z4t) K)) (z01 (some z4t) K)) ..) (fx15 fun a b c d m o p q e f g h i j l => f71t28 N a b c d m o p q e f g h i j l K) (by kernel_rfl)
def zx0 : z0m := .mk (some z4t) none f71p26 .n
theorem f71t25 N a b c d m o p e f g h i j l (K : KT ρ) : z6v N (z6n 234059) zx0 (f71s6 a b c d m o p e f g h i j l) (z01 (some z4t) K) =
  z0g.Z25 N a b c d m o p e f g h i j l (fun a b c d e f g h i j l => K .nrm (z7f a b c d e f g h i j l)) :=
 z0l (by kernel_rfl) (f71t26 N (K := z1c 4 (z01 (some z4t) K)) ..) (by kernel_rfl)
def zx1 : z0m := .mk (some f71l6) none .n zx0
theorem f71t23 N a b c d m e f g h i j l (K : KT ρ) : z6v N (z6n 102987) zx1 (f71s5 a b c d m e f g h i j l) (z01 (some z4t) K) =
  z0g.Z23 N a b c d m e f g h i j l (fun a b c d e f g h i j l => K .nrm (z7f a b c d e f g h i j l)) :=
 z06 (fun k => z0g.Z24 N a b c d m e f g h i j l k) (by kernel_rfl) (f71t24 N (K := z15 (fun σ => z6v N (z6n 234059) zx0 σ (z01 (some z4t) K)) (z01 (some z4t) K)) ..) (fx14 fun a b c d m o p e f g h i j l => f71t25 N a b c d m o p e f g h i j l K) (by kernel_rfl)
def f71p21 : z0m := .mk (some f71l5) none .n zx1
theorem f71t21 N a b c d e f g h i j l (K : KT ρ) : z6v N (z6n 37451) f71p21 (z7f a b c d e f g h i j l) (z01 (some z4t) K) =
  z0g.Z21 N a b c d e f g h i j l (fun a b c d e f g h i j l => K .nrm (z7f a b c d e f g h i j l)) :=
 z06 (fun k => z0g.Z22 N a b c d e f g h i j l k) (by kernel_rfl) (f71t22 N (K := z15 (fun σ => z6v N (z6n 102987) zx1 σ (z01 (some z4t) K)) (z01 (some z4t) K)) ..) (fx12 fun a b c d m e f g h i j l => f71t23 N a b c d m e f g h i j l K) (by kernel_rfl)
def f71p20 : z0m := .mk (some z4t) none f71p21 .n
theorem f71t20 N a b c d e f g h i j l (K : KT ρ) : z6v N (z6n 21067) f71p20 (z7f a b c d e f g h i j l) (z01 (some z4t) K) =
  z0g.Z20 N a b c d e f g h i j l (fun a b c d e f g h i j l => K .nrm (z7f a b c d e f g h i j l)) :=
 z0l (by kernel_rfl) (f71t21 N (K := z1c 3 (z01 (some z4t) K)) ..) (by kernel_rfl)
theorem f71t29 N a b c d e f g h i j l (K : KT ρ) : z6v N (z6n 29259) .n (z7f a b c d e f g h i j l) (z01 (some z4t) K) =
 z0g.Z29 N a b c d e f g h i j l (fun a b c d e f g h i j l => K .nrm (z7f a b c d e f g h i j l)) := by kernel_rfl
def zx2 : z0m := .mk (some z4t) none f71p20 .n
theorem f71t19 N a b c d e f g h i j l (K : KT ρ) : z6v N (z6n 12875) zx2 (z7f a b c d e f g h i j l) (z01 (some z4t) K) =
  z0g.Z19 N a b c d e f g h i j l (fun a b c d e f g h i j l => K .nrm (z7f a b c d e f g h i j l)) :=
 z06 (fun k => z0g.Z20 N a b c d e f g h i j l k) (by kernel_rfl) (f71t20 N (K := z15 (fun σ => z6v N (z6n 29259) .n σ (z01 (some z4t) K)) (z01 (some z4t) K)) ..) (zq0 fun a b c d e f g h i j l => f71t29 N a b c d e f g h i j l K) (by kernel_rfl)
def zx3 : z0m := .mk (some z4t) none .n zx2
theorem f71t17 N a b c l d e f g h i j (K : KT ρ) : z6v N (z6n 4683) zx3 (z7f a b c l d e f g h i j) (z01 (some z4t) K) =
  z0g.Z17 N a b c l d e f g h i j (fun a b c l d e f g h i j => K .nrm (z7f a b c l d e f g h i j)) (fun a b c d e f g h i j => K (.exit 2) (z6f a b c d e f g h i j)) :=
 z06 (fun k => z0g.Z18 N a b c l d e f g h i j k (fun a b c d e f g h i j => K (.exit 2) (z6f a b c d e f g h i j))) (by kernel_rfl) (f71t18 N (K := z15 (fun σ => z6v N (z6n 12875) zx2 σ (z01 (some z4t) K)) (z01 (some z4t) K)) ..) (zq0 fun a b c l d e f g h i j => f71t19 N a b c l d e f g h i j K) (by kernel_rfl)
def f71p16 : z0m := .mk none (some z4t) zx3 .n
abbrev f71w16 {ρ : Type} (N M : Nat) (σ : St) (K : KT ρ) : Option ρ := z2h (fun σ K => z6v N (z6n 4683) zx3 σ K) z4t M σ K
theorem zwz {ρ : Type} (N : Nat) (K : KT ρ) : ∀ (M : Nat) (a : LI) (b c l d e : Int) (f : LI) (g h i j : Int), f71w16 N M (z7f a b c l d e f g h i j) K =
 z0g.Z16L N (fun a b c d e f g h i j => K (.exit 2) (z6f a b c d e f g h i j)) M a b c l d e f g h i j
 | 0, _, _, _, _, _, _, _, _, _, _, _ => rfl
 | M + 1, a, b, c, l, d, e, f, g, h, i, j => z0w (fun k => z0g.Z17 N a b c l d e f g h i j k (fun a b c d e f g h i j => K (.exit 2) (z6f a b c d e f g h i j))) (f71t17 N (K := z15 (fun σ => f71w16 N M σ K) K) ..) (zq0 fun a b c l d e f g h i j => zwz N K M a b c l d e f g h i j) (by kernel_rfl)
theorem f71t16 N a b c l d e f g h i j (K : KT ρ) : z6v N (z6n 2635) f71p16 (z7f a b c l d e f g h i j) (z01 (some z5t) K) =
  z0g.Z16 N a b c l d e f g h i j (fun a b c d e f g h i j => K (.exit 2) (z6f a b c d e f g h i j)) :=
 z18 (by kernel_rfl) (zwz N (z01 (some z5t) K) N a b c l d e f g h i j) (by kernel_rfl)
def zx4 : z0m := .mk (some z5t) none f71p16 .n
theorem f71t15 N a b c l d e f g h i j (K : KT ρ) : z6v N (z6n 1611) zx4 (z7f a b c l d e f g h i j) (z01 (some z5t) K) =
  z0g.Z15 N a b c l d e f g h i j (fun a b c d e f g h i j => K .nrm (z6f a b c d e f g h i j)) :=
 z0l (by kernel_rfl) (f71t16 N (K := z1c 2 (z01 (some z5t) K)) ..) (by kernel_rfl)
def f71p13 : z0m := .mk (some z4t) none .n zx4
theorem f71t13 N a b c d e f g h i j (K : KT ρ) : z6v N (z6n 587) f71p13 (z6f a b c d e f g h i j) (z01 (some z5t) K) =
  z0g.Z13 N a b c d e f g h i j (fun a b c d e f g h i j => K .nrm (z6f a b c d e f g h i j)) :=
 z06 (fun k => z0g.Z14 N a b c d e f g h i j k) (by kernel_rfl) (f71t14 N (K := z15 (fun σ => z6v N (z6n 1611) zx4 σ (z01 (some z5t) K)) (z01 (some z5t) K)) ..) (zq0 fun a b c l d e f g h i j => f71t15 N a b c l d e f g h i j K) (by kernel_rfl)
def f71p12 : z0m := .mk (some z5t) none f71p13 .n
theorem f71t12 N a b c d e f g h i j (K : KT ρ) : z6v N (z6n 331) f71p12 (z6f a b c d e f g h i j) (z01 (some z5t) K) =
  z0g.Z12 N a b c d e f g h i j (fun a b c d e f g h i j => K .nrm (z6f a b c d e f g h i j)) :=
 z0l (by kernel_rfl) (f71t13 N (K := z1c 1 (z01 (some z5t) K)) ..) (by kernel_rfl)
theorem f71t30 N a b c d e f g h i j (K : KT ρ) : z6v N (z6n 459) .n (z6f a b c d e f g h i j) (z01 (some z5t) K) =
 z0g.Z30 N a b c d e f g h i j (fun a b c d e f g h i j => K .nrm (z6f a b c d e f g h i j)) := by kernel_rfl
def zx5 : z0m := .mk (some z5t) none f71p12 .n
theorem f71t11 N a b c d e f g h i j (K : KT ρ) : z6v N (z6n 203) zx5 (z6f a b c d e f g h i j) (z01 (some z5t) K) =
  z0g.Z11 N a b c d e f g h i j (fun a b c d e f g h i j => K .nrm (z6f a b c d e f g h i j)) :=
 z06 (fun k => z0g.Z12 N a b c d e f g h i j k) (by kernel_rfl) (f71t12 N (K := z15 (fun σ => z6v N (z6n 459) .n σ (z01 (some z5t) K)) (z01 (some z5t) K)) ..) (zc2 fun a b c d e f g h i j => f71t30 N a b c d e f g h i j K) (by kernel_rfl)
def f71p9 : z0m := .mk (some z5t) none .n zx5
theorem f71t9 N a f g h i j b c d e (K : KT ρ) : z6v N (z6n 75) f71p9 (z6f a f g h i j b c d e) (z01 (some z5t) K) =
  z0g.Z9 N a f g h i j b c d e (fun a f g h i j b c d e => K .nrm (z6f a f g h i j b c d e)) (fun a b c d e => K (.exit 0) (zjk a b c d e)) :=
 z06 (fun k => z0g.Z10 N a f g h i j b c d e k (fun a b c d e => K (.exit 0) (zjk a b c d e))) (by kernel_rfl) (f71t10 N (K := z15 (fun σ => z6v N (z6n 203) zx5 σ (z01 (some z5t) K)) (z01 (some z5t) K)) ..) (zc2 fun a f g h i j b c d e => f71t11 N a f g h i j b c d e K) (by kernel_rfl)
def f71p8 : z0m := .mk none (some z5t) f71p9 .n
abbrev f71w8 {ρ : Type} (N M : Nat) (σ : St) (K : KT ρ) : Option ρ := z2h (fun σ K => z6v N (z6n 75) f71p9 σ K) z5t M σ K
theorem f71t8L {ρ : Type} (N : Nat) (K : KT ρ) : ∀ (M : Nat) (a : LI) (f g h i : Int) (j : LI) (b c d e : Int), f71w8 N M (z6f a f g h i j b c d e) K =
 z0g.Z8L N (fun a b c d e => K (.exit 0) (zjk a b c d e)) M a f g h i j b c d e
 | 0, _, _, _, _, _, _, _, _, _, _ => rfl
 | M + 1, a, f, g, h, i, j, b, c, d, e => z0w (fun k => z0g.Z9 N a f g h i j b c d e k (fun a b c d e => K (.exit 0) (zjk a b c d e))) (f71t9 N (K := z15 (fun σ => f71w8 N M σ K) K) ..) (zc2 fun a f g h i j b c d e => f71t8L N K M a f g h i j b c d e) (by kernel_rfl)
theorem f71t8 N a f g h i j b c d e (K : KT ρ) : z6v N (z6n 43) f71p8 (z6f a f g h i j b c d e) (z01 (some zh2) K) =
  z0g.Z8 N a f g h i j b c d e (fun a b c d e => K (.exit 0) (zjk a b c d e)) :=
 z18 (by kernel_rfl) (f71t8L N (z01 (some zh2) K) N a f g h i j b c d e) (by kernel_rfl)
def f71p7 : z0m := .mk (some zh2) none f71p8 .n
theorem f71t7 N a f g h i j b c d e (K : KT ρ) : z6v N (z6n 27) f71p7 (z6f a f g h i j b c d e) (z01 (some zh2) K) =
  z0g.Z7 N a f g h i j b c d e (fun a b c d e => K .nrm (zjk a b c d e)) :=
 z0l (by kernel_rfl) (f71t8 N (K := z1c 0 (z01 (some zh2) K)) ..) (by kernel_rfl)
def f71p5 : z0m := .mk (some z5t) none .n f71p7
theorem f71t5 N a f g h i b c d e (K : KT ρ) : z6v N (z6n 11) f71p5 (f71s2 a f g h i b c d e) (z01 (some zh2) K) =
  z0g.Z5 N a f g h i b c d e (fun a b c d e => K .nrm (zjk a b c d e)) :=
 z06 (fun k => z0g.Z6 N a f g h i b c d e k) (by kernel_rfl) (f71t6 N (K := z15 (fun σ => z6v N (z6n 27) f71p7 σ (z01 (some zh2) K)) (z01 (some zh2) K)) ..) (zc2 fun a f j g h i b c d e => f71t7 N a f j g h i b c d e K) (by kernel_rfl)
theorem f71t31 N c a b d e (K : KT ρ) : z6v N (z6n 15) .n (zjk c a b d e) (z01 (some ze2) K) =
 z0g.Z31 N c a b d e (fun f a b => K .ret (f71s9 f a b)) := by kernel_rfl
def f71p4 : z0m := .mk (some zh2) none f71p5 .n
theorem f71t4 N c f g h i a b d e (K : KT ρ) : z6v N (z6n 7) f71p4 (f71s2 c f g h i a b d e) (z01 (some ze2) K) =
  z0g.Z4 N c f g h i a b d e (fun j a b => K .ret (f71s9 j a b)) :=
 z06 (fun k => z0g.Z5 N c f g h i a b d e k) (by kernel_rfl) (f71t5 N (K := z15 (fun σ => z6v N (z6n 15) .n σ (z01 (some ze2) K)) (z01 (some ze2) K)) ..) (fx5 fun c a b d e => f71t31 N c a b d e K) (by kernel_rfl)
def f71p2 : z0m := .mk (some f71l2) none .n f71p4
theorem f71t2 N c d e f a b (K : KT ρ) : z6v N (z6n 3) f71p2 (f71s1 c d e f a b) (z01 (some ze2) K) =
  z0g.Z2 N c d e f a b (fun g a b => K .ret (f71s9 g a b)) :=
 z06 (fun k => z0g.Z3 N c d e f a b k) (by kernel_rfl) (f71t3 N (K := z15 (fun σ => z6v N (z6n 7) f71p4 σ (z01 (some ze2) K)) (z01 (some ze2) K)) ..) (fx9 fun h c d e f a b i j => f71t4 N h c d e f a b i j K) (by kernel_rfl)
def f71p0 : z0m := .mk (some f71l1) none .n f71p2
theorem f71t0 N b a (K : KT ρ) : z6v N (z6n 1) f71p0 (f71s0 b a) (z01 (some ze2) K) =
  z0g.Z0 N b a (fun e c d => K .ret (f71s9 e c d)) :=
 z06 (fun k => z0g.Z1 N b a k) (by kernel_rfl) (f71t1 N (K := z15 (fun σ => z6v N (z6n 3) f71p2 σ (z01 (some ze2) K)) (z01 (some ze2) K)) ..) (fx6 fun a f g h c d => f71t2 N a f g h c d K) (by kernel_rfl)
theorem f71m (N : Nat) (a : MT) (b : Int) : z6v N (z6n 1) f71p0 (f71s0 a b) (z01 (some ze2) (z47 tab zlu Try.f71.results.toList)) = z0g.Z0 N a b (fun c d e => some ((), ((d, (e, c)), ()))) :=
 (f71t0 N a b (z47 tab zlu Try.f71.results.toList)).trans (by kernel_rfl)
theorem f71ok (h : z0g.Spec) : z0t Try.prog 71 e71 :=
 z0p (sig := zlu) (c := (z6n 1)) (pl := f71p0) (je := (some ze2)) (B := f71B) Try.func71 (by kernel_rfl) (by kernel_rfl) (by kernel_rfl) z3b f71GOk (by kernel_rfl) (by kernel_rfl) (by kernel_rfl) (by kernel_rfl) fun X hb hp => by
  obtain ⟨a, b, _⟩ := X
  obtain ⟨N, h⟩ := h a b hb.1 hp
  exact ⟨N, (f71m N a b).trans (h N (Nat.le_refl N))⟩
theorem e71ok : z0t Try.prog 71 e71 := f71ok z0g.ok
end Go.Fw
namespace Go.Fw
variable {ρ : Type}
open Go.Proofs
def zm6 : Sig := ⟨[⟨.pair (.int .i64) (.pair (.int .i64) (.sl 3 (.int .i64))), true, false⟩, ⟨.int .i64, false, false⟩], [⟨.pair (.int .i64) (.pair (.int .i64) (.sl 3 (.int .i64))), true, false⟩, ⟨.bool, false, false⟩]⟩
def e27 : z2y := ⟨zm6, none, fun X => ((), ((z1e.g X.1 X.2.1).1, ((z1e.g X.1 X.2.1).2, ())))⟩
def f27G : Gm := z6a (z6a (z6a z27 31 e31) 70 e70) 71 e71
theorem f27GOk : GOk Try.prog f27G := (((GOk.nil).add e31ok (by kernel_rfl)).add e70ok (by kernel_rfl)).add e71ok (by kernel_rfl)
def f27lE : z0d := ⟨[], [], [], [], []⟩
def f27s0 (a : MT) (b : Int) : St := z2p zm6.ps (a, (b, ()))
def f27s1 (a : LI) (b : Bool) (c d : Int) : St := z1i [(4, xb 4), (5, xB b)] [(4, (30, [yi c, yi d, .own 20000258]))] [(20000258, (⟨3, .int .i64, a, true, false⟩ : Row))]
def f27l1 : z0d := ⟨[4, 5], [4], [⟨⟨true, 4, 2⟩, 30000000, 3, .int .i64, true⟩], [], [(⟨true, 4, 2⟩, 20000258)]⟩
def f27B : Nat → Option z0d := z1g [(1000000, f27l1)]
abbrev f27i {ρ : Type} (N : Nat) (c : Code) (p : z0m) (σ : St) (K : KT ρ) : Option ρ := z1n f27G tab f27B N c p σ K
def f27c (n : Nat) : Code := z30 99 (z2a Try.f27) n
theorem f27t0 N a b (K : KT ρ) : f27i N (f27c 1) .n (f27s0 a b) (z01 (some f27lE) K) =
 z1e.Z0 N a b (fun c d e f => K .ret (f27s1 c d e f)) := by kernel_rfl
theorem f27m (N : Nat) (a : MT) (b : Int) : f27i N (f27c 1) .n (f27s0 a b) (z01 (some f27lE) (z47 tab zm6 Try.f27.results.toList)) = z1e.Z0 N a b (fun c d e f => some ((), ((e, (f, c)), (d, ())))) :=
 (f27t0 N a b (z47 tab zm6 Try.f27.results.toList)).trans (by kernel_rfl)
theorem f27ok (h : z1e.Spec) : z0t Try.prog 27 e27 :=
 z0p (sig := zm6) (c := (f27c 1)) (pl := .n) (je := (some f27lE)) (B := f27B) Try.func27 (by kernel_rfl) (by kernel_rfl) (by kernel_rfl) z3b f27GOk (by kernel_rfl) (by kernel_rfl) (by kernel_rfl) (by kernel_rfl) fun X hb hp => by
  obtain ⟨a, b, _⟩ := X
  obtain ⟨N, h⟩ := h a b hb.1
  exact ⟨N, (f27m N a b).trans (h N (Nat.le_refl N))⟩
theorem e27ok : z0t Try.prog 27 e27 := f27ok z1e.ok
end Go.Fw
namespace Go.Fw
variable {ρ : Type}
open Go.Proofs
def zvk : Sig := ⟨[⟨.sl 5 (.int .u8), false, false⟩], [⟨.bool, false, false⟩]⟩
def e7 : z2y := ⟨zvk, none, fun X => ((), ((z0e.g X.1), ()))⟩
def f7G : Gm := z6a (z6a (z6a (z6a (z6a (z6a z27 25 e25) 27 e27) 33 e33) 39 e39) 40 e40) 41 e41
theorem f7GOk : GOk Try.prog f7G := ((((((GOk.nil).add e25ok (by kernel_rfl)).add e27ok (by kernel_rfl)).add e33ok (by kernel_rfl)).add e39ok (by kernel_rfl)).add e40ok (by kernel_rfl)).add e41ok (by kernel_rfl)
def zeo : z0d := ⟨[], [], [], [], []⟩
def f7s0 (a : List Int) : St := z2p zvk.ps (a, ())
def f7s1 (a : List Int) : St := z1i [(0, .c (.sn 5 (.int .u8) a none))] [] []
def f7l1 : z0d := ⟨[0], [], [], [], []⟩
def f7s2 (a : LI) (b c : Int) : St := z1i [(3, xb 3)] [(3, (30, [yi b, yi c, .own 20000194]))] [(20000194, (⟨3, .int .i64, a, true, false⟩ : Row))]
def f7l2 : z0d := ⟨[3], [3], [], [], [(⟨true, 3, 2⟩, 20000194)]⟩
def f7s3 (a : LI) (b : Bool) (c d : Int) : St := z1i [(3, xb 3), (5, xB b)] [(3, (30, [yi c, yi d, .own 20000194]))] [(20000194, (⟨3, .int .i64, a, true, false⟩ : Row))]
def f7l3 : z0d := ⟨[3, 5], [3], [], [], [(⟨true, 3, 2⟩, 20000194)]⟩
def zjg (a : LI) (b c d : Int) : St := z1i [(3, xb 3), (6, xi b)] [(3, (30, [yi c, yi d, .own 20000194]))] [(20000194, (⟨3, .int .i64, a, true, false⟩ : Row))]
def zdz : z0d := ⟨[3, 6], [3], [], [], [(⟨true, 3, 2⟩, 20000194)]⟩
def zvl (a : LI) (b : Int) (c : Bool) (d e : Int) : St := z1i [(3, xb 3), (6, xi b), (7, xB c)] [(3, (30, [yi d, yi e, .own 20000194]))] [(20000194, (⟨3, .int .i64, a, true, false⟩ : Row))]
def zt2 : z0d := ⟨[3, 6, 7], [3], [], [], [(⟨true, 3, 2⟩, 20000194)]⟩
def f7s6 (a : LI) (b : Int) (c : Bool) (d e f : Int) : St := z1i [(3, xb 3), (6, xi b), (7, xB c), (8, xi d)] [(3, (30, [yi e, yi f, .own 20000194]))] [(20000194, (⟨3, .int .i64, a, true, false⟩ : Row))]
def f7l6 : z0d := ⟨[3, 6, 7, 8], [3], [], [], [(⟨true, 3, 2⟩, 20000194)]⟩
def f7s7  : St := z1i [] [] []
def f7l7 : z0d := ⟨[], [], [], [], []⟩
def zcz (a : Bool) : St := z1i [(2, xB a)] [] []
def f7l8 : z0d := ⟨[2], [], [], [], []⟩
def f7B : Nat → Option z0d := z1g [(2, zt2), (1, zdz), (0, f7l7), (1000000, f7l8)]
abbrev f7i {ρ : Type} (N : Nat) (c : Code) (p : z0m) (σ : St) (K : KT ρ) : Option ρ := z1n f7G tab f7B N c p σ K
def f7c (n : Nat) : Code := z30 99 (z2a Try.f7) n
theorem f7t1 N a (K : KT ρ) : f7i N (f7c 2) .n (f7s0 a) (z01 (some f7l1) K) =
 z0e.Z1 N a (fun a => K .nrm (f7s1 a)) := by kernel_rfl
theorem f7t3 N a (K : KT ρ) : f7i N (f7c 5) .n (f7s1 a) (z01 (some f7l1) K) =
 z0e.Z3 N a (fun a => K .nrm (f7s1 a)) (fun b => K .ret (zcz b)) := by kernel_rfl
theorem f7t5 N a (K : KT ρ) : f7i N (f7c 11) .n (f7s1 a) (z01 (some f7l2) K) =
 z0e.Z5 N a (fun b c d => K .nrm (f7s2 b c d)) := by kernel_rfl
theorem f7t7 N a b c (K : KT ρ) : f7i N (f7c 23) .n (f7s2 a b c) (z01 (some f7l3) K) =
 z0e.Z7 N a b c (fun a d b c => K .nrm (f7s3 a d b c)) := by kernel_rfl
theorem f7t9 N a b c d (K : KT ρ) : f7i N (f7c 47) .n (f7s3 a b c d) (z01 (some f7l3) K) =
 z0e.Z9 N a b c d (fun a b c d => K .nrm (f7s3 a b c d)) (fun e => K .ret (zcz e)) := by kernel_rfl
theorem f7t11 N a d b c (K : KT ρ) : f7i N (f7c 95) .n (f7s3 a d b c) (z01 (some f7l2) K) =
 z0e.Z11 N a d b c (fun a b c => K .nrm (f7s2 a b c)) (fun e => K .ret (zcz e)) := by kernel_rfl
theorem f7t14 N a b c (K : KT ρ) : f7i N (f7c 319) .n (f7s2 a b c) (z01 (some zdz) K) =
 z0e.Z14 N a b c (fun a d b c => K .nrm (zjg a d b c)) := by kernel_rfl
theorem f7t18 N a b c d (K : KT ρ) : f7i N (f7c 2239) .n (zjg a b c d) (z01 (some zdz) K) =
 z0e.Z18 N a b c d (fun a b c d => K .nrm (zjg a b c d)) (K (.exit 0) f7s7) := by kernel_rfl
theorem f7t22 N a b c d (K : KT ρ) : f7i N (f7c 17599) .n (zjg a b c d) (z01 (some zt2) K) =
 z0e.Z22 N a b c d (fun a b e c d => K .nrm (zvl a b e c d)) := by kernel_rfl
theorem f7t25 N a b c d e (K : KT ρ) : f7i N (f7c 74943) .n (zvl a b c d e) (z01 (some f7l6) K) =
 z0e.Z25 N a b c d e (fun a b c f d e => K .nrm (f7s6 a b c f d e)) := by kernel_rfl
theorem f7t28 N a b c f d e (K : KT ρ) : f7i N (f7c 304319) .n (f7s6 a b c f d e) (z01 (some f7l6) K) =
 z0e.Z28 N a b c f d e (fun a b c f d e => K .nrm (f7s6 a b c f d e)) (fun a b c d e => K (.exit 2) (zvl a b c d e)) := by kernel_rfl
def f7p27 : z0m := .mk none (some f7l6) .n .n
abbrev f7w27 {ρ : Type} (N M : Nat) (σ : St) (K : KT ρ) : Option ρ := z2h (fun σ K => f7i N (f7c 304319) .n σ K) f7l6 M σ K
theorem f7t27L {ρ : Type} (N : Nat) (K : KT ρ) : ∀ (M : Nat) (a : LI) (b : Int) (c : Bool) (f d e : Int), f7w27 N M (f7s6 a b c f d e) K =
 z0e.Z27L N (fun a b c d e => K (.exit 2) (zvl a b c d e)) M a b c f d e
 | 0, _, _, _, _, _, _ => rfl
 | M + 1, a, b, c, f, d, e => z0w (fun k => z0e.Z28 N a b c f d e k (fun a b c d e => K (.exit 2) (zvl a b c d e))) (f7t28 N (K := z15 (fun σ => f7w27 N M σ K) K) ..) (fx6 fun a b c f d e => f7t27L N K M a b c f d e) (by kernel_rfl)
theorem f7t27 N a b c f d e (K : KT ρ) : f7i N (f7c 173247) f7p27 (f7s6 a b c f d e) (z01 (some zt2) K) =
  z0e.Z27 N a b c f d e (fun a b c d e => K (.exit 2) (zvl a b c d e)) :=
 z18 (by kernel_rfl) (f7t27L N (z01 (some zt2) K) N a b c f d e) (by kernel_rfl)
def f7p26 : z0m := .mk (some zt2) none f7p27 .n
theorem f7t26 N a b c f d e (K : KT ρ) : f7i N (f7c 107711) f7p26 (f7s6 a b c f d e) (z01 (some zt2) K) =
  z0e.Z26 N a b c f d e (fun a b c d e => K .nrm (zvl a b c d e)) :=
 z0l (by kernel_rfl) (f7t27 N (K := z1c 2 (z01 (some zt2) K)) ..) (by kernel_rfl)
def f7p24 : z0m := .mk (some f7l6) none .n f7p26
theorem f7t24 N a b c d e (K : KT ρ) : f7i N (f7c 42175) f7p24 (zvl a b c d e) (z01 (some zt2) K) =
  z0e.Z24 N a b c d e (fun a b c d e => K .nrm (zvl a b c d e)) :=
 z06 (fun k => z0e.Z25 N a b c d e k) (by kernel_rfl) (f7t25 N (K := z15 (fun σ => f7i N (f7c 107711) f7p26 σ (z01 (some zt2) K)) (z01 (some zt2) K)) ..) (fx6 fun a b c f d e => f7t26 N a b c f d e K) (by kernel_rfl)
theorem f7t29 N a b e c d (K : KT ρ) : f7i N (f7c 58559) .n (zvl a b e c d) (z01 (some zdz) K) =
 z0e.Z29 N a b e c d (fun a b c d => K .nrm (zjg a b c d)) (fun f => K .ret (zcz f)) := by kernel_rfl
def f7p23 : z0m := .mk (some zt2) none f7p24 .n
theorem f7t23 N a b e c d (K : KT ρ) : f7i N (f7c 25791) f7p23 (zvl a b e c d) (z01 (some zdz) K) =
  z0e.Z23 N a b e c d (fun a b c d => K .nrm (zjg a b c d)) (fun f => K .ret (zcz f)) :=
 z06 (fun k => z0e.Z24 N a b e c d k) (by kernel_rfl) (f7t24 N (K := z15 (fun σ => f7i N (f7c 58559) .n σ (z01 (some zdz) K)) (z01 (some zdz) K)) ..) (fx5 fun a b e c d => f7t29 N a b e c d K) (by kernel_rfl)
def f7p21 : z0m := .mk (some zt2) none .n f7p23
theorem f7t21 N a b c d (K : KT ρ) : f7i N (f7c 9407) f7p21 (zjg a b c d) (z01 (some zdz) K) =
  z0e.Z21 N a b c d (fun a b c d => K .nrm (zjg a b c d)) (fun e => K .ret (zcz e)) :=
 z06 (fun k => z0e.Z22 N a b c d k) (by kernel_rfl) (f7t22 N (K := z15 (fun σ => f7i N (f7c 25791) f7p23 σ (z01 (some zdz) K)) (z01 (some zdz) K)) ..) (fx5 fun a b f c d => f7t23 N a b f c d K) (by kernel_rfl)
def f7p20 : z0m := .mk (some zdz) none f7p21 .n
theorem f7t20 N a b c d (K : KT ρ) : f7i N (f7c 5311) f7p20 (zjg a b c d) (z01 (some zdz) K) =
  z0e.Z20 N a b c d (fun a b c d => K .nrm (zjg a b c d)) (fun e => K .ret (zcz e)) :=
 z0l (by kernel_rfl) (f7t21 N (K := z1c 1 (z01 (some zdz) K)) ..) (by kernel_rfl)
theorem f7t30 N a b c d (K : KT ρ) : f7i N (f7c 7359) .n (zjg a b c d) (z01 (some zdz) K) =
 z0e.Z30 N a b c d (fun a b c d => K .nrm (zjg a b c d)) := by kernel_rfl
def f7p19 : z0m := .mk (some zdz) none f7p20 .n
theorem f7t19 N a b c d (K : KT ρ) : f7i N (f7c 3263) f7p19 (zjg a b c d) (z01 (some zdz) K) =
  z0e.Z19 N a b c d (fun a b c d => K .nrm (zjg a b c d)) (fun e => K .ret (zcz e)) :=
 z06 (fun k => z0e.Z20 N a b c d k (fun e => K .ret (zcz e))) (by kernel_rfl) (f7t20 N (K := z15 (fun σ => f7i N (f7c 7359) .n σ (z01 (some zdz) K)) (z01 (some zdz) K)) ..) (fx4 fun a b c d => f7t30 N a b c d K) (by kernel_rfl)
def f7p17 : z0m := .mk (some zdz) none .n f7p19
theorem f7t17 N a b c d (K : KT ρ) : f7i N (f7c 1215) f7p17 (zjg a b c d) (z01 (some zdz) K) =
  z0e.Z17 N a b c d (fun a b c d => K .nrm (zjg a b c d)) (K (.exit 0) f7s7) (fun e => K .ret (zcz e)) :=
 z06 (fun k => z0e.Z18 N a b c d k (K (.exit 0) f7s7)) (by kernel_rfl) (f7t18 N (K := z15 (fun σ => f7i N (f7c 3263) f7p19 σ (z01 (some zdz) K)) (z01 (some zdz) K)) ..) (fx4 fun a b c d => f7t19 N a b c d K) (by kernel_rfl)
def f7p16 : z0m := .mk none (some zdz) f7p17 .n
abbrev f7w16 {ρ : Type} (N M : Nat) (σ : St) (K : KT ρ) : Option ρ := z2h (fun σ K => f7i N (f7c 1215) f7p17 σ K) zdz M σ K
theorem f7t16L {ρ : Type} (N : Nat) (K : KT ρ) : ∀ (M : Nat) (a : LI) (b c d : Int), f7w16 N M (zjg a b c d) K =
 z0e.Z16L N (K (.exit 0) f7s7) (fun e => K .ret (zcz e)) M a b c d
 | 0, _, _, _, _ => rfl
 | M + 1, a, b, c, d => z0w (fun k => z0e.Z17 N a b c d k (K (.exit 0) f7s7) (fun e => K .ret (zcz e))) (f7t17 N (K := z15 (fun σ => f7w16 N M σ K) K) ..) (fx4 fun a b c d => f7t16L N K M a b c d) (by kernel_rfl)
theorem f7t16 N a b c d (K : KT ρ) : f7i N (f7c 703) f7p16 (zjg a b c d) (z01 (some f7l7) K) =
  z0e.Z16 N a b c d (K (.exit 0) f7s7) (fun e => K .ret (zcz e)) :=
 z18 (by kernel_rfl) (f7t16L N (z01 (some f7l7) K) N a b c d) (by kernel_rfl)
def f7p15 : z0m := .mk (some f7l7) none f7p16 .n
theorem f7t15 N a b c d (K : KT ρ) : f7i N (f7c 447) f7p15 (zjg a b c d) (z01 (some f7l7) K) =
  z0e.Z15 N a b c d (K .nrm f7s7) (fun e => K .ret (zcz e)) :=
 z0l (by kernel_rfl) (f7t16 N (K := z1c 0 (z01 (some f7l7) K)) ..) (by kernel_rfl)
def f7p13 : z0m := .mk (some zdz) none .n f7p15
theorem f7t13 N a b c (K : KT ρ) : f7i N (f7c 191) f7p13 (f7s2 a b c) (z01 (some f7l7) K) =
  z0e.Z13 N a b c (K .nrm f7s7) (fun d => K .ret (zcz d)) :=
 z06 (fun k => z0e.Z14 N a b c k) (by kernel_rfl) (f7t14 N (K := z15 (fun σ => f7i N (f7c 447) f7p15 σ (z01 (some f7l7) K)) (z01 (some f7l7) K)) ..) (fx4 fun a e b c => f7t15 N a e b c K) (by kernel_rfl)
theorem f7t31 N  (K : KT ρ) : f7i N (f7c 255) .n f7s7 (z01 (some zeo) K) =
 z0e.Z31 N (fun a => K .ret (zcz a)) := by kernel_rfl
def f7p12 : z0m := .mk (some f7l7) none f7p13 .n
theorem f7t12 N a b c (K : KT ρ) : f7i N (f7c 127) f7p12 (f7s2 a b c) (z01 (some zeo) K) =
  z0e.Z12 N a b c (fun d => K .ret (zcz d)) :=
 z06 (fun k => z0e.Z13 N a b c k (fun d => K .ret (zcz d))) (by kernel_rfl) (f7t13 N (K := z15 (fun σ => f7i N (f7c 255) .n σ (z01 (some zeo) K)) (z01 (some zeo) K)) ..) (f7t31 N K) (by kernel_rfl)
def f7p10 : z0m := .mk (some f7l2) none .n f7p12
theorem f7t10 N a d b c (K : KT ρ) : f7i N (f7c 63) f7p10 (f7s3 a d b c) (z01 (some zeo) K) =
  z0e.Z10 N a d b c (fun e => K .ret (zcz e)) :=
 z06 (fun k => z0e.Z11 N a d b c k (fun e => K .ret (zcz e))) (by kernel_rfl) (f7t11 N (K := z15 (fun σ => f7i N (f7c 127) f7p12 σ (z01 (some zeo) K)) (z01 (some zeo) K)) ..) (fx3 fun a b c => f7t12 N a b c K) (by kernel_rfl)
def f7p8 : z0m := .mk (some f7l3) none .n f7p10
theorem f7t8 N a b c d (K : KT ρ) : f7i N (f7c 31) f7p8 (f7s3 a b c d) (z01 (some zeo) K) =
  z0e.Z8 N a b c d (fun e => K .ret (zcz e)) :=
 z06 (fun k => z0e.Z9 N a b c d k (fun e => K .ret (zcz e))) (by kernel_rfl) (f7t9 N (K := z15 (fun σ => f7i N (f7c 63) f7p10 σ (z01 (some zeo) K)) (z01 (some zeo) K)) ..) (fx4 fun a b c d => f7t10 N a b c d K) (by kernel_rfl)
def f7p6 : z0m := .mk (some f7l3) none .n f7p8
theorem f7t6 N a b c (K : KT ρ) : f7i N (f7c 15) f7p6 (f7s2 a b c) (z01 (some zeo) K) =
  z0e.Z6 N a b c (fun d => K .ret (zcz d)) :=
 z06 (fun k => z0e.Z7 N a b c k) (by kernel_rfl) (f7t7 N (K := z15 (fun σ => f7i N (f7c 31) f7p8 σ (z01 (some zeo) K)) (z01 (some zeo) K)) ..) (fx4 fun a e b c => f7t8 N a e b c K) (by kernel_rfl)
def f7p4 : z0m := .mk (some f7l2) none .n f7p6
theorem f7t4 N a (K : KT ρ) : f7i N (f7c 7) f7p4 (f7s1 a) (z01 (some zeo) K) =
  z0e.Z4 N a (fun b => K .ret (zcz b)) :=
 z06 (fun k => z0e.Z5 N a k) (by kernel_rfl) (f7t5 N (K := z15 (fun σ => f7i N (f7c 15) f7p6 σ (z01 (some zeo) K)) (z01 (some zeo) K)) ..) (fx3 fun c d e => f7t6 N c d e K) (by kernel_rfl)
def f7p2 : z0m := .mk (some f7l1) none .n f7p4
theorem f7t2 N a (K : KT ρ) : f7i N (f7c 3) f7p2 (f7s1 a) (z01 (some zeo) K) =
  z0e.Z2 N a (fun b => K .ret (zcz b)) :=
 z06 (fun k => z0e.Z3 N a k (fun b => K .ret (zcz b))) (by kernel_rfl) (f7t3 N (K := z15 (fun σ => f7i N (f7c 7) f7p4 σ (z01 (some zeo) K)) (z01 (some zeo) K)) ..) (funext fun a => f7t4 N a K) (by kernel_rfl)
def f7p0 : z0m := .mk (some f7l1) none .n f7p2
theorem f7t0 N a (K : KT ρ) : f7i N (f7c 1) f7p0 (f7s0 a) (z01 (some zeo) K) =
  z0e.Z0 N a (fun b => K .ret (zcz b)) :=
 z06 (fun k => z0e.Z1 N a k) (by kernel_rfl) (f7t1 N (K := z15 (fun σ => f7i N (f7c 3) f7p2 σ (z01 (some zeo) K)) (z01 (some zeo) K)) ..) (funext fun a => f7t2 N a K) (by kernel_rfl)
theorem f7m (N : Nat) (a : List Int) : f7i N (f7c 1) f7p0 (f7s0 a) (z01 (some zeo) (z47 tab zvk Try.f7.results.toList)) = z0e.Z0 N a (fun b => some ((), (b, ()))) :=
 (f7t0 N a (z47 tab zvk Try.f7.results.toList)).trans (by kernel_rfl)
theorem f7ok (h : z0e.Spec) : z0t Try.prog 7 e7 :=
 z0p (sig := zvk) (c := (f7c 1)) (pl := f7p0) (je := (some zeo)) (B := f7B) Try.func7 (by kernel_rfl) (by kernel_rfl) (by kernel_rfl) z3b f7GOk (by kernel_rfl) (by kernel_rfl) (by kernel_rfl) (by kernel_rfl) fun X hb hp => by
  obtain ⟨a, _⟩ := X
  obtain ⟨N, h⟩ := h a hb.1
  exact ⟨N, (f7m N a).trans (h N (Nat.le_refl N))⟩
theorem e7ok : z0t Try.prog 7 e7 := f7ok z0e.ok
end Go.Fw
