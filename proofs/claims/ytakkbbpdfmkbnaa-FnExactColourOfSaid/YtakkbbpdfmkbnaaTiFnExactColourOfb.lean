/- The ties: the program's text comes to the plain functions. Nothing is assumed. -/
import Derived.Test.YtakkbbpdfmkbnaaPuFnExactColourOfa
import Derived.Test.YtakkbbpdfmkbnaaTiFnExactColourOfa
import Derived.Test.YtakkbbpdfmkbnaaPuFnExactColourOfb
set_option linter.unusedVariables false
set_option linter.unusedSimpArgs false
set_option maxRecDepth 100000
namespace Go.Fw
open Go.Proofs
/-! ### loop.example/g03115/impl.factors -/
noncomputable def f64sig : Sig := ⟨[⟨.pair (.int .i64) (.pair (.int .i64) (.sl 3 (.int .i64))), true, false⟩], [⟨.sl 3 (.int .i64), false, true⟩]⟩
noncomputable def e64 : Entry := ⟨f64sig, (some fun X => impl_factors.P X.1), fun X => ((), ((impl_factors.g X.1), ()))⟩
noncomputable def f64G : Nat → Option Entry := addG (addG (fun _ => none) 60 e60) 97 e97
theorem f64GOk : GOk Try.prog f64G := ((GOk.nil).add e60ok (by kernel_rfl)).add e97ok (by kernel_rfl)
noncomputable def f64lE : Clean := ⟨[], [], [], [], []⟩
noncomputable def f64s0 (m0 : Int × Int × List Int) : St := initSt f64sig.ps (m0, ())
noncomputable def f64s1 (m1_0 : Int) (m1_1 : Int) (m1_2 : List Int) : St := stOf [(1, .c (.box 1 0))] [(1, (26, [.int .i64 m1_0, .int .i64 m1_1, .sn 3 (.int .i64) m1_2 none]))] []
noncomputable def f64l1 : Clean := ⟨[1], [1], [], [], []⟩
noncomputable def f64s2 (num3 : List Int) (den4 : List Int) (m1_0 : Int) (m1_1 : Int) (m1_2 : List Int) : St := stOf [(1, .c (.box 1 0)), (3, .c (.own 1000192)), (4, .c (.own 1000256))] [(1, (26, [.int .i64 m1_0, .int .i64 m1_1, .sn 3 (.int .i64) m1_2 none]))] [(1000192, (⟨3, .int .i64, num3, true, false⟩ : Row)), (1000256, (⟨3, .int .i64, den4, true, false⟩ : Row))]
noncomputable def f64l2 : Clean := ⟨[1, 3, 4], [1], [], [], [(⟨false, 3, 0⟩, 1000192), (⟨false, 4, 0⟩, 1000256)]⟩
noncomputable def f64s3 (num3 : List Int) (den4 : List Int) (out5 : List Int) (m1_0 : Int) (m1_1 : Int) (m1_2 : List Int) : St := stOf [(1, .c (.box 1 0)), (3, .c (.own 1000192)), (4, .c (.own 1000256)), (5, .c (.own 1000320))] [(1, (26, [.int .i64 m1_0, .int .i64 m1_1, .sn 3 (.int .i64) m1_2 none]))] [(1000192, (⟨3, .int .i64, num3, true, false⟩ : Row)), (1000256, (⟨3, .int .i64, den4, true, false⟩ : Row)), (1000320, (⟨3, .int .i64, out5, true, false⟩ : Row))]
noncomputable def f64l3 : Clean := ⟨[1, 3, 4, 5], [1], [], [], [(⟨false, 3, 0⟩, 1000192), (⟨false, 4, 0⟩, 1000256), (⟨false, 5, 0⟩, 1000320)]⟩
noncomputable def f64s4 (num3 : List Int) (den4 : List Int) (out5 : List Int) (t34 : Int) (t35 : Int) (m1_0 : Int) (m1_1 : Int) (m1_2 : List Int) : St := stOf [(1, .c (.box 1 0)), (3, .c (.own 1000192)), (4, .c (.own 1000256)), (5, .c (.own 1000320)), (34, .c (.int .i64 t34)), (35, .c (.int .i64 t35))] [(1, (26, [.int .i64 m1_0, .int .i64 m1_1, .sn 3 (.int .i64) m1_2 none]))] [(1000192, (⟨3, .int .i64, num3, true, false⟩ : Row)), (1000256, (⟨3, .int .i64, den4, true, false⟩ : Row)), (1000320, (⟨3, .int .i64, out5, true, false⟩ : Row))]
noncomputable def f64l4 : Clean := ⟨[1, 3, 4, 5, 34, 35], [1], [], [], [(⟨false, 3, 0⟩, 1000192), (⟨false, 4, 0⟩, 1000256), (⟨false, 5, 0⟩, 1000320)]⟩
noncomputable def f64s5 (num3 : List Int) (den4 : List Int) (out5 : List Int) (t34 : Int) (t35 : Int) (t36 : Bool) (m1_0 : Int) (m1_1 : Int) (m1_2 : List Int) : St := stOf [(1, .c (.box 1 0)), (3, .c (.own 1000192)), (4, .c (.own 1000256)), (5, .c (.own 1000320)), (34, .c (.int .i64 t34)), (35, .c (.int .i64 t35)), (36, .c (.bool t36))] [(1, (26, [.int .i64 m1_0, .int .i64 m1_1, .sn 3 (.int .i64) m1_2 none]))] [(1000192, (⟨3, .int .i64, num3, true, false⟩ : Row)), (1000256, (⟨3, .int .i64, den4, true, false⟩ : Row)), (1000320, (⟨3, .int .i64, out5, true, false⟩ : Row))]
noncomputable def f64l5 : Clean := ⟨[1, 3, 4, 5, 34, 35, 36], [1], [], [], [(⟨false, 3, 0⟩, 1000192), (⟨false, 4, 0⟩, 1000256), (⟨false, 5, 0⟩, 1000320)]⟩
noncomputable def f64s6 (num3 : List Int) (den4 : List Int) (out5 : List Int) (s6 : Int) (t34 : Int) (t35 : Int) (m1_0 : Int) (m1_1 : Int) (m1_2 : List Int) : St := stOf [(1, .c (.box 1 0)), (3, .c (.own 1000192)), (4, .c (.own 1000256)), (5, .c (.own 1000320)), (6, .c (.int .i64 s6)), (34, .c (.int .i64 t34)), (35, .c (.int .i64 t35))] [(1, (26, [.int .i64 m1_0, .int .i64 m1_1, .sn 3 (.int .i64) m1_2 none]))] [(1000192, (⟨3, .int .i64, num3, true, false⟩ : Row)), (1000256, (⟨3, .int .i64, den4, true, false⟩ : Row)), (1000320, (⟨3, .int .i64, out5, true, false⟩ : Row))]
noncomputable def f64l6 : Clean := ⟨[1, 3, 4, 5, 6, 34, 35], [1], [], [], [(⟨false, 3, 0⟩, 1000192), (⟨false, 4, 0⟩, 1000256), (⟨false, 5, 0⟩, 1000320)]⟩
noncomputable def f64s7 (num3 : List Int) (den4 : List Int) (out5 : List Int) (piece7 : List Int) (t34 : Int) (t35 : Int) (m1_0 : Int) (m1_1 : Int) (m1_2 : List Int) : St := stOf [(1, .c (.box 1 0)), (3, .c (.own 1000192)), (4, .c (.own 1000256)), (5, .c (.own 1000320)), (7, .c (.own 1000448)), (34, .c (.int .i64 t34)), (35, .c (.int .i64 t35))] [(1, (26, [.int .i64 m1_0, .int .i64 m1_1, .sn 3 (.int .i64) m1_2 none]))] [(1000192, (⟨3, .int .i64, num3, true, false⟩ : Row)), (1000256, (⟨3, .int .i64, den4, true, false⟩ : Row)), (1000320, (⟨3, .int .i64, out5, true, false⟩ : Row)), (1000448, (⟨3, .int .i64, piece7, true, false⟩ : Row))]
noncomputable def f64l7 : Clean := ⟨[1, 3, 4, 5, 7, 34, 35], [1], [], [], [(⟨false, 3, 0⟩, 1000192), (⟨false, 4, 0⟩, 1000256), (⟨false, 5, 0⟩, 1000320), (⟨false, 7, 0⟩, 1000448)]⟩
noncomputable def f64s8 (num3 : List Int) (den4 : List Int) (out5 : List Int) (piece7 : List Int) (at8 : Int) (t34 : Int) (t35 : Int) (m1_0 : Int) (m1_1 : Int) (m1_2 : List Int) : St := stOf [(1, .c (.box 1 0)), (3, .c (.own 1000192)), (4, .c (.own 1000256)), (5, .c (.own 1000320)), (7, .c (.own 1000448)), (8, .c (.int .i64 at8)), (34, .c (.int .i64 t34)), (35, .c (.int .i64 t35))] [(1, (26, [.int .i64 m1_0, .int .i64 m1_1, .sn 3 (.int .i64) m1_2 none]))] [(1000192, (⟨3, .int .i64, num3, true, false⟩ : Row)), (1000256, (⟨3, .int .i64, den4, true, false⟩ : Row)), (1000320, (⟨3, .int .i64, out5, true, false⟩ : Row)), (1000448, (⟨3, .int .i64, piece7, true, false⟩ : Row))]
noncomputable def f64l8 : Clean := ⟨[1, 3, 4, 5, 7, 8, 34, 35], [1], [], [], [(⟨false, 3, 0⟩, 1000192), (⟨false, 4, 0⟩, 1000256), (⟨false, 5, 0⟩, 1000320), (⟨false, 7, 0⟩, 1000448)]⟩
noncomputable def f64s9 (num3 : List Int) (den4 : List Int) (out5 : List Int) (piece7 : List Int) (at8 : Int) (i9 : Int) (t34 : Int) (t35 : Int) (m1_0 : Int) (m1_1 : Int) (m1_2 : List Int) : St := stOf [(1, .c (.box 1 0)), (3, .c (.own 1000192)), (4, .c (.own 1000256)), (5, .c (.own 1000320)), (7, .c (.own 1000448)), (8, .c (.int .i64 at8)), (9, .c (.int .i64 i9)), (34, .c (.int .i64 t34)), (35, .c (.int .i64 t35))] [(1, (26, [.int .i64 m1_0, .int .i64 m1_1, .sn 3 (.int .i64) m1_2 none]))] [(1000192, (⟨3, .int .i64, num3, true, false⟩ : Row)), (1000256, (⟨3, .int .i64, den4, true, false⟩ : Row)), (1000320, (⟨3, .int .i64, out5, true, false⟩ : Row)), (1000448, (⟨3, .int .i64, piece7, true, false⟩ : Row))]
noncomputable def f64l9 : Clean := ⟨[1, 3, 4, 5, 7, 8, 9, 34, 35], [1], [], [], [(⟨false, 3, 0⟩, 1000192), (⟨false, 4, 0⟩, 1000256), (⟨false, 5, 0⟩, 1000320), (⟨false, 7, 0⟩, 1000448)]⟩
noncomputable def f64s10 (num3 : List Int) (den4 : List Int) (out5 : List Int) (piece7 : List Int) (at8 : Int) (i9 : Int) (t34 : Int) (t35 : Int) (t62 : Int) (t63 : Int) (m1_0 : Int) (m1_1 : Int) (m1_2 : List Int) : St := stOf [(1, .c (.box 1 0)), (3, .c (.own 1000192)), (4, .c (.own 1000256)), (5, .c (.own 1000320)), (7, .c (.own 1000448)), (8, .c (.int .i64 at8)), (9, .c (.int .i64 i9)), (34, .c (.int .i64 t34)), (35, .c (.int .i64 t35)), (62, .c (.int .i64 t62)), (63, .c (.int .i64 t63))] [(1, (26, [.int .i64 m1_0, .int .i64 m1_1, .sn 3 (.int .i64) m1_2 none]))] [(1000192, (⟨3, .int .i64, num3, true, false⟩ : Row)), (1000256, (⟨3, .int .i64, den4, true, false⟩ : Row)), (1000320, (⟨3, .int .i64, out5, true, false⟩ : Row)), (1000448, (⟨3, .int .i64, piece7, true, false⟩ : Row))]
noncomputable def f64l10 : Clean := ⟨[1, 3, 4, 5, 7, 8, 9, 34, 35, 62, 63], [1], [], [], [(⟨false, 3, 0⟩, 1000192), (⟨false, 4, 0⟩, 1000256), (⟨false, 5, 0⟩, 1000320), (⟨false, 7, 0⟩, 1000448)]⟩
noncomputable def f64s11 (num3 : List Int) (den4 : List Int) (out5 : List Int) (piece7 : List Int) (at8 : Int) (i9 : Int) (t34 : Int) (t35 : Int) (t62 : Int) (t63 : Int) (t64 : Bool) (m1_0 : Int) (m1_1 : Int) (m1_2 : List Int) : St := stOf [(1, .c (.box 1 0)), (3, .c (.own 1000192)), (4, .c (.own 1000256)), (5, .c (.own 1000320)), (7, .c (.own 1000448)), (8, .c (.int .i64 at8)), (9, .c (.int .i64 i9)), (34, .c (.int .i64 t34)), (35, .c (.int .i64 t35)), (62, .c (.int .i64 t62)), (63, .c (.int .i64 t63)), (64, .c (.bool t64))] [(1, (26, [.int .i64 m1_0, .int .i64 m1_1, .sn 3 (.int .i64) m1_2 none]))] [(1000192, (⟨3, .int .i64, num3, true, false⟩ : Row)), (1000256, (⟨3, .int .i64, den4, true, false⟩ : Row)), (1000320, (⟨3, .int .i64, out5, true, false⟩ : Row)), (1000448, (⟨3, .int .i64, piece7, true, false⟩ : Row))]
noncomputable def f64l11 : Clean := ⟨[1, 3, 4, 5, 7, 8, 9, 34, 35, 62, 63, 64], [1], [], [], [(⟨false, 3, 0⟩, 1000192), (⟨false, 4, 0⟩, 1000256), (⟨false, 5, 0⟩, 1000320), (⟨false, 7, 0⟩, 1000448)]⟩
noncomputable def f64s12 (num3 : List Int) (den4 : List Int) (out5 : List Int) (piece7 : List Int) (at8 : Int) (i9 : Int) (j10 : Int) (t34 : Int) (t35 : Int) (t62 : Int) (t63 : Int) (m1_0 : Int) (m1_1 : Int) (m1_2 : List Int) : St := stOf [(1, .c (.box 1 0)), (3, .c (.own 1000192)), (4, .c (.own 1000256)), (5, .c (.own 1000320)), (7, .c (.own 1000448)), (8, .c (.int .i64 at8)), (9, .c (.int .i64 i9)), (10, .c (.int .i64 j10)), (34, .c (.int .i64 t34)), (35, .c (.int .i64 t35)), (62, .c (.int .i64 t62)), (63, .c (.int .i64 t63))] [(1, (26, [.int .i64 m1_0, .int .i64 m1_1, .sn 3 (.int .i64) m1_2 none]))] [(1000192, (⟨3, .int .i64, num3, true, false⟩ : Row)), (1000256, (⟨3, .int .i64, den4, true, false⟩ : Row)), (1000320, (⟨3, .int .i64, out5, true, false⟩ : Row)), (1000448, (⟨3, .int .i64, piece7, true, false⟩ : Row))]
noncomputable def f64l12 : Clean := ⟨[1, 3, 4, 5, 7, 8, 9, 10, 34, 35, 62, 63], [1], [], [], [(⟨false, 3, 0⟩, 1000192), (⟨false, 4, 0⟩, 1000256), (⟨false, 5, 0⟩, 1000320), (⟨false, 7, 0⟩, 1000448)]⟩
noncomputable def f64s13 (num3 : List Int) (den4 : List Int) (out5 : List Int) (piece7 : List Int) (at8 : Int) (i9 : Int) (j10 : Int) (p11 : Int) (q12 : Int) (t34 : Int) (t35 : Int) (t62 : Int) (t63 : Int) (m1_0 : Int) (m1_1 : Int) (m1_2 : List Int) : St := stOf [(1, .c (.box 1 0)), (3, .c (.own 1000192)), (4, .c (.own 1000256)), (5, .c (.own 1000320)), (7, .c (.own 1000448)), (8, .c (.int .i64 at8)), (9, .c (.int .i64 i9)), (10, .c (.int .i64 j10)), (11, .c (.int .i64 p11)), (12, .c (.int .i64 q12)), (34, .c (.int .i64 t34)), (35, .c (.int .i64 t35)), (62, .c (.int .i64 t62)), (63, .c (.int .i64 t63))] [(1, (26, [.int .i64 m1_0, .int .i64 m1_1, .sn 3 (.int .i64) m1_2 none]))] [(1000192, (⟨3, .int .i64, num3, true, false⟩ : Row)), (1000256, (⟨3, .int .i64, den4, true, false⟩ : Row)), (1000320, (⟨3, .int .i64, out5, true, false⟩ : Row)), (1000448, (⟨3, .int .i64, piece7, true, false⟩ : Row))]
noncomputable def f64l13 : Clean := ⟨[1, 3, 4, 5, 7, 8, 9, 10, 11, 12, 34, 35, 62, 63], [1], [], [], [(⟨false, 3, 0⟩, 1000192), (⟨false, 4, 0⟩, 1000256), (⟨false, 5, 0⟩, 1000320), (⟨false, 7, 0⟩, 1000448)]⟩
noncomputable def f64s14 (num3 : List Int) (den4 : List Int) (out5 : List Int) (piece7 : List Int) (common16 : Int) (t34 : Int) (t35 : Int) (m1_0 : Int) (m1_1 : Int) (m1_2 : List Int) : St := stOf [(1, .c (.box 1 0)), (3, .c (.own 1000192)), (4, .c (.own 1000256)), (5, .c (.own 1000320)), (7, .c (.own 1000448)), (16, .c (.int .i64 common16)), (34, .c (.int .i64 t34)), (35, .c (.int .i64 t35))] [(1, (26, [.int .i64 m1_0, .int .i64 m1_1, .sn 3 (.int .i64) m1_2 none]))] [(1000192, (⟨3, .int .i64, num3, true, false⟩ : Row)), (1000256, (⟨3, .int .i64, den4, true, false⟩ : Row)), (1000320, (⟨3, .int .i64, out5, true, false⟩ : Row)), (1000448, (⟨3, .int .i64, piece7, true, false⟩ : Row))]
noncomputable def f64l14 : Clean := ⟨[1, 3, 4, 5, 7, 16, 34, 35], [1], [], [], [(⟨false, 3, 0⟩, 1000192), (⟨false, 4, 0⟩, 1000256), (⟨false, 5, 0⟩, 1000320), (⟨false, 7, 0⟩, 1000448)]⟩
noncomputable def f64s15 (num3 : List Int) (den4 : List Int) (out5 : List Int) (piece7 : List Int) (common16 : Int) (t34 : Int) (t35 : Int) (t159 : Int) (t160 : Int) (m1_0 : Int) (m1_1 : Int) (m1_2 : List Int) : St := stOf [(1, .c (.box 1 0)), (3, .c (.own 1000192)), (4, .c (.own 1000256)), (5, .c (.own 1000320)), (7, .c (.own 1000448)), (16, .c (.int .i64 common16)), (34, .c (.int .i64 t34)), (35, .c (.int .i64 t35)), (158, .c (.own 1000448)), (159, .c (.int .i64 t159)), (160, .c (.int .i64 t160))] [(1, (26, [.int .i64 m1_0, .int .i64 m1_1, .sn 3 (.int .i64) m1_2 none]))] [(1000192, (⟨3, .int .i64, num3, true, false⟩ : Row)), (1000256, (⟨3, .int .i64, den4, true, false⟩ : Row)), (1000320, (⟨3, .int .i64, out5, true, false⟩ : Row)), (1000448, (⟨3, .int .i64, piece7, true, false⟩ : Row))]
noncomputable def f64l15 : Clean := ⟨[1, 3, 4, 5, 7, 16, 34, 35, 158, 159, 160], [1], [], [], [(⟨false, 3, 0⟩, 1000192), (⟨false, 4, 0⟩, 1000256), (⟨false, 5, 0⟩, 1000320), (⟨false, 7, 0⟩, 1000448)]⟩
noncomputable def f64s16 (num3 : List Int) (den4 : List Int) (out5 : List Int) (piece7 : List Int) (common16 : Int) (g19 : Int) (t34 : Int) (t35 : Int) (m1_0 : Int) (m1_1 : Int) (m1_2 : List Int) : St := stOf [(1, .c (.box 1 0)), (3, .c (.own 1000192)), (4, .c (.own 1000256)), (5, .c (.own 1000320)), (7, .c (.own 1000448)), (16, .c (.int .i64 common16)), (19, .c (.int .i64 g19)), (34, .c (.int .i64 t34)), (35, .c (.int .i64 t35))] [(1, (26, [.int .i64 m1_0, .int .i64 m1_1, .sn 3 (.int .i64) m1_2 none]))] [(1000192, (⟨3, .int .i64, num3, true, false⟩ : Row)), (1000256, (⟨3, .int .i64, den4, true, false⟩ : Row)), (1000320, (⟨3, .int .i64, out5, true, false⟩ : Row)), (1000448, (⟨3, .int .i64, piece7, true, false⟩ : Row))]
noncomputable def f64l16 : Clean := ⟨[1, 3, 4, 5, 7, 16, 19, 34, 35], [1], [], [], [(⟨false, 3, 0⟩, 1000192), (⟨false, 4, 0⟩, 1000256), (⟨false, 5, 0⟩, 1000320), (⟨false, 7, 0⟩, 1000448)]⟩
noncomputable def f64s17 (num3 : List Int) (den4 : List Int) (out5 : List Int) (piece7 : List Int) (common16 : Int) (g19 : Int) (t34 : Int) (t35 : Int) (t179 : Int) (t180 : Int) (m1_0 : Int) (m1_1 : Int) (m1_2 : List Int) : St := stOf [(1, .c (.box 1 0)), (3, .c (.own 1000192)), (4, .c (.own 1000256)), (5, .c (.own 1000320)), (7, .c (.own 1000448)), (16, .c (.int .i64 common16)), (19, .c (.int .i64 g19)), (34, .c (.int .i64 t34)), (35, .c (.int .i64 t35)), (178, .c (.own 1000448)), (179, .c (.int .i64 t179)), (180, .c (.int .i64 t180))] [(1, (26, [.int .i64 m1_0, .int .i64 m1_1, .sn 3 (.int .i64) m1_2 none]))] [(1000192, (⟨3, .int .i64, num3, true, false⟩ : Row)), (1000256, (⟨3, .int .i64, den4, true, false⟩ : Row)), (1000320, (⟨3, .int .i64, out5, true, false⟩ : Row)), (1000448, (⟨3, .int .i64, piece7, true, false⟩ : Row))]
noncomputable def f64l17 : Clean := ⟨[1, 3, 4, 5, 7, 16, 19, 34, 35, 178, 179, 180], [1], [], [], [(⟨false, 3, 0⟩, 1000192), (⟨false, 4, 0⟩, 1000256), (⟨false, 5, 0⟩, 1000320), (⟨false, 7, 0⟩, 1000448)]⟩
noncomputable def f64s18 (num3 : List Int) (den4 : List Int) (out5 : List Int) (piece7 : List Int) (g19 : Int) (t34 : Int) (t35 : Int) (m1_0 : Int) (m1_1 : Int) (m1_2 : List Int) : St := stOf [(1, .c (.box 1 0)), (3, .c (.own 1000192)), (4, .c (.own 1000256)), (5, .c (.own 1000320)), (7, .c (.own 1000448)), (19, .c (.int .i64 g19)), (34, .c (.int .i64 t34)), (35, .c (.int .i64 t35))] [(1, (26, [.int .i64 m1_0, .int .i64 m1_1, .sn 3 (.int .i64) m1_2 none]))] [(1000192, (⟨3, .int .i64, num3, true, false⟩ : Row)), (1000256, (⟨3, .int .i64, den4, true, false⟩ : Row)), (1000320, (⟨3, .int .i64, out5, true, false⟩ : Row)), (1000448, (⟨3, .int .i64, piece7, true, false⟩ : Row))]
noncomputable def f64l18 : Clean := ⟨[1, 3, 4, 5, 7, 19, 34, 35], [1], [], [], [(⟨false, 3, 0⟩, 1000192), (⟨false, 4, 0⟩, 1000256), (⟨false, 5, 0⟩, 1000320), (⟨false, 7, 0⟩, 1000448)]⟩
noncomputable def f64s19 (num3 : List Int) (den4 : List Int) (out5 : List Int) (t205 : List Int) (g19 : Int) (t34 : Int) (t35 : Int) (t206 : Int) (t207 : Int) (m1_0 : Int) (m1_1 : Int) (m1_2 : List Int) : St := stOf [(1, .c (.box 1 0)), (3, .c (.own 1000192)), (4, .c (.own 1000256)), (5, .c (.own 1000320)), (19, .c (.int .i64 g19)), (34, .c (.int .i64 t34)), (35, .c (.int .i64 t35)), (205, .c (.own 1013120)), (206, .c (.int .i64 t206)), (207, .c (.int .i64 t207))] [(1, (26, [.int .i64 m1_0, .int .i64 m1_1, .sn 3 (.int .i64) m1_2 none]))] [(1000192, (⟨3, .int .i64, num3, true, false⟩ : Row)), (1000256, (⟨3, .int .i64, den4, true, false⟩ : Row)), (1000320, (⟨3, .int .i64, out5, true, false⟩ : Row)), (1013120, (⟨3, .int .i64, t205, true, false⟩ : Row))]
noncomputable def f64l19 : Clean := ⟨[1, 3, 4, 5, 19, 34, 35, 205, 206, 207], [1], [], [], [(⟨false, 3, 0⟩, 1000192), (⟨false, 4, 0⟩, 1000256), (⟨false, 5, 0⟩, 1000320), (⟨false, 205, 0⟩, 1013120)]⟩
noncomputable def f64s20 (out5 : List Int) : St := stOf [(5, .c (.own 1000320))] [] [(1000320, (⟨3, .int .i64, out5, true, false⟩ : Row))]
noncomputable def f64l20 : Clean := ⟨[5], [], [], [], [(⟨false, 5, 0⟩, 1000320)]⟩
noncomputable def f64s21 (t2 : List Int) : St := stOf [(2, .c (.own 1001000128))] [] [(1001000128, (⟨3, .int .i64, t2, true, true⟩ : Row))]
noncomputable def f64l21 : Clean := ⟨[2], [], [⟨⟨false, 2, 0⟩, 30000000, 3, .int .i64, true⟩], [], [(⟨false, 2, 0⟩, 1001000128)]⟩
noncomputable def f64B : Nat → Option Clean := lookL [(5, f64l10), (4, f64l8), (3, f64l8), (2, f64l7), (6, f64l14), (8, f64l18), (10, f64l4), (1, f64l4), (0, f64l20), (1000000, f64l21)]
noncomputable abbrev f64i {ρ : Type} (N : Nat) (c : Code) (p : Plan) (σ : St) (K : KT ρ) : Option ρ := iCode f64G tab f64B N c p σ K
noncomputable def f64c1 := codeAt (bodyOf Try.f64) [0]
theorem f64t1 {ρ : Type} (N : Nat) (m0 : Int × Int × List Int) (K : KT ρ) : f64i N f64c1 .n (f64s0 m0) (joinK (some f64l1) K) =
  impl_factors.Z1 N m0 (fun m1_0 m1_1 m1_2 => K .nrm (f64s1 m1_0 m1_1 m1_2)) := by kernel_rfl
noncomputable def f64c3 := codeAt (bodyOf Try.f64) [1,0]
theorem f64t3 {ρ : Type} (N : Nat) (m1_0 : Int) (m1_1 : Int) (m1_2 : List Int) (K : KT ρ) : f64i N f64c3 .n (f64s1 m1_0 m1_1 m1_2) (joinK (some f64l2) K) =
  impl_factors.Z3 N m1_0 m1_1 m1_2 (fun num3 den4 m1_0 m1_1 m1_2 => K .nrm (f64s2 num3 den4 m1_0 m1_1 m1_2)) := by kernel_rfl
noncomputable def f64c5 := codeAt (bodyOf Try.f64) [1,1,0]
theorem f64t5 {ρ : Type} (N : Nat) (num3 : List Int) (den4 : List Int) (m1_0 : Int) (m1_1 : Int) (m1_2 : List Int) (K : KT ρ) : f64i N f64c5 .n (f64s2 num3 den4 m1_0 m1_1 m1_2) (joinK (some f64l3) K) =
  impl_factors.Z5 N num3 den4 m1_0 m1_1 m1_2 (fun num3 den4 out5 m1_0 m1_1 m1_2 => K .nrm (f64s3 num3 den4 out5 m1_0 m1_1 m1_2)) := by kernel_rfl
noncomputable def f64c8 := codeAt (bodyOf Try.f64) [1,1,1,0,0]
theorem f64t8 {ρ : Type} (N : Nat) (num3 : List Int) (den4 : List Int) (out5 : List Int) (m1_0 : Int) (m1_1 : Int) (m1_2 : List Int) (K : KT ρ) : f64i N f64c8 .n (f64s3 num3 den4 out5 m1_0 m1_1 m1_2) (joinK (some f64l4) K) =
  impl_factors.Z8 N num3 den4 out5 m1_0 m1_1 m1_2 (fun num3 den4 out5 t34 t35 m1_0 m1_1 m1_2 => K .nrm (f64s4 num3 den4 out5 t34 t35 m1_0 m1_1 m1_2)) := by kernel_rfl
noncomputable def f64c12 := codeAt (bodyOf Try.f64) [1,1,1,0,1,0,0,0]
theorem f64t12 {ρ : Type} (N : Nat) (num3 : List Int) (den4 : List Int) (out5 : List Int) (t34 : Int) (t35 : Int) (m1_0 : Int) (m1_1 : Int) (m1_2 : List Int) (K : KT ρ) : f64i N f64c12 .n (f64s4 num3 den4 out5 t34 t35 m1_0 m1_1 m1_2) (joinK (some f64l5) K) =
  impl_factors.Z12 N num3 den4 out5 t34 t35 m1_0 m1_1 m1_2 (fun num3 den4 out5 t34 t35 t36 m1_0 m1_1 m1_2 => K .nrm (f64s5 num3 den4 out5 t34 t35 t36 m1_0 m1_1 m1_2)) := by kernel_rfl
noncomputable def f64c14 := codeAt (bodyOf Try.f64) [1,1,1,0,1,0,0,1,0]
theorem f64t14 {ρ : Type} (N : Nat) (num3 : List Int) (den4 : List Int) (out5 : List Int) (t34 : Int) (t35 : Int) (t36 : Bool) (m1_0 : Int) (m1_1 : Int) (m1_2 : List Int) (K : KT ρ) : f64i N f64c14 .n (f64s5 num3 den4 out5 t34 t35 t36 m1_0 m1_1 m1_2) (joinK (some f64l4) K) =
  impl_factors.Z14 N num3 den4 out5 t34 t35 t36 m1_0 m1_1 m1_2 (fun num3 den4 out5 t34 t35 m1_0 m1_1 m1_2 => K .nrm (f64s4 num3 den4 out5 t34 t35 m1_0 m1_1 m1_2)) (fun out5 => K (.exit 0) (f64s20 out5)) := by kernel_rfl
noncomputable def f64c18 := codeAt (bodyOf Try.f64) [1,1,1,0,1,0,0,1,1,0,0,0]
theorem f64t18 {ρ : Type} (N : Nat) (num3 : List Int) (den4 : List Int) (out5 : List Int) (t34 : Int) (t35 : Int) (m1_0 : Int) (m1_1 : Int) (m1_2 : List Int) (K : KT ρ) : f64i N f64c18 .n (f64s4 num3 den4 out5 t34 t35 m1_0 m1_1 m1_2) (joinK (some f64l6) K) =
  impl_factors.Z18 N num3 den4 out5 t34 t35 m1_0 m1_1 m1_2 (fun num3 den4 out5 s6 t34 t35 m1_0 m1_1 m1_2 => K .nrm (f64s6 num3 den4 out5 s6 t34 t35 m1_0 m1_1 m1_2)) := by kernel_rfl
noncomputable def f64c20 := codeAt (bodyOf Try.f64) [1,1,1,0,1,0,0,1,1,0,0,1,0]
theorem f64t20 {ρ : Type} (N : Nat) (num3 : List Int) (den4 : List Int) (out5 : List Int) (s6 : Int) (t34 : Int) (t35 : Int) (m1_0 : Int) (m1_1 : Int) (m1_2 : List Int) (K : KT ρ) : f64i N f64c20 .n (f64s6 num3 den4 out5 s6 t34 t35 m1_0 m1_1 m1_2) (joinK (some f64l6) K) =
  impl_factors.Z20 N num3 den4 out5 s6 t34 t35 m1_0 m1_1 m1_2 (fun num3 den4 out5 s6 t34 t35 m1_0 m1_1 m1_2 => K .nrm (f64s6 num3 den4 out5 s6 t34 t35 m1_0 m1_1 m1_2)) (fun num3 den4 out5 t34 t35 m1_0 m1_1 m1_2 => K (.exit 1) (f64s4 num3 den4 out5 t34 t35 m1_0 m1_1 m1_2)) := by kernel_rfl
noncomputable def f64c22 := codeAt (bodyOf Try.f64) [1,1,1,0,1,0,0,1,1,0,0,1,1,0]
theorem f64t22 {ρ : Type} (N : Nat) (num3 : List Int) (den4 : List Int) (out5 : List Int) (s6 : Int) (t34 : Int) (t35 : Int) (m1_0 : Int) (m1_1 : Int) (m1_2 : List Int) (K : KT ρ) : f64i N f64c22 .n (f64s6 num3 den4 out5 s6 t34 t35 m1_0 m1_1 m1_2) (joinK (some f64l6) K) =
  impl_factors.Z22 N num3 den4 out5 s6 t34 t35 m1_0 m1_1 m1_2 (fun num3 den4 out5 s6 t34 t35 m1_0 m1_1 m1_2 => K .nrm (f64s6 num3 den4 out5 s6 t34 t35 m1_0 m1_1 m1_2)) := by kernel_rfl
noncomputable def f64c24 := codeAt (bodyOf Try.f64) [1,1,1,0,1,0,0,1,1,0,0,1,1,1,0]
theorem f64t24 {ρ : Type} (N : Nat) (num3 : List Int) (den4 : List Int) (out5 : List Int) (s6 : Int) (t34 : Int) (t35 : Int) (m1_0 : Int) (m1_1 : Int) (m1_2 : List Int) (K : KT ρ) : f64i N f64c24 .n (f64s6 num3 den4 out5 s6 t34 t35 m1_0 m1_1 m1_2) (joinK (some f64l7) K) =
  impl_factors.Z24 N num3 den4 out5 s6 t34 t35 m1_0 m1_1 m1_2 (fun num3 den4 out5 piece7 t34 t35 m1_0 m1_1 m1_2 => K .nrm (f64s7 num3 den4 out5 piece7 t34 t35 m1_0 m1_1 m1_2)) := by kernel_rfl
noncomputable def f64c27 := codeAt (bodyOf Try.f64) [1,1,1,0,1,0,0,1,1,0,0,1,1,1,1,0,0]
theorem f64t27 {ρ : Type} (N : Nat) (num3 : List Int) (den4 : List Int) (out5 : List Int) (piece7 : List Int) (t34 : Int) (t35 : Int) (m1_0 : Int) (m1_1 : Int) (m1_2 : List Int) (K : KT ρ) : f64i N f64c27 .n (f64s7 num3 den4 out5 piece7 t34 t35 m1_0 m1_1 m1_2) (joinK (some f64l8) K) =
  impl_factors.Z27 N num3 den4 out5 piece7 t34 t35 m1_0 m1_1 m1_2 (fun num3 den4 out5 piece7 at8 t34 t35 m1_0 m1_1 m1_2 => K .nrm (f64s8 num3 den4 out5 piece7 at8 t34 t35 m1_0 m1_1 m1_2)) := by kernel_rfl
noncomputable def f64c31 := codeAt (bodyOf Try.f64) [1,1,1,0,1,0,0,1,1,0,0,1,1,1,1,0,1,0,0,0]
theorem f64t31 {ρ : Type} (N : Nat) (num3 : List Int) (den4 : List Int) (out5 : List Int) (piece7 : List Int) (at8 : Int) (t34 : Int) (t35 : Int) (m1_0 : Int) (m1_1 : Int) (m1_2 : List Int) (K : KT ρ) : f64i N f64c31 .n (f64s8 num3 den4 out5 piece7 at8 t34 t35 m1_0 m1_1 m1_2) (joinK (some f64l8) K) =
  impl_factors.Z31 N num3 den4 out5 piece7 at8 t34 t35 m1_0 m1_1 m1_2 (fun num3 den4 out5 piece7 at8 t34 t35 m1_0 m1_1 m1_2 => K .nrm (f64s8 num3 den4 out5 piece7 at8 t34 t35 m1_0 m1_1 m1_2)) (fun num3 den4 out5 piece7 t34 t35 m1_0 m1_1 m1_2 => K (.exit 2) (f64s7 num3 den4 out5 piece7 t34 t35 m1_0 m1_1 m1_2)) := by kernel_rfl
noncomputable def f64c35 := codeAt (bodyOf Try.f64) [1,1,1,0,1,0,0,1,1,0,0,1,1,1,1,0,1,0,0,1,0,0,0]
theorem f64t35 {ρ : Type} (N : Nat) (num3 : List Int) (den4 : List Int) (out5 : List Int) (piece7 : List Int) (at8 : Int) (t34 : Int) (t35 : Int) (m1_0 : Int) (m1_1 : Int) (m1_2 : List Int) (K : KT ρ) : f64i N f64c35 .n (f64s8 num3 den4 out5 piece7 at8 t34 t35 m1_0 m1_1 m1_2) (joinK (some f64l9) K) =
  impl_factors.Z35 N num3 den4 out5 piece7 at8 t34 t35 m1_0 m1_1 m1_2 (fun num3 den4 out5 piece7 at8 i9 t34 t35 m1_0 m1_1 m1_2 => K .nrm (f64s9 num3 den4 out5 piece7 at8 i9 t34 t35 m1_0 m1_1 m1_2)) := by kernel_rfl
noncomputable def f64c37 := codeAt (bodyOf Try.f64) [1,1,1,0,1,0,0,1,1,0,0,1,1,1,1,0,1,0,0,1,0,0,1,0]
theorem f64t37 {ρ : Type} (N : Nat) (num3 : List Int) (den4 : List Int) (out5 : List Int) (piece7 : List Int) (at8 : Int) (i9 : Int) (t34 : Int) (t35 : Int) (m1_0 : Int) (m1_1 : Int) (m1_2 : List Int) (K : KT ρ) : f64i N f64c37 .n (f64s9 num3 den4 out5 piece7 at8 i9 t34 t35 m1_0 m1_1 m1_2) (joinK (some f64l10) K) =
  impl_factors.Z37 N num3 den4 out5 piece7 at8 i9 t34 t35 m1_0 m1_1 m1_2 (fun num3 den4 out5 piece7 at8 i9 t34 t35 t62 t63 m1_0 m1_1 m1_2 => K .nrm (f64s10 num3 den4 out5 piece7 at8 i9 t34 t35 t62 t63 m1_0 m1_1 m1_2)) := by kernel_rfl
noncomputable def f64c41 := codeAt (bodyOf Try.f64) [1,1,1,0,1,0,0,1,1,0,0,1,1,1,1,0,1,0,0,1,0,0,1,1,0,0,0]
theorem f64t41 {ρ : Type} (N : Nat) (num3 : List Int) (den4 : List Int) (out5 : List Int) (piece7 : List Int) (at8 : Int) (i9 : Int) (t34 : Int) (t35 : Int) (t62 : Int) (t63 : Int) (m1_0 : Int) (m1_1 : Int) (m1_2 : List Int) (K : KT ρ) : f64i N f64c41 .n (f64s10 num3 den4 out5 piece7 at8 i9 t34 t35 t62 t63 m1_0 m1_1 m1_2) (joinK (some f64l11) K) =
  impl_factors.Z41 N num3 den4 out5 piece7 at8 i9 t34 t35 t62 t63 m1_0 m1_1 m1_2 (fun num3 den4 out5 piece7 at8 i9 t34 t35 t62 t63 t64 m1_0 m1_1 m1_2 => K .nrm (f64s11 num3 den4 out5 piece7 at8 i9 t34 t35 t62 t63 t64 m1_0 m1_1 m1_2)) := by kernel_rfl
noncomputable def f64c43 := codeAt (bodyOf Try.f64) [1,1,1,0,1,0,0,1,1,0,0,1,1,1,1,0,1,0,0,1,0,0,1,1,0,0,1,0]
theorem f64t43 {ρ : Type} (N : Nat) (num3 : List Int) (den4 : List Int) (out5 : List Int) (piece7 : List Int) (at8 : Int) (i9 : Int) (t34 : Int) (t35 : Int) (t62 : Int) (t63 : Int) (t64 : Bool) (m1_0 : Int) (m1_1 : Int) (m1_2 : List Int) (K : KT ρ) : f64i N f64c43 .n (f64s11 num3 den4 out5 piece7 at8 i9 t34 t35 t62 t63 t64 m1_0 m1_1 m1_2) (joinK (some f64l10) K) =
  impl_factors.Z43 N num3 den4 out5 piece7 at8 i9 t34 t35 t62 t63 t64 m1_0 m1_1 m1_2 (fun num3 den4 out5 piece7 at8 i9 t34 t35 t62 t63 m1_0 m1_1 m1_2 => K .nrm (f64s10 num3 den4 out5 piece7 at8 i9 t34 t35 t62 t63 m1_0 m1_1 m1_2)) (fun num3 den4 out5 piece7 at8 t34 t35 m1_0 m1_1 m1_2 => K (.exit 4) (f64s8 num3 den4 out5 piece7 at8 t34 t35 m1_0 m1_1 m1_2)) := by kernel_rfl
noncomputable def f64c47 := codeAt (bodyOf Try.f64) [1,1,1,0,1,0,0,1,1,0,0,1,1,1,1,0,1,0,0,1,0,0,1,1,0,0,1,1,0,0,0]
theorem f64t47 {ρ : Type} (N : Nat) (num3 : List Int) (den4 : List Int) (out5 : List Int) (piece7 : List Int) (at8 : Int) (i9 : Int) (t34 : Int) (t35 : Int) (t62 : Int) (t63 : Int) (m1_0 : Int) (m1_1 : Int) (m1_2 : List Int) (K : KT ρ) : f64i N f64c47 .n (f64s10 num3 den4 out5 piece7 at8 i9 t34 t35 t62 t63 m1_0 m1_1 m1_2) (joinK (some f64l12) K) =
  impl_factors.Z47 N num3 den4 out5 piece7 at8 i9 t34 t35 t62 t63 m1_0 m1_1 m1_2 (fun num3 den4 out5 piece7 at8 i9 j10 t34 t35 t62 t63 m1_0 m1_1 m1_2 => K .nrm (f64s12 num3 den4 out5 piece7 at8 i9 j10 t34 t35 t62 t63 m1_0 m1_1 m1_2)) := by kernel_rfl
noncomputable def f64c49 := codeAt (bodyOf Try.f64) [1,1,1,0,1,0,0,1,1,0,0,1,1,1,1,0,1,0,0,1,0,0,1,1,0,0,1,1,0,0,1,0]
theorem f64t49 {ρ : Type} (N : Nat) (num3 : List Int) (den4 : List Int) (out5 : List Int) (piece7 : List Int) (at8 : Int) (i9 : Int) (j10 : Int) (t34 : Int) (t35 : Int) (t62 : Int) (t63 : Int) (m1_0 : Int) (m1_1 : Int) (m1_2 : List Int) (K : KT ρ) : f64i N f64c49 .n (f64s12 num3 den4 out5 piece7 at8 i9 j10 t34 t35 t62 t63 m1_0 m1_1 m1_2) (joinK (some f64l13) K) =
  impl_factors.Z49 N num3 den4 out5 piece7 at8 i9 j10 t34 t35 t62 t63 m1_0 m1_1 m1_2 (fun num3 den4 out5 piece7 at8 i9 j10 p11 q12 t34 t35 t62 t63 m1_0 m1_1 m1_2 => K .nrm (f64s13 num3 den4 out5 piece7 at8 i9 j10 p11 q12 t34 t35 t62 t63 m1_0 m1_1 m1_2)) := by kernel_rfl
noncomputable def f64c51 := codeAt (bodyOf Try.f64) [1,1,1,0,1,0,0,1,1,0,0,1,1,1,1,0,1,0,0,1,0,0,1,1,0,0,1,1,0,0,1,1,0]
theorem f64t51 {ρ : Type} (N : Nat) (num3 : List Int) (den4 : List Int) (out5 : List Int) (piece7 : List Int) (at8 : Int) (i9 : Int) (j10 : Int) (p11 : Int) (q12 : Int) (t34 : Int) (t35 : Int) (t62 : Int) (t63 : Int) (m1_0 : Int) (m1_1 : Int) (m1_2 : List Int) (K : KT ρ) : f64i N f64c51 .n (f64s13 num3 den4 out5 piece7 at8 i9 j10 p11 q12 t34 t35 t62 t63 m1_0 m1_1 m1_2) (joinK (some f64l13) K) =
  impl_factors.Z51 N num3 den4 out5 piece7 at8 i9 j10 p11 q12 t34 t35 t62 t63 m1_0 m1_1 m1_2 (fun num3 den4 out5 piece7 at8 i9 j10 p11 q12 t34 t35 t62 t63 m1_0 m1_1 m1_2 => K .nrm (f64s13 num3 den4 out5 piece7 at8 i9 j10 p11 q12 t34 t35 t62 t63 m1_0 m1_1 m1_2)) (fun num3 den4 out5 piece7 at8 i9 t34 t35 t62 t63 m1_0 m1_1 m1_2 => K (.exit 5) (f64s10 num3 den4 out5 piece7 at8 i9 t34 t35 t62 t63 m1_0 m1_1 m1_2)) := by kernel_rfl
noncomputable def f64c52 := codeAt (bodyOf Try.f64) [1,1,1,0,1,0,0,1,1,0,0,1,1,1,1,0,1,0,0,1,0,0,1,1,0,0,1,1,0,0,1,1,1]
theorem f64t52 {ρ : Type} (N : Nat) (num3 : List Int) (den4 : List Int) (out5 : List Int) (piece7 : List Int) (at8 : Int) (i9 : Int) (j10 : Int) (p11 : Int) (q12 : Int) (t34 : Int) (t35 : Int) (t62 : Int) (t63 : Int) (m1_0 : Int) (m1_1 : Int) (m1_2 : List Int) (K : KT ρ) : f64i N f64c52 .n (f64s13 num3 den4 out5 piece7 at8 i9 j10 p11 q12 t34 t35 t62 t63 m1_0 m1_1 m1_2) (joinK (some f64l10) K) =
  impl_factors.Z52 N num3 den4 out5 piece7 at8 i9 j10 p11 q12 t34 t35 t62 t63 m1_0 m1_1 m1_2 (fun num3 den4 out5 piece7 at8 i9 t34 t35 t62 t63 m1_0 m1_1 m1_2 => K .nrm (f64s10 num3 den4 out5 piece7 at8 i9 t34 t35 t62 t63 m1_0 m1_1 m1_2)) (fun t2 => K .ret (f64s21 t2)) := by kernel_rfl
noncomputable def f64c50 := codeAt (bodyOf Try.f64) [1,1,1,0,1,0,0,1,1,0,0,1,1,1,1,0,1,0,0,1,0,0,1,1,0,0,1,1,0,0,1,1]
noncomputable def f64p50 : Plan := .mk (some f64l13) none .n .n
theorem f64t50 {ρ : Type} (N : Nat) (num3 : List Int) (den4 : List Int) (out5 : List Int) (piece7 : List Int) (at8 : Int) (i9 : Int) (j10 : Int) (p11 : Int) (q12 : Int) (t34 : Int) (t35 : Int) (t62 : Int) (t63 : Int) (m1_0 : Int) (m1_1 : Int) (m1_2 : List Int) (K : KT ρ) : f64i N f64c50 f64p50 (f64s13 num3 den4 out5 piece7 at8 i9 j10 p11 q12 t34 t35 t62 t63 m1_0 m1_1 m1_2) (joinK (some f64l10) K) =
  impl_factors.Z50 N num3 den4 out5 piece7 at8 i9 j10 p11 q12 t34 t35 t62 t63 m1_0 m1_1 m1_2 (fun num3 den4 out5 piece7 at8 i9 t34 t35 t62 t63 m1_0 m1_1 m1_2 => K .nrm (f64s10 num3 den4 out5 piece7 at8 i9 t34 t35 t62 t63 m1_0 m1_1 m1_2)) (fun num3 den4 out5 piece7 at8 i9 t34 t35 t62 t63 m1_0 m1_1 m1_2 => K (.exit 5) (f64s10 num3 den4 out5 piece7 at8 i9 t34 t35 t62 t63 m1_0 m1_1 m1_2)) (fun t2 => K .ret (f64s21 t2)) :=
  viaSeq (fun k => impl_factors.Z51 N num3 den4 out5 piece7 at8 i9 j10 p11 q12 t34 t35 t62 t63 m1_0 m1_1 m1_2 k (fun num3 den4 out5 piece7 at8 i9 t34 t35 t62 t63 m1_0 m1_1 m1_2 => K (.exit 5) (f64s10 num3 den4 out5 piece7 at8 i9 t34 t35 t62 t63 m1_0 m1_1 m1_2))) (by kernel_rfl) (by kernel_rfl) (f64t51 N num3 den4 out5 piece7 at8 i9 j10 p11 q12 t34 t35 t62 t63 m1_0 m1_1 m1_2 (seqK (fun σ => f64i N f64c52 .n σ (joinK (some f64l10) K)) (joinK (some f64l10) K))) (funext fun num3 => funext fun den4 => funext fun out5 => funext fun piece7 => funext fun at8 => funext fun i9 => funext fun j10 => funext fun p11 => funext fun q12 => funext fun t34 => funext fun t35 => funext fun t62 => funext fun t63 => funext fun m1_0 => funext fun m1_1 => funext fun m1_2 => f64t52 N num3 den4 out5 piece7 at8 i9 j10 p11 q12 t34 t35 t62 t63 m1_0 m1_1 m1_2 K) (by kernel_rfl) (by kernel_rfl)
noncomputable def f64c48 := codeAt (bodyOf Try.f64) [1,1,1,0,1,0,0,1,1,0,0,1,1,1,1,0,1,0,0,1,0,0,1,1,0,0,1,1,0,0,1]
noncomputable def f64p48 : Plan := .mk (some f64l13) none .n f64p50
theorem f64t48 {ρ : Type} (N : Nat) (num3 : List Int) (den4 : List Int) (out5 : List Int) (piece7 : List Int) (at8 : Int) (i9 : Int) (j10 : Int) (t34 : Int) (t35 : Int) (t62 : Int) (t63 : Int) (m1_0 : Int) (m1_1 : Int) (m1_2 : List Int) (K : KT ρ) : f64i N f64c48 f64p48 (f64s12 num3 den4 out5 piece7 at8 i9 j10 t34 t35 t62 t63 m1_0 m1_1 m1_2) (joinK (some f64l10) K) =
  impl_factors.Z48 N num3 den4 out5 piece7 at8 i9 j10 t34 t35 t62 t63 m1_0 m1_1 m1_2 (fun num3 den4 out5 piece7 at8 i9 t34 t35 t62 t63 m1_0 m1_1 m1_2 => K .nrm (f64s10 num3 den4 out5 piece7 at8 i9 t34 t35 t62 t63 m1_0 m1_1 m1_2)) (fun num3 den4 out5 piece7 at8 i9 t34 t35 t62 t63 m1_0 m1_1 m1_2 => K (.exit 5) (f64s10 num3 den4 out5 piece7 at8 i9 t34 t35 t62 t63 m1_0 m1_1 m1_2)) (fun t2 => K .ret (f64s21 t2)) :=
  viaSeq (fun k => impl_factors.Z49 N num3 den4 out5 piece7 at8 i9 j10 t34 t35 t62 t63 m1_0 m1_1 m1_2 k) (by kernel_rfl) (by kernel_rfl) (f64t49 N num3 den4 out5 piece7 at8 i9 j10 t34 t35 t62 t63 m1_0 m1_1 m1_2 (seqK (fun σ => f64i N f64c50 f64p50 σ (joinK (some f64l10) K)) (joinK (some f64l10) K))) (funext fun num3 => funext fun den4 => funext fun out5 => funext fun piece7 => funext fun at8 => funext fun i9 => funext fun j10 => funext fun p11 => funext fun q12 => funext fun t34 => funext fun t35 => funext fun t62 => funext fun t63 => funext fun m1_0 => funext fun m1_1 => funext fun m1_2 => f64t50 N num3 den4 out5 piece7 at8 i9 j10 p11 q12 t34 t35 t62 t63 m1_0 m1_1 m1_2 K) (by kernel_rfl) (by kernel_rfl)
noncomputable def f64c46 := codeAt (bodyOf Try.f64) [1,1,1,0,1,0,0,1,1,0,0,1,1,1,1,0,1,0,0,1,0,0,1,1,0,0,1,1,0,0]
noncomputable def f64p46 : Plan := .mk (some f64l12) none .n f64p48
theorem f64t46 {ρ : Type} (N : Nat) (num3 : List Int) (den4 : List Int) (out5 : List Int) (piece7 : List Int) (at8 : Int) (i9 : Int) (t34 : Int) (t35 : Int) (t62 : Int) (t63 : Int) (m1_0 : Int) (m1_1 : Int) (m1_2 : List Int) (K : KT ρ) : f64i N f64c46 f64p46 (f64s10 num3 den4 out5 piece7 at8 i9 t34 t35 t62 t63 m1_0 m1_1 m1_2) (joinK (some f64l10) K) =
  impl_factors.Z46 N num3 den4 out5 piece7 at8 i9 t34 t35 t62 t63 m1_0 m1_1 m1_2 (fun num3 den4 out5 piece7 at8 i9 t34 t35 t62 t63 m1_0 m1_1 m1_2 => K .nrm (f64s10 num3 den4 out5 piece7 at8 i9 t34 t35 t62 t63 m1_0 m1_1 m1_2)) (fun num3 den4 out5 piece7 at8 i9 t34 t35 t62 t63 m1_0 m1_1 m1_2 => K (.exit 5) (f64s10 num3 den4 out5 piece7 at8 i9 t34 t35 t62 t63 m1_0 m1_1 m1_2)) (fun t2 => K .ret (f64s21 t2)) :=
  viaSeq (fun k => impl_factors.Z47 N num3 den4 out5 piece7 at8 i9 t34 t35 t62 t63 m1_0 m1_1 m1_2 k) (by kernel_rfl) (by kernel_rfl) (f64t47 N num3 den4 out5 piece7 at8 i9 t34 t35 t62 t63 m1_0 m1_1 m1_2 (seqK (fun σ => f64i N f64c48 f64p48 σ (joinK (some f64l10) K)) (joinK (some f64l10) K))) (funext fun num3 => funext fun den4 => funext fun out5 => funext fun piece7 => funext fun at8 => funext fun i9 => funext fun j10 => funext fun t34 => funext fun t35 => funext fun t62 => funext fun t63 => funext fun m1_0 => funext fun m1_1 => funext fun m1_2 => f64t48 N num3 den4 out5 piece7 at8 i9 j10 t34 t35 t62 t63 m1_0 m1_1 m1_2 K) (by kernel_rfl) (by kernel_rfl)
noncomputable def f64c45 := codeAt (bodyOf Try.f64) [1,1,1,0,1,0,0,1,1,0,0,1,1,1,1,0,1,0,0,1,0,0,1,1,0,0,1,1,0]
noncomputable def f64p45 : Plan := .mk (some f64l10) none f64p46 .n
theorem f64t45 {ρ : Type} (N : Nat) (num3 : List Int) (den4 : List Int) (out5 : List Int) (piece7 : List Int) (at8 : Int) (i9 : Int) (t34 : Int) (t35 : Int) (t62 : Int) (t63 : Int) (m1_0 : Int) (m1_1 : Int) (m1_2 : List Int) (K : KT ρ) : f64i N f64c45 f64p45 (f64s10 num3 den4 out5 piece7 at8 i9 t34 t35 t62 t63 m1_0 m1_1 m1_2) (joinK (some f64l10) K) =
  impl_factors.Z45 N num3 den4 out5 piece7 at8 i9 t34 t35 t62 t63 m1_0 m1_1 m1_2 (fun num3 den4 out5 piece7 at8 i9 t34 t35 t62 t63 m1_0 m1_1 m1_2 => K .nrm (f64s10 num3 den4 out5 piece7 at8 i9 t34 t35 t62 t63 m1_0 m1_1 m1_2)) (fun t2 => K .ret (f64s21 t2)) :=
  viaBlock (by kernel_rfl) (by kernel_rfl) (f64t46 N num3 den4 out5 piece7 at8 i9 t34 t35 t62 t63 m1_0 m1_1 m1_2 (blockK 5 (joinK (some f64l10) K))) (by kernel_rfl)
noncomputable def f64c53 := codeAt (bodyOf Try.f64) [1,1,1,0,1,0,0,1,1,0,0,1,1,1,1,0,1,0,0,1,0,0,1,1,0,0,1,1,1]
theorem f64t53 {ρ : Type} (N : Nat) (num3 : List Int) (den4 : List Int) (out5 : List Int) (piece7 : List Int) (at8 : Int) (i9 : Int) (t34 : Int) (t35 : Int) (t62 : Int) (t63 : Int) (m1_0 : Int) (m1_1 : Int) (m1_2 : List Int) (K : KT ρ) : f64i N f64c53 .n (f64s10 num3 den4 out5 piece7 at8 i9 t34 t35 t62 t63 m1_0 m1_1 m1_2) (joinK (some f64l10) K) =
  impl_factors.Z53 N num3 den4 out5 piece7 at8 i9 t34 t35 t62 t63 m1_0 m1_1 m1_2 (fun num3 den4 out5 piece7 at8 i9 t34 t35 t62 t63 m1_0 m1_1 m1_2 => K .nrm (f64s10 num3 den4 out5 piece7 at8 i9 t34 t35 t62 t63 m1_0 m1_1 m1_2)) := by kernel_rfl
noncomputable def f64c44 := codeAt (bodyOf Try.f64) [1,1,1,0,1,0,0,1,1,0,0,1,1,1,1,0,1,0,0,1,0,0,1,1,0,0,1,1]
noncomputable def f64p44 : Plan := .mk (some f64l10) none f64p45 .n
theorem f64t44 {ρ : Type} (N : Nat) (num3 : List Int) (den4 : List Int) (out5 : List Int) (piece7 : List Int) (at8 : Int) (i9 : Int) (t34 : Int) (t35 : Int) (t62 : Int) (t63 : Int) (m1_0 : Int) (m1_1 : Int) (m1_2 : List Int) (K : KT ρ) : f64i N f64c44 f64p44 (f64s10 num3 den4 out5 piece7 at8 i9 t34 t35 t62 t63 m1_0 m1_1 m1_2) (joinK (some f64l10) K) =
  impl_factors.Z44 N num3 den4 out5 piece7 at8 i9 t34 t35 t62 t63 m1_0 m1_1 m1_2 (fun num3 den4 out5 piece7 at8 i9 t34 t35 t62 t63 m1_0 m1_1 m1_2 => K .nrm (f64s10 num3 den4 out5 piece7 at8 i9 t34 t35 t62 t63 m1_0 m1_1 m1_2)) (fun t2 => K .ret (f64s21 t2)) :=
  viaSeq (fun k => impl_factors.Z45 N num3 den4 out5 piece7 at8 i9 t34 t35 t62 t63 m1_0 m1_1 m1_2 k (fun t2 => K .ret (f64s21 t2))) (by kernel_rfl) (by kernel_rfl) (f64t45 N num3 den4 out5 piece7 at8 i9 t34 t35 t62 t63 m1_0 m1_1 m1_2 (seqK (fun σ => f64i N f64c53 .n σ (joinK (some f64l10) K)) (joinK (some f64l10) K))) (funext fun num3 => funext fun den4 => funext fun out5 => funext fun piece7 => funext fun at8 => funext fun i9 => funext fun t34 => funext fun t35 => funext fun t62 => funext fun t63 => funext fun m1_0 => funext fun m1_1 => funext fun m1_2 => f64t53 N num3 den4 out5 piece7 at8 i9 t34 t35 t62 t63 m1_0 m1_1 m1_2 K) (by kernel_rfl) (by kernel_rfl)
noncomputable def f64c42 := codeAt (bodyOf Try.f64) [1,1,1,0,1,0,0,1,1,0,0,1,1,1,1,0,1,0,0,1,0,0,1,1,0,0,1]
noncomputable def f64p42 : Plan := .mk (some f64l10) none .n f64p44
theorem f64t42 {ρ : Type} (N : Nat) (num3 : List Int) (den4 : List Int) (out5 : List Int) (piece7 : List Int) (at8 : Int) (i9 : Int) (t34 : Int) (t35 : Int) (t62 : Int) (t63 : Int) (t64 : Bool) (m1_0 : Int) (m1_1 : Int) (m1_2 : List Int) (K : KT ρ) : f64i N f64c42 f64p42 (f64s11 num3 den4 out5 piece7 at8 i9 t34 t35 t62 t63 t64 m1_0 m1_1 m1_2) (joinK (some f64l10) K) =
  impl_factors.Z42 N num3 den4 out5 piece7 at8 i9 t34 t35 t62 t63 t64 m1_0 m1_1 m1_2 (fun num3 den4 out5 piece7 at8 i9 t34 t35 t62 t63 m1_0 m1_1 m1_2 => K .nrm (f64s10 num3 den4 out5 piece7 at8 i9 t34 t35 t62 t63 m1_0 m1_1 m1_2)) (fun num3 den4 out5 piece7 at8 t34 t35 m1_0 m1_1 m1_2 => K (.exit 4) (f64s8 num3 den4 out5 piece7 at8 t34 t35 m1_0 m1_1 m1_2)) (fun t2 => K .ret (f64s21 t2)) :=
  viaSeq (fun k => impl_factors.Z43 N num3 den4 out5 piece7 at8 i9 t34 t35 t62 t63 t64 m1_0 m1_1 m1_2 k (fun num3 den4 out5 piece7 at8 t34 t35 m1_0 m1_1 m1_2 => K (.exit 4) (f64s8 num3 den4 out5 piece7 at8 t34 t35 m1_0 m1_1 m1_2))) (by kernel_rfl) (by kernel_rfl) (f64t43 N num3 den4 out5 piece7 at8 i9 t34 t35 t62 t63 t64 m1_0 m1_1 m1_2 (seqK (fun σ => f64i N f64c44 f64p44 σ (joinK (some f64l10) K)) (joinK (some f64l10) K))) (funext fun num3 => funext fun den4 => funext fun out5 => funext fun piece7 => funext fun at8 => funext fun i9 => funext fun t34 => funext fun t35 => funext fun t62 => funext fun t63 => funext fun m1_0 => funext fun m1_1 => funext fun m1_2 => f64t44 N num3 den4 out5 piece7 at8 i9 t34 t35 t62 t63 m1_0 m1_1 m1_2 K) (by kernel_rfl) (by kernel_rfl)
noncomputable def f64c40 := codeAt (bodyOf Try.f64) [1,1,1,0,1,0,0,1,1,0,0,1,1,1,1,0,1,0,0,1,0,0,1,1,0,0]
noncomputable def f64p40 : Plan := .mk (some f64l11) none .n f64p42
theorem f64t40 {ρ : Type} (N : Nat) (num3 : List Int) (den4 : List Int) (out5 : List Int) (piece7 : List Int) (at8 : Int) (i9 : Int) (t34 : Int) (t35 : Int) (t62 : Int) (t63 : Int) (m1_0 : Int) (m1_1 : Int) (m1_2 : List Int) (K : KT ρ) : f64i N f64c40 f64p40 (f64s10 num3 den4 out5 piece7 at8 i9 t34 t35 t62 t63 m1_0 m1_1 m1_2) (joinK (some f64l10) K) =
  impl_factors.Z40 N num3 den4 out5 piece7 at8 i9 t34 t35 t62 t63 m1_0 m1_1 m1_2 (fun num3 den4 out5 piece7 at8 i9 t34 t35 t62 t63 m1_0 m1_1 m1_2 => K .nrm (f64s10 num3 den4 out5 piece7 at8 i9 t34 t35 t62 t63 m1_0 m1_1 m1_2)) (fun num3 den4 out5 piece7 at8 t34 t35 m1_0 m1_1 m1_2 => K (.exit 4) (f64s8 num3 den4 out5 piece7 at8 t34 t35 m1_0 m1_1 m1_2)) (fun t2 => K .ret (f64s21 t2)) :=
  viaSeq (fun k => impl_factors.Z41 N num3 den4 out5 piece7 at8 i9 t34 t35 t62 t63 m1_0 m1_1 m1_2 k) (by kernel_rfl) (by kernel_rfl) (f64t41 N num3 den4 out5 piece7 at8 i9 t34 t35 t62 t63 m1_0 m1_1 m1_2 (seqK (fun σ => f64i N f64c42 f64p42 σ (joinK (some f64l10) K)) (joinK (some f64l10) K))) (funext fun num3 => funext fun den4 => funext fun out5 => funext fun piece7 => funext fun at8 => funext fun i9 => funext fun t34 => funext fun t35 => funext fun t62 => funext fun t63 => funext fun t64 => funext fun m1_0 => funext fun m1_1 => funext fun m1_2 => f64t42 N num3 den4 out5 piece7 at8 i9 t34 t35 t62 t63 t64 m1_0 m1_1 m1_2 K) (by kernel_rfl) (by kernel_rfl)
noncomputable def f64c39 := codeAt (bodyOf Try.f64) [1,1,1,0,1,0,0,1,1,0,0,1,1,1,1,0,1,0,0,1,0,0,1,1,0]
noncomputable def f64p39 : Plan := .mk none (some f64l10) f64p40 .n
noncomputable abbrev f64w39 {ρ : Type} (N : Nat) (M : Nat) (σ : St) (K : KT ρ) : Option ρ := loopC (fun σ K => f64i N f64c40 f64p40 σ K) f64l10 M σ K
theorem f64t39L {ρ : Type} (N : Nat) (K : KT ρ) : ∀ (M : Nat) (num3 : List Int) (den4 : List Int) (out5 : List Int) (piece7 : List Int) (at8 : Int) (i9 : Int) (t34 : Int) (t35 : Int) (t62 : Int) (t63 : Int) (m1_0 : Int) (m1_1 : Int) (m1_2 : List Int), f64w39 N M (f64s10 num3 den4 out5 piece7 at8 i9 t34 t35 t62 t63 m1_0 m1_1 m1_2) K =
  impl_factors.Z39L N (fun num3 den4 out5 piece7 at8 t34 t35 m1_0 m1_1 m1_2 => K (.exit 4) (f64s8 num3 den4 out5 piece7 at8 t34 t35 m1_0 m1_1 m1_2)) (fun t2 => K .ret (f64s21 t2)) M num3 den4 out5 piece7 at8 i9 t34 t35 t62 t63 m1_0 m1_1 m1_2
  | 0, _, _, _, _, _, _, _, _, _, _, _, _, _ => rfl
  | M + 1, num3, den4, out5, piece7, at8, i9, t34, t35, t62, t63, m1_0, m1_1, m1_2 => viaRound (fun k => impl_factors.Z40 N num3 den4 out5 piece7 at8 i9 t34 t35 t62 t63 m1_0 m1_1 m1_2 k (fun num3 den4 out5 piece7 at8 t34 t35 m1_0 m1_1 m1_2 => K (.exit 4) (f64s8 num3 den4 out5 piece7 at8 t34 t35 m1_0 m1_1 m1_2)) (fun t2 => K .ret (f64s21 t2))) (f64t40 N num3 den4 out5 piece7 at8 i9 t34 t35 t62 t63 m1_0 m1_1 m1_2 (seqK (fun σ => f64w39 N M σ K) K)) (funext fun num3 => funext fun den4 => funext fun out5 => funext fun piece7 => funext fun at8 => funext fun i9 => funext fun t34 => funext fun t35 => funext fun t62 => funext fun t63 => funext fun m1_0 => funext fun m1_1 => funext fun m1_2 => f64t39L N K M num3 den4 out5 piece7 at8 i9 t34 t35 t62 t63 m1_0 m1_1 m1_2) (by kernel_rfl) (by kernel_rfl)
theorem f64t39 {ρ : Type} (N : Nat) (num3 : List Int) (den4 : List Int) (out5 : List Int) (piece7 : List Int) (at8 : Int) (i9 : Int) (t34 : Int) (t35 : Int) (t62 : Int) (t63 : Int) (m1_0 : Int) (m1_1 : Int) (m1_2 : List Int) (K : KT ρ) : f64i N f64c39 f64p39 (f64s10 num3 den4 out5 piece7 at8 i9 t34 t35 t62 t63 m1_0 m1_1 m1_2) (joinK (some f64l8) K) =
  impl_factors.Z39 N num3 den4 out5 piece7 at8 i9 t34 t35 t62 t63 m1_0 m1_1 m1_2 (fun num3 den4 out5 piece7 at8 t34 t35 m1_0 m1_1 m1_2 => K (.exit 4) (f64s8 num3 den4 out5 piece7 at8 t34 t35 m1_0 m1_1 m1_2)) (fun t2 => K .ret (f64s21 t2)) :=
  viaLoop (by kernel_rfl) (by kernel_rfl) (σ' := f64s10 num3 den4 out5 piece7 at8 i9 t34 t35 t62 t63 m1_0 m1_1 m1_2) (by kernel_rfl) (f64t39L N (joinK (some f64l8) K) N num3 den4 out5 piece7 at8 i9 t34 t35 t62 t63 m1_0 m1_1 m1_2) (by kernel_rfl)
noncomputable def f64c38 := codeAt (bodyOf Try.f64) [1,1,1,0,1,0,0,1,1,0,0,1,1,1,1,0,1,0,0,1,0,0,1,1]
noncomputable def f64p38 : Plan := .mk (some f64l8) none f64p39 .n
theorem f64t38 {ρ : Type} (N : Nat) (num3 : List Int) (den4 : List Int) (out5 : List Int) (piece7 : List Int) (at8 : Int) (i9 : Int) (t34 : Int) (t35 : Int) (t62 : Int) (t63 : Int) (m1_0 : Int) (m1_1 : Int) (m1_2 : List Int) (K : KT ρ) : f64i N f64c38 f64p38 (f64s10 num3 den4 out5 piece7 at8 i9 t34 t35 t62 t63 m1_0 m1_1 m1_2) (joinK (some f64l8) K) =
  impl_factors.Z38 N num3 den4 out5 piece7 at8 i9 t34 t35 t62 t63 m1_0 m1_1 m1_2 (fun num3 den4 out5 piece7 at8 t34 t35 m1_0 m1_1 m1_2 => K .nrm (f64s8 num3 den4 out5 piece7 at8 t34 t35 m1_0 m1_1 m1_2)) (fun t2 => K .ret (f64s21 t2)) :=
  viaBlock (by kernel_rfl) (by kernel_rfl) (f64t39 N num3 den4 out5 piece7 at8 i9 t34 t35 t62 t63 m1_0 m1_1 m1_2 (blockK 4 (joinK (some f64l8) K))) (by kernel_rfl)
noncomputable def f64c36 := codeAt (bodyOf Try.f64) [1,1,1,0,1,0,0,1,1,0,0,1,1,1,1,0,1,0,0,1,0,0,1]
noncomputable def f64p36 : Plan := .mk (some f64l10) none .n f64p38
theorem f64t36 {ρ : Type} (N : Nat) (num3 : List Int) (den4 : List Int) (out5 : List Int) (piece7 : List Int) (at8 : Int) (i9 : Int) (t34 : Int) (t35 : Int) (m1_0 : Int) (m1_1 : Int) (m1_2 : List Int) (K : KT ρ) : f64i N f64c36 f64p36 (f64s9 num3 den4 out5 piece7 at8 i9 t34 t35 m1_0 m1_1 m1_2) (joinK (some f64l8) K) =
  impl_factors.Z36 N num3 den4 out5 piece7 at8 i9 t34 t35 m1_0 m1_1 m1_2 (fun num3 den4 out5 piece7 at8 t34 t35 m1_0 m1_1 m1_2 => K .nrm (f64s8 num3 den4 out5 piece7 at8 t34 t35 m1_0 m1_1 m1_2)) (fun t2 => K .ret (f64s21 t2)) :=
  viaSeq (fun k => impl_factors.Z37 N num3 den4 out5 piece7 at8 i9 t34 t35 m1_0 m1_1 m1_2 k) (by kernel_rfl) (by kernel_rfl) (f64t37 N num3 den4 out5 piece7 at8 i9 t34 t35 m1_0 m1_1 m1_2 (seqK (fun σ => f64i N f64c38 f64p38 σ (joinK (some f64l8) K)) (joinK (some f64l8) K))) (funext fun num3 => funext fun den4 => funext fun out5 => funext fun piece7 => funext fun at8 => funext fun i9 => funext fun t34 => funext fun t35 => funext fun t62 => funext fun t63 => funext fun m1_0 => funext fun m1_1 => funext fun m1_2 => f64t38 N num3 den4 out5 piece7 at8 i9 t34 t35 t62 t63 m1_0 m1_1 m1_2 K) (by kernel_rfl) (by kernel_rfl)
noncomputable def f64c34 := codeAt (bodyOf Try.f64) [1,1,1,0,1,0,0,1,1,0,0,1,1,1,1,0,1,0,0,1,0,0]
noncomputable def f64p34 : Plan := .mk (some f64l9) none .n f64p36
theorem f64t34 {ρ : Type} (N : Nat) (num3 : List Int) (den4 : List Int) (out5 : List Int) (piece7 : List Int) (at8 : Int) (t34 : Int) (t35 : Int) (m1_0 : Int) (m1_1 : Int) (m1_2 : List Int) (K : KT ρ) : f64i N f64c34 f64p34 (f64s8 num3 den4 out5 piece7 at8 t34 t35 m1_0 m1_1 m1_2) (joinK (some f64l8) K) =
  impl_factors.Z34 N num3 den4 out5 piece7 at8 t34 t35 m1_0 m1_1 m1_2 (fun num3 den4 out5 piece7 at8 t34 t35 m1_0 m1_1 m1_2 => K .nrm (f64s8 num3 den4 out5 piece7 at8 t34 t35 m1_0 m1_1 m1_2)) (fun t2 => K .ret (f64s21 t2)) :=
  viaSeq (fun k => impl_factors.Z35 N num3 den4 out5 piece7 at8 t34 t35 m1_0 m1_1 m1_2 k) (by kernel_rfl) (by kernel_rfl) (f64t35 N num3 den4 out5 piece7 at8 t34 t35 m1_0 m1_1 m1_2 (seqK (fun σ => f64i N f64c36 f64p36 σ (joinK (some f64l8) K)) (joinK (some f64l8) K))) (funext fun num3 => funext fun den4 => funext fun out5 => funext fun piece7 => funext fun at8 => funext fun i9 => funext fun t34 => funext fun t35 => funext fun m1_0 => funext fun m1_1 => funext fun m1_2 => f64t36 N num3 den4 out5 piece7 at8 i9 t34 t35 m1_0 m1_1 m1_2 K) (by kernel_rfl) (by kernel_rfl)
noncomputable def f64c33 := codeAt (bodyOf Try.f64) [1,1,1,0,1,0,0,1,1,0,0,1,1,1,1,0,1,0,0,1,0]
noncomputable def f64p33 : Plan := .mk (some f64l8) none f64p34 .n
theorem f64t33 {ρ : Type} (N : Nat) (num3 : List Int) (den4 : List Int) (out5 : List Int) (piece7 : List Int) (at8 : Int) (t34 : Int) (t35 : Int) (m1_0 : Int) (m1_1 : Int) (m1_2 : List Int) (K : KT ρ) : f64i N f64c33 f64p33 (f64s8 num3 den4 out5 piece7 at8 t34 t35 m1_0 m1_1 m1_2) (joinK (some f64l8) K) =
  impl_factors.Z33 N num3 den4 out5 piece7 at8 t34 t35 m1_0 m1_1 m1_2 (fun num3 den4 out5 piece7 at8 t34 t35 m1_0 m1_1 m1_2 => K .nrm (f64s8 num3 den4 out5 piece7 at8 t34 t35 m1_0 m1_1 m1_2)) (fun t2 => K .ret (f64s21 t2)) :=
  viaBlock (by kernel_rfl) (by kernel_rfl) (f64t34 N num3 den4 out5 piece7 at8 t34 t35 m1_0 m1_1 m1_2 (blockK 3 (joinK (some f64l8) K))) (by kernel_rfl)
noncomputable def f64c54 := codeAt (bodyOf Try.f64) [1,1,1,0,1,0,0,1,1,0,0,1,1,1,1,0,1,0,0,1,1]
theorem f64t54 {ρ : Type} (N : Nat) (num3 : List Int) (den4 : List Int) (out5 : List Int) (piece7 : List Int) (at8 : Int) (t34 : Int) (t35 : Int) (m1_0 : Int) (m1_1 : Int) (m1_2 : List Int) (K : KT ρ) : f64i N f64c54 .n (f64s8 num3 den4 out5 piece7 at8 t34 t35 m1_0 m1_1 m1_2) (joinK (some f64l8) K) =
  impl_factors.Z54 N num3 den4 out5 piece7 at8 t34 t35 m1_0 m1_1 m1_2 (fun num3 den4 out5 piece7 at8 t34 t35 m1_0 m1_1 m1_2 => K .nrm (f64s8 num3 den4 out5 piece7 at8 t34 t35 m1_0 m1_1 m1_2)) := by kernel_rfl
noncomputable def f64c32 := codeAt (bodyOf Try.f64) [1,1,1,0,1,0,0,1,1,0,0,1,1,1,1,0,1,0,0,1]
noncomputable def f64p32 : Plan := .mk (some f64l8) none f64p33 .n
theorem f64t32 {ρ : Type} (N : Nat) (num3 : List Int) (den4 : List Int) (out5 : List Int) (piece7 : List Int) (at8 : Int) (t34 : Int) (t35 : Int) (m1_0 : Int) (m1_1 : Int) (m1_2 : List Int) (K : KT ρ) : f64i N f64c32 f64p32 (f64s8 num3 den4 out5 piece7 at8 t34 t35 m1_0 m1_1 m1_2) (joinK (some f64l8) K) =
  impl_factors.Z32 N num3 den4 out5 piece7 at8 t34 t35 m1_0 m1_1 m1_2 (fun num3 den4 out5 piece7 at8 t34 t35 m1_0 m1_1 m1_2 => K .nrm (f64s8 num3 den4 out5 piece7 at8 t34 t35 m1_0 m1_1 m1_2)) (fun t2 => K .ret (f64s21 t2)) :=
  viaSeq (fun k => impl_factors.Z33 N num3 den4 out5 piece7 at8 t34 t35 m1_0 m1_1 m1_2 k (fun t2 => K .ret (f64s21 t2))) (by kernel_rfl) (by kernel_rfl) (f64t33 N num3 den4 out5 piece7 at8 t34 t35 m1_0 m1_1 m1_2 (seqK (fun σ => f64i N f64c54 .n σ (joinK (some f64l8) K)) (joinK (some f64l8) K))) (funext fun num3 => funext fun den4 => funext fun out5 => funext fun piece7 => funext fun at8 => funext fun t34 => funext fun t35 => funext fun m1_0 => funext fun m1_1 => funext fun m1_2 => f64t54 N num3 den4 out5 piece7 at8 t34 t35 m1_0 m1_1 m1_2 K) (by kernel_rfl) (by kernel_rfl)
noncomputable def f64c30 := codeAt (bodyOf Try.f64) [1,1,1,0,1,0,0,1,1,0,0,1,1,1,1,0,1,0,0]
noncomputable def f64p30 : Plan := .mk (some f64l8) none .n f64p32
theorem f64t30 {ρ : Type} (N : Nat) (num3 : List Int) (den4 : List Int) (out5 : List Int) (piece7 : List Int) (at8 : Int) (t34 : Int) (t35 : Int) (m1_0 : Int) (m1_1 : Int) (m1_2 : List Int) (K : KT ρ) : f64i N f64c30 f64p30 (f64s8 num3 den4 out5 piece7 at8 t34 t35 m1_0 m1_1 m1_2) (joinK (some f64l8) K) =
  impl_factors.Z30 N num3 den4 out5 piece7 at8 t34 t35 m1_0 m1_1 m1_2 (fun num3 den4 out5 piece7 at8 t34 t35 m1_0 m1_1 m1_2 => K .nrm (f64s8 num3 den4 out5 piece7 at8 t34 t35 m1_0 m1_1 m1_2)) (fun num3 den4 out5 piece7 t34 t35 m1_0 m1_1 m1_2 => K (.exit 2) (f64s7 num3 den4 out5 piece7 t34 t35 m1_0 m1_1 m1_2)) (fun t2 => K .ret (f64s21 t2)) :=
  viaSeq (fun k => impl_factors.Z31 N num3 den4 out5 piece7 at8 t34 t35 m1_0 m1_1 m1_2 k (fun num3 den4 out5 piece7 t34 t35 m1_0 m1_1 m1_2 => K (.exit 2) (f64s7 num3 den4 out5 piece7 t34 t35 m1_0 m1_1 m1_2))) (by kernel_rfl) (by kernel_rfl) (f64t31 N num3 den4 out5 piece7 at8 t34 t35 m1_0 m1_1 m1_2 (seqK (fun σ => f64i N f64c32 f64p32 σ (joinK (some f64l8) K)) (joinK (some f64l8) K))) (funext fun num3 => funext fun den4 => funext fun out5 => funext fun piece7 => funext fun at8 => funext fun t34 => funext fun t35 => funext fun m1_0 => funext fun m1_1 => funext fun m1_2 => f64t32 N num3 den4 out5 piece7 at8 t34 t35 m1_0 m1_1 m1_2 K) (by kernel_rfl) (by kernel_rfl)
noncomputable def f64c29 := codeAt (bodyOf Try.f64) [1,1,1,0,1,0,0,1,1,0,0,1,1,1,1,0,1,0]
noncomputable def f64p29 : Plan := .mk none (some f64l8) f64p30 .n
noncomputable abbrev f64w29 {ρ : Type} (N : Nat) (M : Nat) (σ : St) (K : KT ρ) : Option ρ := loopC (fun σ K => f64i N f64c30 f64p30 σ K) f64l8 M σ K
theorem f64t29L {ρ : Type} (N : Nat) (K : KT ρ) : ∀ (M : Nat) (num3 : List Int) (den4 : List Int) (out5 : List Int) (piece7 : List Int) (at8 : Int) (t34 : Int) (t35 : Int) (m1_0 : Int) (m1_1 : Int) (m1_2 : List Int), f64w29 N M (f64s8 num3 den4 out5 piece7 at8 t34 t35 m1_0 m1_1 m1_2) K =
  impl_factors.Z29L N (fun num3 den4 out5 piece7 t34 t35 m1_0 m1_1 m1_2 => K (.exit 2) (f64s7 num3 den4 out5 piece7 t34 t35 m1_0 m1_1 m1_2)) (fun t2 => K .ret (f64s21 t2)) M num3 den4 out5 piece7 at8 t34 t35 m1_0 m1_1 m1_2
  | 0, _, _, _, _, _, _, _, _, _, _ => rfl
  | M + 1, num3, den4, out5, piece7, at8, t34, t35, m1_0, m1_1, m1_2 => viaRound (fun k => impl_factors.Z30 N num3 den4 out5 piece7 at8 t34 t35 m1_0 m1_1 m1_2 k (fun num3 den4 out5 piece7 t34 t35 m1_0 m1_1 m1_2 => K (.exit 2) (f64s7 num3 den4 out5 piece7 t34 t35 m1_0 m1_1 m1_2)) (fun t2 => K .ret (f64s21 t2))) (f64t30 N num3 den4 out5 piece7 at8 t34 t35 m1_0 m1_1 m1_2 (seqK (fun σ => f64w29 N M σ K) K)) (funext fun num3 => funext fun den4 => funext fun out5 => funext fun piece7 => funext fun at8 => funext fun t34 => funext fun t35 => funext fun m1_0 => funext fun m1_1 => funext fun m1_2 => f64t29L N K M num3 den4 out5 piece7 at8 t34 t35 m1_0 m1_1 m1_2) (by kernel_rfl) (by kernel_rfl)
theorem f64t29 {ρ : Type} (N : Nat) (num3 : List Int) (den4 : List Int) (out5 : List Int) (piece7 : List Int) (at8 : Int) (t34 : Int) (t35 : Int) (m1_0 : Int) (m1_1 : Int) (m1_2 : List Int) (K : KT ρ) : f64i N f64c29 f64p29 (f64s8 num3 den4 out5 piece7 at8 t34 t35 m1_0 m1_1 m1_2) (joinK (some f64l7) K) =
  impl_factors.Z29 N num3 den4 out5 piece7 at8 t34 t35 m1_0 m1_1 m1_2 (fun num3 den4 out5 piece7 t34 t35 m1_0 m1_1 m1_2 => K (.exit 2) (f64s7 num3 den4 out5 piece7 t34 t35 m1_0 m1_1 m1_2)) (fun t2 => K .ret (f64s21 t2)) :=
  viaLoop (by kernel_rfl) (by kernel_rfl) (σ' := f64s8 num3 den4 out5 piece7 at8 t34 t35 m1_0 m1_1 m1_2) (by kernel_rfl) (f64t29L N (joinK (some f64l7) K) N num3 den4 out5 piece7 at8 t34 t35 m1_0 m1_1 m1_2) (by kernel_rfl)
noncomputable def f64c28 := codeAt (bodyOf Try.f64) [1,1,1,0,1,0,0,1,1,0,0,1,1,1,1,0,1]
noncomputable def f64p28 : Plan := .mk (some f64l7) none f64p29 .n
theorem f64t28 {ρ : Type} (N : Nat) (num3 : List Int) (den4 : List Int) (out5 : List Int) (piece7 : List Int) (at8 : Int) (t34 : Int) (t35 : Int) (m1_0 : Int) (m1_1 : Int) (m1_2 : List Int) (K : KT ρ) : f64i N f64c28 f64p28 (f64s8 num3 den4 out5 piece7 at8 t34 t35 m1_0 m1_1 m1_2) (joinK (some f64l7) K) =
  impl_factors.Z28 N num3 den4 out5 piece7 at8 t34 t35 m1_0 m1_1 m1_2 (fun num3 den4 out5 piece7 t34 t35 m1_0 m1_1 m1_2 => K .nrm (f64s7 num3 den4 out5 piece7 t34 t35 m1_0 m1_1 m1_2)) (fun t2 => K .ret (f64s21 t2)) :=
  viaBlock (by kernel_rfl) (by kernel_rfl) (f64t29 N num3 den4 out5 piece7 at8 t34 t35 m1_0 m1_1 m1_2 (blockK 2 (joinK (some f64l7) K))) (by kernel_rfl)
noncomputable def f64c26 := codeAt (bodyOf Try.f64) [1,1,1,0,1,0,0,1,1,0,0,1,1,1,1,0]
noncomputable def f64p26 : Plan := .mk (some f64l8) none .n f64p28
theorem f64t26 {ρ : Type} (N : Nat) (num3 : List Int) (den4 : List Int) (out5 : List Int) (piece7 : List Int) (t34 : Int) (t35 : Int) (m1_0 : Int) (m1_1 : Int) (m1_2 : List Int) (K : KT ρ) : f64i N f64c26 f64p26 (f64s7 num3 den4 out5 piece7 t34 t35 m1_0 m1_1 m1_2) (joinK (some f64l7) K) =
  impl_factors.Z26 N num3 den4 out5 piece7 t34 t35 m1_0 m1_1 m1_2 (fun num3 den4 out5 piece7 t34 t35 m1_0 m1_1 m1_2 => K .nrm (f64s7 num3 den4 out5 piece7 t34 t35 m1_0 m1_1 m1_2)) (fun t2 => K .ret (f64s21 t2)) :=
  viaSeq (fun k => impl_factors.Z27 N num3 den4 out5 piece7 t34 t35 m1_0 m1_1 m1_2 k) (by kernel_rfl) (by kernel_rfl) (f64t27 N num3 den4 out5 piece7 t34 t35 m1_0 m1_1 m1_2 (seqK (fun σ => f64i N f64c28 f64p28 σ (joinK (some f64l7) K)) (joinK (some f64l7) K))) (funext fun num3 => funext fun den4 => funext fun out5 => funext fun piece7 => funext fun at8 => funext fun t34 => funext fun t35 => funext fun m1_0 => funext fun m1_1 => funext fun m1_2 => f64t28 N num3 den4 out5 piece7 at8 t34 t35 m1_0 m1_1 m1_2 K) (by kernel_rfl) (by kernel_rfl)
noncomputable def f64c56 := codeAt (bodyOf Try.f64) [1,1,1,0,1,0,0,1,1,0,0,1,1,1,1,1,0]
theorem f64t56 {ρ : Type} (N : Nat) (num3 : List Int) (den4 : List Int) (out5 : List Int) (piece7 : List Int) (t34 : Int) (t35 : Int) (m1_0 : Int) (m1_1 : Int) (m1_2 : List Int) (K : KT ρ) : f64i N f64c56 .n (f64s7 num3 den4 out5 piece7 t34 t35 m1_0 m1_1 m1_2) (joinK (some f64l14) K) =
  impl_factors.Z56 N num3 den4 out5 piece7 t34 t35 m1_0 m1_1 m1_2 (fun num3 den4 out5 piece7 common16 t34 t35 m1_0 m1_1 m1_2 => K .nrm (f64s14 num3 den4 out5 piece7 common16 t34 t35 m1_0 m1_1 m1_2)) := by kernel_rfl
noncomputable def f64c59 := codeAt (bodyOf Try.f64) [1,1,1,0,1,0,0,1,1,0,0,1,1,1,1,1,1,0,0]
theorem f64t59 {ρ : Type} (N : Nat) (num3 : List Int) (den4 : List Int) (out5 : List Int) (piece7 : List Int) (common16 : Int) (t34 : Int) (t35 : Int) (m1_0 : Int) (m1_1 : Int) (m1_2 : List Int) (K : KT ρ) : f64i N f64c59 .n (f64s14 num3 den4 out5 piece7 common16 t34 t35 m1_0 m1_1 m1_2) (joinK (some f64l15) K) =
  impl_factors.Z59 N num3 den4 out5 piece7 common16 t34 t35 m1_0 m1_1 m1_2 (fun num3 den4 out5 piece7 common16 t34 t35 t159 t160 m1_0 m1_1 m1_2 => K .nrm (f64s15 num3 den4 out5 piece7 common16 t34 t35 t159 t160 m1_0 m1_1 m1_2)) := by kernel_rfl
noncomputable def f64c62 := codeAt (bodyOf Try.f64) [1,1,1,0,1,0,0,1,1,0,0,1,1,1,1,1,1,0,1,0,0]
theorem f64t62 {ρ : Type} (N : Nat) (num3 : List Int) (den4 : List Int) (out5 : List Int) (piece7 : List Int) (common16 : Int) (t34 : Int) (t35 : Int) (t159 : Int) (t160 : Int) (m1_0 : Int) (m1_1 : Int) (m1_2 : List Int) (K : KT ρ) : f64i N f64c62 .n (f64s15 num3 den4 out5 piece7 common16 t34 t35 t159 t160 m1_0 m1_1 m1_2) (joinK (some f64l15) K) =
  impl_factors.Z62 N num3 den4 out5 piece7 common16 t34 t35 t159 t160 m1_0 m1_1 m1_2 (fun num3 den4 out5 piece7 common16 t34 t35 t159 t160 m1_0 m1_1 m1_2 => K .nrm (f64s15 num3 den4 out5 piece7 common16 t34 t35 t159 t160 m1_0 m1_1 m1_2)) (fun num3 den4 out5 piece7 common16 t34 t35 m1_0 m1_1 m1_2 => K (.exit 6) (f64s14 num3 den4 out5 piece7 common16 t34 t35 m1_0 m1_1 m1_2)) := by kernel_rfl
noncomputable def f64c61 := codeAt (bodyOf Try.f64) [1,1,1,0,1,0,0,1,1,0,0,1,1,1,1,1,1,0,1,0]
noncomputable def f64p61 : Plan := .mk none (some f64l15) .n .n
noncomputable abbrev f64w61 {ρ : Type} (N : Nat) (M : Nat) (σ : St) (K : KT ρ) : Option ρ := loopC (fun σ K => f64i N f64c62 .n σ K) f64l15 M σ K
theorem f64t61L {ρ : Type} (N : Nat) (K : KT ρ) : ∀ (M : Nat) (num3 : List Int) (den4 : List Int) (out5 : List Int) (piece7 : List Int) (common16 : Int) (t34 : Int) (t35 : Int) (t159 : Int) (t160 : Int) (m1_0 : Int) (m1_1 : Int) (m1_2 : List Int), f64w61 N M (f64s15 num3 den4 out5 piece7 common16 t34 t35 t159 t160 m1_0 m1_1 m1_2) K =
  impl_factors.Z61L N (fun num3 den4 out5 piece7 common16 t34 t35 m1_0 m1_1 m1_2 => K (.exit 6) (f64s14 num3 den4 out5 piece7 common16 t34 t35 m1_0 m1_1 m1_2)) M num3 den4 out5 piece7 common16 t34 t35 t159 t160 m1_0 m1_1 m1_2
  | 0, _, _, _, _, _, _, _, _, _, _, _, _ => rfl
  | M + 1, num3, den4, out5, piece7, common16, t34, t35, t159, t160, m1_0, m1_1, m1_2 => viaRound (fun k => impl_factors.Z62 N num3 den4 out5 piece7 common16 t34 t35 t159 t160 m1_0 m1_1 m1_2 k (fun num3 den4 out5 piece7 common16 t34 t35 m1_0 m1_1 m1_2 => K (.exit 6) (f64s14 num3 den4 out5 piece7 common16 t34 t35 m1_0 m1_1 m1_2))) (f64t62 N num3 den4 out5 piece7 common16 t34 t35 t159 t160 m1_0 m1_1 m1_2 (seqK (fun σ => f64w61 N M σ K) K)) (funext fun num3 => funext fun den4 => funext fun out5 => funext fun piece7 => funext fun common16 => funext fun t34 => funext fun t35 => funext fun t159 => funext fun t160 => funext fun m1_0 => funext fun m1_1 => funext fun m1_2 => f64t61L N K M num3 den4 out5 piece7 common16 t34 t35 t159 t160 m1_0 m1_1 m1_2) (by kernel_rfl) (by kernel_rfl)
theorem f64t61 {ρ : Type} (N : Nat) (num3 : List Int) (den4 : List Int) (out5 : List Int) (piece7 : List Int) (common16 : Int) (t34 : Int) (t35 : Int) (t159 : Int) (t160 : Int) (m1_0 : Int) (m1_1 : Int) (m1_2 : List Int) (K : KT ρ) : f64i N f64c61 f64p61 (f64s15 num3 den4 out5 piece7 common16 t34 t35 t159 t160 m1_0 m1_1 m1_2) (joinK (some f64l14) K) =
  impl_factors.Z61 N num3 den4 out5 piece7 common16 t34 t35 t159 t160 m1_0 m1_1 m1_2 (fun num3 den4 out5 piece7 common16 t34 t35 m1_0 m1_1 m1_2 => K (.exit 6) (f64s14 num3 den4 out5 piece7 common16 t34 t35 m1_0 m1_1 m1_2)) :=
  viaLoop (by kernel_rfl) (by kernel_rfl) (σ' := f64s15 num3 den4 out5 piece7 common16 t34 t35 t159 t160 m1_0 m1_1 m1_2) (by kernel_rfl) (f64t61L N (joinK (some f64l14) K) N num3 den4 out5 piece7 common16 t34 t35 t159 t160 m1_0 m1_1 m1_2) (by kernel_rfl)
noncomputable def f64c60 := codeAt (bodyOf Try.f64) [1,1,1,0,1,0,0,1,1,0,0,1,1,1,1,1,1,0,1]
noncomputable def f64p60 : Plan := .mk (some f64l14) none f64p61 .n
theorem f64t60 {ρ : Type} (N : Nat) (num3 : List Int) (den4 : List Int) (out5 : List Int) (piece7 : List Int) (common16 : Int) (t34 : Int) (t35 : Int) (t159 : Int) (t160 : Int) (m1_0 : Int) (m1_1 : Int) (m1_2 : List Int) (K : KT ρ) : f64i N f64c60 f64p60 (f64s15 num3 den4 out5 piece7 common16 t34 t35 t159 t160 m1_0 m1_1 m1_2) (joinK (some f64l14) K) =
  impl_factors.Z60 N num3 den4 out5 piece7 common16 t34 t35 t159 t160 m1_0 m1_1 m1_2 (fun num3 den4 out5 piece7 common16 t34 t35 m1_0 m1_1 m1_2 => K .nrm (f64s14 num3 den4 out5 piece7 common16 t34 t35 m1_0 m1_1 m1_2)) :=
  viaBlock (by kernel_rfl) (by kernel_rfl) (f64t61 N num3 den4 out5 piece7 common16 t34 t35 t159 t160 m1_0 m1_1 m1_2 (blockK 6 (joinK (some f64l14) K))) (by kernel_rfl)
noncomputable def f64c58 := codeAt (bodyOf Try.f64) [1,1,1,0,1,0,0,1,1,0,0,1,1,1,1,1,1,0]
noncomputable def f64p58 : Plan := .mk (some f64l15) none .n f64p60
theorem f64t58 {ρ : Type} (N : Nat) (num3 : List Int) (den4 : List Int) (out5 : List Int) (piece7 : List Int) (common16 : Int) (t34 : Int) (t35 : Int) (m1_0 : Int) (m1_1 : Int) (m1_2 : List Int) (K : KT ρ) : f64i N f64c58 f64p58 (f64s14 num3 den4 out5 piece7 common16 t34 t35 m1_0 m1_1 m1_2) (joinK (some f64l14) K) =
  impl_factors.Z58 N num3 den4 out5 piece7 common16 t34 t35 m1_0 m1_1 m1_2 (fun num3 den4 out5 piece7 common16 t34 t35 m1_0 m1_1 m1_2 => K .nrm (f64s14 num3 den4 out5 piece7 common16 t34 t35 m1_0 m1_1 m1_2)) :=
  viaSeq (fun k => impl_factors.Z59 N num3 den4 out5 piece7 common16 t34 t35 m1_0 m1_1 m1_2 k) (by kernel_rfl) (by kernel_rfl) (f64t59 N num3 den4 out5 piece7 common16 t34 t35 m1_0 m1_1 m1_2 (seqK (fun σ => f64i N f64c60 f64p60 σ (joinK (some f64l14) K)) (joinK (some f64l14) K))) (funext fun num3 => funext fun den4 => funext fun out5 => funext fun piece7 => funext fun common16 => funext fun t34 => funext fun t35 => funext fun t159 => funext fun t160 => funext fun m1_0 => funext fun m1_1 => funext fun m1_2 => f64t60 N num3 den4 out5 piece7 common16 t34 t35 t159 t160 m1_0 m1_1 m1_2 K) (by kernel_rfl) (by kernel_rfl)
noncomputable def f64c64 := codeAt (bodyOf Try.f64) [1,1,1,0,1,0,0,1,1,0,0,1,1,1,1,1,1,1,0]
theorem f64t64 {ρ : Type} (N : Nat) (num3 : List Int) (den4 : List Int) (out5 : List Int) (piece7 : List Int) (common16 : Int) (t34 : Int) (t35 : Int) (m1_0 : Int) (m1_1 : Int) (m1_2 : List Int) (K : KT ρ) : f64i N f64c64 .n (f64s14 num3 den4 out5 piece7 common16 t34 t35 m1_0 m1_1 m1_2) (joinK (some f64l16) K) =
  impl_factors.Z64 N num3 den4 out5 piece7 common16 t34 t35 m1_0 m1_1 m1_2 (fun num3 den4 out5 piece7 common16 g19 t34 t35 m1_0 m1_1 m1_2 => K .nrm (f64s16 num3 den4 out5 piece7 common16 g19 t34 t35 m1_0 m1_1 m1_2)) := by kernel_rfl
noncomputable def f64c67 := codeAt (bodyOf Try.f64) [1,1,1,0,1,0,0,1,1,0,0,1,1,1,1,1,1,1,1,0,0]
theorem f64t67 {ρ : Type} (N : Nat) (num3 : List Int) (den4 : List Int) (out5 : List Int) (piece7 : List Int) (common16 : Int) (g19 : Int) (t34 : Int) (t35 : Int) (m1_0 : Int) (m1_1 : Int) (m1_2 : List Int) (K : KT ρ) : f64i N f64c67 .n (f64s16 num3 den4 out5 piece7 common16 g19 t34 t35 m1_0 m1_1 m1_2) (joinK (some f64l17) K) =
  impl_factors.Z67 N num3 den4 out5 piece7 common16 g19 t34 t35 m1_0 m1_1 m1_2 (fun num3 den4 out5 piece7 common16 g19 t34 t35 t179 t180 m1_0 m1_1 m1_2 => K .nrm (f64s17 num3 den4 out5 piece7 common16 g19 t34 t35 t179 t180 m1_0 m1_1 m1_2)) := by kernel_rfl
noncomputable def f64c70 := codeAt (bodyOf Try.f64) [1,1,1,0,1,0,0,1,1,0,0,1,1,1,1,1,1,1,1,0,1,0,0]
theorem f64t70 {ρ : Type} (N : Nat) (num3 : List Int) (den4 : List Int) (out5 : List Int) (piece7 : List Int) (common16 : Int) (g19 : Int) (t34 : Int) (t35 : Int) (t179 : Int) (t180 : Int) (m1_0 : Int) (m1_1 : Int) (m1_2 : List Int) (K : KT ρ) : f64i N f64c70 .n (f64s17 num3 den4 out5 piece7 common16 g19 t34 t35 t179 t180 m1_0 m1_1 m1_2) (joinK (some f64l17) K) =
  impl_factors.Z70 N num3 den4 out5 piece7 common16 g19 t34 t35 t179 t180 m1_0 m1_1 m1_2 (fun num3 den4 out5 piece7 common16 g19 t34 t35 t179 t180 m1_0 m1_1 m1_2 => K .nrm (f64s17 num3 den4 out5 piece7 common16 g19 t34 t35 t179 t180 m1_0 m1_1 m1_2)) (fun num3 den4 out5 piece7 g19 t34 t35 m1_0 m1_1 m1_2 => K (.exit 8) (f64s18 num3 den4 out5 piece7 g19 t34 t35 m1_0 m1_1 m1_2)) := by kernel_rfl
noncomputable def f64c69 := codeAt (bodyOf Try.f64) [1,1,1,0,1,0,0,1,1,0,0,1,1,1,1,1,1,1,1,0,1,0]
noncomputable def f64p69 : Plan := .mk none (some f64l17) .n .n
noncomputable abbrev f64w69 {ρ : Type} (N : Nat) (M : Nat) (σ : St) (K : KT ρ) : Option ρ := loopC (fun σ K => f64i N f64c70 .n σ K) f64l17 M σ K
theorem f64t69L {ρ : Type} (N : Nat) (K : KT ρ) : ∀ (M : Nat) (num3 : List Int) (den4 : List Int) (out5 : List Int) (piece7 : List Int) (common16 : Int) (g19 : Int) (t34 : Int) (t35 : Int) (t179 : Int) (t180 : Int) (m1_0 : Int) (m1_1 : Int) (m1_2 : List Int), f64w69 N M (f64s17 num3 den4 out5 piece7 common16 g19 t34 t35 t179 t180 m1_0 m1_1 m1_2) K =
  impl_factors.Z69L N (fun num3 den4 out5 piece7 g19 t34 t35 m1_0 m1_1 m1_2 => K (.exit 8) (f64s18 num3 den4 out5 piece7 g19 t34 t35 m1_0 m1_1 m1_2)) M num3 den4 out5 piece7 common16 g19 t34 t35 t179 t180 m1_0 m1_1 m1_2
  | 0, _, _, _, _, _, _, _, _, _, _, _, _, _ => rfl
  | M + 1, num3, den4, out5, piece7, common16, g19, t34, t35, t179, t180, m1_0, m1_1, m1_2 => viaRound (fun k => impl_factors.Z70 N num3 den4 out5 piece7 common16 g19 t34 t35 t179 t180 m1_0 m1_1 m1_2 k (fun num3 den4 out5 piece7 g19 t34 t35 m1_0 m1_1 m1_2 => K (.exit 8) (f64s18 num3 den4 out5 piece7 g19 t34 t35 m1_0 m1_1 m1_2))) (f64t70 N num3 den4 out5 piece7 common16 g19 t34 t35 t179 t180 m1_0 m1_1 m1_2 (seqK (fun σ => f64w69 N M σ K) K)) (funext fun num3 => funext fun den4 => funext fun out5 => funext fun piece7 => funext fun common16 => funext fun g19 => funext fun t34 => funext fun t35 => funext fun t179 => funext fun t180 => funext fun m1_0 => funext fun m1_1 => funext fun m1_2 => f64t69L N K M num3 den4 out5 piece7 common16 g19 t34 t35 t179 t180 m1_0 m1_1 m1_2) (by kernel_rfl) (by kernel_rfl)
theorem f64t69 {ρ : Type} (N : Nat) (num3 : List Int) (den4 : List Int) (out5 : List Int) (piece7 : List Int) (common16 : Int) (g19 : Int) (t34 : Int) (t35 : Int) (t179 : Int) (t180 : Int) (m1_0 : Int) (m1_1 : Int) (m1_2 : List Int) (K : KT ρ) : f64i N f64c69 f64p69 (f64s17 num3 den4 out5 piece7 common16 g19 t34 t35 t179 t180 m1_0 m1_1 m1_2) (joinK (some f64l18) K) =
  impl_factors.Z69 N num3 den4 out5 piece7 common16 g19 t34 t35 t179 t180 m1_0 m1_1 m1_2 (fun num3 den4 out5 piece7 g19 t34 t35 m1_0 m1_1 m1_2 => K (.exit 8) (f64s18 num3 den4 out5 piece7 g19 t34 t35 m1_0 m1_1 m1_2)) :=
  viaLoop (by kernel_rfl) (by kernel_rfl) (σ' := f64s17 num3 den4 out5 piece7 common16 g19 t34 t35 t179 t180 m1_0 m1_1 m1_2) (by kernel_rfl) (f64t69L N (joinK (some f64l18) K) N num3 den4 out5 piece7 common16 g19 t34 t35 t179 t180 m1_0 m1_1 m1_2) (by kernel_rfl)
noncomputable def f64c68 := codeAt (bodyOf Try.f64) [1,1,1,0,1,0,0,1,1,0,0,1,1,1,1,1,1,1,1,0,1]
noncomputable def f64p68 : Plan := .mk (some f64l18) none f64p69 .n
theorem f64t68 {ρ : Type} (N : Nat) (num3 : List Int) (den4 : List Int) (out5 : List Int) (piece7 : List Int) (common16 : Int) (g19 : Int) (t34 : Int) (t35 : Int) (t179 : Int) (t180 : Int) (m1_0 : Int) (m1_1 : Int) (m1_2 : List Int) (K : KT ρ) : f64i N f64c68 f64p68 (f64s17 num3 den4 out5 piece7 common16 g19 t34 t35 t179 t180 m1_0 m1_1 m1_2) (joinK (some f64l18) K) =
  impl_factors.Z68 N num3 den4 out5 piece7 common16 g19 t34 t35 t179 t180 m1_0 m1_1 m1_2 (fun num3 den4 out5 piece7 g19 t34 t35 m1_0 m1_1 m1_2 => K .nrm (f64s18 num3 den4 out5 piece7 g19 t34 t35 m1_0 m1_1 m1_2)) :=
  viaBlock (by kernel_rfl) (by kernel_rfl) (f64t69 N num3 den4 out5 piece7 common16 g19 t34 t35 t179 t180 m1_0 m1_1 m1_2 (blockK 8 (joinK (some f64l18) K))) (by kernel_rfl)
noncomputable def f64c66 := codeAt (bodyOf Try.f64) [1,1,1,0,1,0,0,1,1,0,0,1,1,1,1,1,1,1,1,0]
noncomputable def f64p66 : Plan := .mk (some f64l17) none .n f64p68
theorem f64t66 {ρ : Type} (N : Nat) (num3 : List Int) (den4 : List Int) (out5 : List Int) (piece7 : List Int) (common16 : Int) (g19 : Int) (t34 : Int) (t35 : Int) (m1_0 : Int) (m1_1 : Int) (m1_2 : List Int) (K : KT ρ) : f64i N f64c66 f64p66 (f64s16 num3 den4 out5 piece7 common16 g19 t34 t35 m1_0 m1_1 m1_2) (joinK (some f64l18) K) =
  impl_factors.Z66 N num3 den4 out5 piece7 common16 g19 t34 t35 m1_0 m1_1 m1_2 (fun num3 den4 out5 piece7 g19 t34 t35 m1_0 m1_1 m1_2 => K .nrm (f64s18 num3 den4 out5 piece7 g19 t34 t35 m1_0 m1_1 m1_2)) :=
  viaSeq (fun k => impl_factors.Z67 N num3 den4 out5 piece7 common16 g19 t34 t35 m1_0 m1_1 m1_2 k) (by kernel_rfl) (by kernel_rfl) (f64t67 N num3 den4 out5 piece7 common16 g19 t34 t35 m1_0 m1_1 m1_2 (seqK (fun σ => f64i N f64c68 f64p68 σ (joinK (some f64l18) K)) (joinK (some f64l18) K))) (funext fun num3 => funext fun den4 => funext fun out5 => funext fun piece7 => funext fun common16 => funext fun g19 => funext fun t34 => funext fun t35 => funext fun t179 => funext fun t180 => funext fun m1_0 => funext fun m1_1 => funext fun m1_2 => f64t68 N num3 den4 out5 piece7 common16 g19 t34 t35 t179 t180 m1_0 m1_1 m1_2 K) (by kernel_rfl) (by kernel_rfl)
noncomputable def f64c72 := codeAt (bodyOf Try.f64) [1,1,1,0,1,0,0,1,1,0,0,1,1,1,1,1,1,1,1,1,0]
theorem f64t72 {ρ : Type} (N : Nat) (num3 : List Int) (den4 : List Int) (out5 : List Int) (piece7 : List Int) (g19 : Int) (t34 : Int) (t35 : Int) (m1_0 : Int) (m1_1 : Int) (m1_2 : List Int) (K : KT ρ) : f64i N f64c72 .n (f64s18 num3 den4 out5 piece7 g19 t34 t35 m1_0 m1_1 m1_2) (joinK (some f64l19) K) =
  impl_factors.Z72 N num3 den4 out5 piece7 g19 t34 t35 m1_0 m1_1 m1_2 (fun num3 den4 out5 t205 g19 t34 t35 t206 t207 m1_0 m1_1 m1_2 => K .nrm (f64s19 num3 den4 out5 t205 g19 t34 t35 t206 t207 m1_0 m1_1 m1_2)) := by kernel_rfl
noncomputable def f64c75 := codeAt (bodyOf Try.f64) [1,1,1,0,1,0,0,1,1,0,0,1,1,1,1,1,1,1,1,1,1,0,0]
theorem f64t75 {ρ : Type} (N : Nat) (num3 : List Int) (den4 : List Int) (out5 : List Int) (t205 : List Int) (g19 : Int) (t34 : Int) (t35 : Int) (t206 : Int) (t207 : Int) (m1_0 : Int) (m1_1 : Int) (m1_2 : List Int) (K : KT ρ) : f64i N f64c75 .n (f64s19 num3 den4 out5 t205 g19 t34 t35 t206 t207 m1_0 m1_1 m1_2) (joinK (some f64l19) K) =
  impl_factors.Z75 N num3 den4 out5 t205 g19 t34 t35 t206 t207 m1_0 m1_1 m1_2 (fun num3 den4 out5 t205 g19 t34 t35 t206 t207 m1_0 m1_1 m1_2 => K .nrm (f64s19 num3 den4 out5 t205 g19 t34 t35 t206 t207 m1_0 m1_1 m1_2)) (fun num3 den4 out5 t34 t35 m1_0 m1_1 m1_2 => K (.exit 10) (f64s4 num3 den4 out5 t34 t35 m1_0 m1_1 m1_2)) := by kernel_rfl
noncomputable def f64c74 := codeAt (bodyOf Try.f64) [1,1,1,0,1,0,0,1,1,0,0,1,1,1,1,1,1,1,1,1,1,0]
noncomputable def f64p74 : Plan := .mk none (some f64l19) .n .n
noncomputable abbrev f64w74 {ρ : Type} (N : Nat) (M : Nat) (σ : St) (K : KT ρ) : Option ρ := loopC (fun σ K => f64i N f64c75 .n σ K) f64l19 M σ K
theorem f64t74L {ρ : Type} (N : Nat) (K : KT ρ) : ∀ (M : Nat) (num3 : List Int) (den4 : List Int) (out5 : List Int) (t205 : List Int) (g19 : Int) (t34 : Int) (t35 : Int) (t206 : Int) (t207 : Int) (m1_0 : Int) (m1_1 : Int) (m1_2 : List Int), f64w74 N M (f64s19 num3 den4 out5 t205 g19 t34 t35 t206 t207 m1_0 m1_1 m1_2) K =
  impl_factors.Z74L N (fun num3 den4 out5 t34 t35 m1_0 m1_1 m1_2 => K (.exit 10) (f64s4 num3 den4 out5 t34 t35 m1_0 m1_1 m1_2)) M num3 den4 out5 t205 g19 t34 t35 t206 t207 m1_0 m1_1 m1_2
  | 0, _, _, _, _, _, _, _, _, _, _, _, _ => rfl
  | M + 1, num3, den4, out5, t205, g19, t34, t35, t206, t207, m1_0, m1_1, m1_2 => viaRound (fun k => impl_factors.Z75 N num3 den4 out5 t205 g19 t34 t35 t206 t207 m1_0 m1_1 m1_2 k (fun num3 den4 out5 t34 t35 m1_0 m1_1 m1_2 => K (.exit 10) (f64s4 num3 den4 out5 t34 t35 m1_0 m1_1 m1_2))) (f64t75 N num3 den4 out5 t205 g19 t34 t35 t206 t207 m1_0 m1_1 m1_2 (seqK (fun σ => f64w74 N M σ K) K)) (funext fun num3 => funext fun den4 => funext fun out5 => funext fun t205 => funext fun g19 => funext fun t34 => funext fun t35 => funext fun t206 => funext fun t207 => funext fun m1_0 => funext fun m1_1 => funext fun m1_2 => f64t74L N K M num3 den4 out5 t205 g19 t34 t35 t206 t207 m1_0 m1_1 m1_2) (by kernel_rfl) (by kernel_rfl)
theorem f64t74 {ρ : Type} (N : Nat) (num3 : List Int) (den4 : List Int) (out5 : List Int) (t205 : List Int) (g19 : Int) (t34 : Int) (t35 : Int) (t206 : Int) (t207 : Int) (m1_0 : Int) (m1_1 : Int) (m1_2 : List Int) (K : KT ρ) : f64i N f64c74 f64p74 (f64s19 num3 den4 out5 t205 g19 t34 t35 t206 t207 m1_0 m1_1 m1_2) (joinK (some f64l4) K) =
  impl_factors.Z74 N num3 den4 out5 t205 g19 t34 t35 t206 t207 m1_0 m1_1 m1_2 (fun num3 den4 out5 t34 t35 m1_0 m1_1 m1_2 => K (.exit 10) (f64s4 num3 den4 out5 t34 t35 m1_0 m1_1 m1_2)) :=
  viaLoop (by kernel_rfl) (by kernel_rfl) (σ' := f64s19 num3 den4 out5 t205 g19 t34 t35 t206 t207 m1_0 m1_1 m1_2) (by kernel_rfl) (f64t74L N (joinK (some f64l4) K) N num3 den4 out5 t205 g19 t34 t35 t206 t207 m1_0 m1_1 m1_2) (by kernel_rfl)
noncomputable def f64c73 := codeAt (bodyOf Try.f64) [1,1,1,0,1,0,0,1,1,0,0,1,1,1,1,1,1,1,1,1,1]
noncomputable def f64p73 : Plan := .mk (some f64l4) none f64p74 .n
theorem f64t73 {ρ : Type} (N : Nat) (num3 : List Int) (den4 : List Int) (out5 : List Int) (t205 : List Int) (g19 : Int) (t34 : Int) (t35 : Int) (t206 : Int) (t207 : Int) (m1_0 : Int) (m1_1 : Int) (m1_2 : List Int) (K : KT ρ) : f64i N f64c73 f64p73 (f64s19 num3 den4 out5 t205 g19 t34 t35 t206 t207 m1_0 m1_1 m1_2) (joinK (some f64l4) K) =
  impl_factors.Z73 N num3 den4 out5 t205 g19 t34 t35 t206 t207 m1_0 m1_1 m1_2 (fun num3 den4 out5 t34 t35 m1_0 m1_1 m1_2 => K .nrm (f64s4 num3 den4 out5 t34 t35 m1_0 m1_1 m1_2)) :=
  viaBlock (by kernel_rfl) (by kernel_rfl) (f64t74 N num3 den4 out5 t205 g19 t34 t35 t206 t207 m1_0 m1_1 m1_2 (blockK 10 (joinK (some f64l4) K))) (by kernel_rfl)
noncomputable def f64c71 := codeAt (bodyOf Try.f64) [1,1,1,0,1,0,0,1,1,0,0,1,1,1,1,1,1,1,1,1]
noncomputable def f64p71 : Plan := .mk (some f64l19) none .n f64p73
theorem f64t71 {ρ : Type} (N : Nat) (num3 : List Int) (den4 : List Int) (out5 : List Int) (piece7 : List Int) (g19 : Int) (t34 : Int) (t35 : Int) (m1_0 : Int) (m1_1 : Int) (m1_2 : List Int) (K : KT ρ) : f64i N f64c71 f64p71 (f64s18 num3 den4 out5 piece7 g19 t34 t35 m1_0 m1_1 m1_2) (joinK (some f64l4) K) =
  impl_factors.Z71 N num3 den4 out5 piece7 g19 t34 t35 m1_0 m1_1 m1_2 (fun num3 den4 out5 t34 t35 m1_0 m1_1 m1_2 => K .nrm (f64s4 num3 den4 out5 t34 t35 m1_0 m1_1 m1_2)) :=
  viaSeq (fun k => impl_factors.Z72 N num3 den4 out5 piece7 g19 t34 t35 m1_0 m1_1 m1_2 k) (by kernel_rfl) (by kernel_rfl) (f64t72 N num3 den4 out5 piece7 g19 t34 t35 m1_0 m1_1 m1_2 (seqK (fun σ => f64i N f64c73 f64p73 σ (joinK (some f64l4) K)) (joinK (some f64l4) K))) (funext fun num3 => funext fun den4 => funext fun out5 => funext fun t205 => funext fun g19 => funext fun t34 => funext fun t35 => funext fun t206 => funext fun t207 => funext fun m1_0 => funext fun m1_1 => funext fun m1_2 => f64t73 N num3 den4 out5 t205 g19 t34 t35 t206 t207 m1_0 m1_1 m1_2 K) (by kernel_rfl) (by kernel_rfl)
noncomputable def f64c65 := codeAt (bodyOf Try.f64) [1,1,1,0,1,0,0,1,1,0,0,1,1,1,1,1,1,1,1]
noncomputable def f64p65 : Plan := .mk (some f64l18) none f64p66 f64p71
theorem f64t65 {ρ : Type} (N : Nat) (num3 : List Int) (den4 : List Int) (out5 : List Int) (piece7 : List Int) (common16 : Int) (g19 : Int) (t34 : Int) (t35 : Int) (m1_0 : Int) (m1_1 : Int) (m1_2 : List Int) (K : KT ρ) : f64i N f64c65 f64p65 (f64s16 num3 den4 out5 piece7 common16 g19 t34 t35 m1_0 m1_1 m1_2) (joinK (some f64l4) K) =
  impl_factors.Z65 N num3 den4 out5 piece7 common16 g19 t34 t35 m1_0 m1_1 m1_2 (fun num3 den4 out5 t34 t35 m1_0 m1_1 m1_2 => K .nrm (f64s4 num3 den4 out5 t34 t35 m1_0 m1_1 m1_2)) :=
  viaSeq (fun k => impl_factors.Z66 N num3 den4 out5 piece7 common16 g19 t34 t35 m1_0 m1_1 m1_2 k) (by kernel_rfl) (by kernel_rfl) (f64t66 N num3 den4 out5 piece7 common16 g19 t34 t35 m1_0 m1_1 m1_2 (seqK (fun σ => f64i N f64c71 f64p71 σ (joinK (some f64l4) K)) (joinK (some f64l4) K))) (funext fun num3 => funext fun den4 => funext fun out5 => funext fun piece7 => funext fun g19 => funext fun t34 => funext fun t35 => funext fun m1_0 => funext fun m1_1 => funext fun m1_2 => f64t71 N num3 den4 out5 piece7 g19 t34 t35 m1_0 m1_1 m1_2 K) (by kernel_rfl) (by kernel_rfl)
noncomputable def f64c63 := codeAt (bodyOf Try.f64) [1,1,1,0,1,0,0,1,1,0,0,1,1,1,1,1,1,1]
noncomputable def f64p63 : Plan := .mk (some f64l16) none .n f64p65
theorem f64t63 {ρ : Type} (N : Nat) (num3 : List Int) (den4 : List Int) (out5 : List Int) (piece7 : List Int) (common16 : Int) (t34 : Int) (t35 : Int) (m1_0 : Int) (m1_1 : Int) (m1_2 : List Int) (K : KT ρ) : f64i N f64c63 f64p63 (f64s14 num3 den4 out5 piece7 common16 t34 t35 m1_0 m1_1 m1_2) (joinK (some f64l4) K) =
  impl_factors.Z63 N num3 den4 out5 piece7 common16 t34 t35 m1_0 m1_1 m1_2 (fun num3 den4 out5 t34 t35 m1_0 m1_1 m1_2 => K .nrm (f64s4 num3 den4 out5 t34 t35 m1_0 m1_1 m1_2)) :=
  viaSeq (fun k => impl_factors.Z64 N num3 den4 out5 piece7 common16 t34 t35 m1_0 m1_1 m1_2 k) (by kernel_rfl) (by kernel_rfl) (f64t64 N num3 den4 out5 piece7 common16 t34 t35 m1_0 m1_1 m1_2 (seqK (fun σ => f64i N f64c65 f64p65 σ (joinK (some f64l4) K)) (joinK (some f64l4) K))) (funext fun num3 => funext fun den4 => funext fun out5 => funext fun piece7 => funext fun common16 => funext fun g19 => funext fun t34 => funext fun t35 => funext fun m1_0 => funext fun m1_1 => funext fun m1_2 => f64t65 N num3 den4 out5 piece7 common16 g19 t34 t35 m1_0 m1_1 m1_2 K) (by kernel_rfl) (by kernel_rfl)
noncomputable def f64c57 := codeAt (bodyOf Try.f64) [1,1,1,0,1,0,0,1,1,0,0,1,1,1,1,1,1]
noncomputable def f64p57 : Plan := .mk (some f64l14) none f64p58 f64p63
theorem f64t57 {ρ : Type} (N : Nat) (num3 : List Int) (den4 : List Int) (out5 : List Int) (piece7 : List Int) (common16 : Int) (t34 : Int) (t35 : Int) (m1_0 : Int) (m1_1 : Int) (m1_2 : List Int) (K : KT ρ) : f64i N f64c57 f64p57 (f64s14 num3 den4 out5 piece7 common16 t34 t35 m1_0 m1_1 m1_2) (joinK (some f64l4) K) =
  impl_factors.Z57 N num3 den4 out5 piece7 common16 t34 t35 m1_0 m1_1 m1_2 (fun num3 den4 out5 t34 t35 m1_0 m1_1 m1_2 => K .nrm (f64s4 num3 den4 out5 t34 t35 m1_0 m1_1 m1_2)) :=
  viaSeq (fun k => impl_factors.Z58 N num3 den4 out5 piece7 common16 t34 t35 m1_0 m1_1 m1_2 k) (by kernel_rfl) (by kernel_rfl) (f64t58 N num3 den4 out5 piece7 common16 t34 t35 m1_0 m1_1 m1_2 (seqK (fun σ => f64i N f64c63 f64p63 σ (joinK (some f64l4) K)) (joinK (some f64l4) K))) (funext fun num3 => funext fun den4 => funext fun out5 => funext fun piece7 => funext fun common16 => funext fun t34 => funext fun t35 => funext fun m1_0 => funext fun m1_1 => funext fun m1_2 => f64t63 N num3 den4 out5 piece7 common16 t34 t35 m1_0 m1_1 m1_2 K) (by kernel_rfl) (by kernel_rfl)
noncomputable def f64c55 := codeAt (bodyOf Try.f64) [1,1,1,0,1,0,0,1,1,0,0,1,1,1,1,1]
noncomputable def f64p55 : Plan := .mk (some f64l14) none .n f64p57
theorem f64t55 {ρ : Type} (N : Nat) (num3 : List Int) (den4 : List Int) (out5 : List Int) (piece7 : List Int) (t34 : Int) (t35 : Int) (m1_0 : Int) (m1_1 : Int) (m1_2 : List Int) (K : KT ρ) : f64i N f64c55 f64p55 (f64s7 num3 den4 out5 piece7 t34 t35 m1_0 m1_1 m1_2) (joinK (some f64l4) K) =
  impl_factors.Z55 N num3 den4 out5 piece7 t34 t35 m1_0 m1_1 m1_2 (fun num3 den4 out5 t34 t35 m1_0 m1_1 m1_2 => K .nrm (f64s4 num3 den4 out5 t34 t35 m1_0 m1_1 m1_2)) :=
  viaSeq (fun k => impl_factors.Z56 N num3 den4 out5 piece7 t34 t35 m1_0 m1_1 m1_2 k) (by kernel_rfl) (by kernel_rfl) (f64t56 N num3 den4 out5 piece7 t34 t35 m1_0 m1_1 m1_2 (seqK (fun σ => f64i N f64c57 f64p57 σ (joinK (some f64l4) K)) (joinK (some f64l4) K))) (funext fun num3 => funext fun den4 => funext fun out5 => funext fun piece7 => funext fun common16 => funext fun t34 => funext fun t35 => funext fun m1_0 => funext fun m1_1 => funext fun m1_2 => f64t57 N num3 den4 out5 piece7 common16 t34 t35 m1_0 m1_1 m1_2 K) (by kernel_rfl) (by kernel_rfl)
noncomputable def f64c25 := codeAt (bodyOf Try.f64) [1,1,1,0,1,0,0,1,1,0,0,1,1,1,1]
noncomputable def f64p25 : Plan := .mk (some f64l7) none f64p26 f64p55
theorem f64t25 {ρ : Type} (N : Nat) (num3 : List Int) (den4 : List Int) (out5 : List Int) (piece7 : List Int) (t34 : Int) (t35 : Int) (m1_0 : Int) (m1_1 : Int) (m1_2 : List Int) (K : KT ρ) : f64i N f64c25 f64p25 (f64s7 num3 den4 out5 piece7 t34 t35 m1_0 m1_1 m1_2) (joinK (some f64l4) K) =
  impl_factors.Z25 N num3 den4 out5 piece7 t34 t35 m1_0 m1_1 m1_2 (fun num3 den4 out5 t34 t35 m1_0 m1_1 m1_2 => K .nrm (f64s4 num3 den4 out5 t34 t35 m1_0 m1_1 m1_2)) (fun t2 => K .ret (f64s21 t2)) :=
  viaSeq (fun k => impl_factors.Z26 N num3 den4 out5 piece7 t34 t35 m1_0 m1_1 m1_2 k (fun t2 => K .ret (f64s21 t2))) (by kernel_rfl) (by kernel_rfl) (f64t26 N num3 den4 out5 piece7 t34 t35 m1_0 m1_1 m1_2 (seqK (fun σ => f64i N f64c55 f64p55 σ (joinK (some f64l4) K)) (joinK (some f64l4) K))) (funext fun num3 => funext fun den4 => funext fun out5 => funext fun piece7 => funext fun t34 => funext fun t35 => funext fun m1_0 => funext fun m1_1 => funext fun m1_2 => f64t55 N num3 den4 out5 piece7 t34 t35 m1_0 m1_1 m1_2 K) (by kernel_rfl) (by kernel_rfl)
noncomputable def f64c23 := codeAt (bodyOf Try.f64) [1,1,1,0,1,0,0,1,1,0,0,1,1,1]
noncomputable def f64p23 : Plan := .mk (some f64l7) none .n f64p25
theorem f64t23 {ρ : Type} (N : Nat) (num3 : List Int) (den4 : List Int) (out5 : List Int) (s6 : Int) (t34 : Int) (t35 : Int) (m1_0 : Int) (m1_1 : Int) (m1_2 : List Int) (K : KT ρ) : f64i N f64c23 f64p23 (f64s6 num3 den4 out5 s6 t34 t35 m1_0 m1_1 m1_2) (joinK (some f64l4) K) =
  impl_factors.Z23 N num3 den4 out5 s6 t34 t35 m1_0 m1_1 m1_2 (fun num3 den4 out5 t34 t35 m1_0 m1_1 m1_2 => K .nrm (f64s4 num3 den4 out5 t34 t35 m1_0 m1_1 m1_2)) (fun t2 => K .ret (f64s21 t2)) :=
  viaSeq (fun k => impl_factors.Z24 N num3 den4 out5 s6 t34 t35 m1_0 m1_1 m1_2 k) (by kernel_rfl) (by kernel_rfl) (f64t24 N num3 den4 out5 s6 t34 t35 m1_0 m1_1 m1_2 (seqK (fun σ => f64i N f64c25 f64p25 σ (joinK (some f64l4) K)) (joinK (some f64l4) K))) (funext fun num3 => funext fun den4 => funext fun out5 => funext fun piece7 => funext fun t34 => funext fun t35 => funext fun m1_0 => funext fun m1_1 => funext fun m1_2 => f64t25 N num3 den4 out5 piece7 t34 t35 m1_0 m1_1 m1_2 K) (by kernel_rfl) (by kernel_rfl)
noncomputable def f64c21 := codeAt (bodyOf Try.f64) [1,1,1,0,1,0,0,1,1,0,0,1,1]
noncomputable def f64p21 : Plan := .mk (some f64l6) none .n f64p23
theorem f64t21 {ρ : Type} (N : Nat) (num3 : List Int) (den4 : List Int) (out5 : List Int) (s6 : Int) (t34 : Int) (t35 : Int) (m1_0 : Int) (m1_1 : Int) (m1_2 : List Int) (K : KT ρ) : f64i N f64c21 f64p21 (f64s6 num3 den4 out5 s6 t34 t35 m1_0 m1_1 m1_2) (joinK (some f64l4) K) =
  impl_factors.Z21 N num3 den4 out5 s6 t34 t35 m1_0 m1_1 m1_2 (fun num3 den4 out5 t34 t35 m1_0 m1_1 m1_2 => K .nrm (f64s4 num3 den4 out5 t34 t35 m1_0 m1_1 m1_2)) (fun t2 => K .ret (f64s21 t2)) :=
  viaSeq (fun k => impl_factors.Z22 N num3 den4 out5 s6 t34 t35 m1_0 m1_1 m1_2 k) (by kernel_rfl) (by kernel_rfl) (f64t22 N num3 den4 out5 s6 t34 t35 m1_0 m1_1 m1_2 (seqK (fun σ => f64i N f64c23 f64p23 σ (joinK (some f64l4) K)) (joinK (some f64l4) K))) (funext fun num3 => funext fun den4 => funext fun out5 => funext fun s6 => funext fun t34 => funext fun t35 => funext fun m1_0 => funext fun m1_1 => funext fun m1_2 => f64t23 N num3 den4 out5 s6 t34 t35 m1_0 m1_1 m1_2 K) (by kernel_rfl) (by kernel_rfl)
noncomputable def f64c19 := codeAt (bodyOf Try.f64) [1,1,1,0,1,0,0,1,1,0,0,1]
noncomputable def f64p19 : Plan := .mk (some f64l6) none .n f64p21
theorem f64t19 {ρ : Type} (N : Nat) (num3 : List Int) (den4 : List Int) (out5 : List Int) (s6 : Int) (t34 : Int) (t35 : Int) (m1_0 : Int) (m1_1 : Int) (m1_2 : List Int) (K : KT ρ) : f64i N f64c19 f64p19 (f64s6 num3 den4 out5 s6 t34 t35 m1_0 m1_1 m1_2) (joinK (some f64l4) K) =
  impl_factors.Z19 N num3 den4 out5 s6 t34 t35 m1_0 m1_1 m1_2 (fun num3 den4 out5 t34 t35 m1_0 m1_1 m1_2 => K .nrm (f64s4 num3 den4 out5 t34 t35 m1_0 m1_1 m1_2)) (fun num3 den4 out5 t34 t35 m1_0 m1_1 m1_2 => K (.exit 1) (f64s4 num3 den4 out5 t34 t35 m1_0 m1_1 m1_2)) (fun t2 => K .ret (f64s21 t2)) :=
  viaSeq (fun k => impl_factors.Z20 N num3 den4 out5 s6 t34 t35 m1_0 m1_1 m1_2 k (fun num3 den4 out5 t34 t35 m1_0 m1_1 m1_2 => K (.exit 1) (f64s4 num3 den4 out5 t34 t35 m1_0 m1_1 m1_2))) (by kernel_rfl) (by kernel_rfl) (f64t20 N num3 den4 out5 s6 t34 t35 m1_0 m1_1 m1_2 (seqK (fun σ => f64i N f64c21 f64p21 σ (joinK (some f64l4) K)) (joinK (some f64l4) K))) (funext fun num3 => funext fun den4 => funext fun out5 => funext fun s6 => funext fun t34 => funext fun t35 => funext fun m1_0 => funext fun m1_1 => funext fun m1_2 => f64t21 N num3 den4 out5 s6 t34 t35 m1_0 m1_1 m1_2 K) (by kernel_rfl) (by kernel_rfl)
noncomputable def f64c17 := codeAt (bodyOf Try.f64) [1,1,1,0,1,0,0,1,1,0,0]
noncomputable def f64p17 : Plan := .mk (some f64l6) none .n f64p19
theorem f64t17 {ρ : Type} (N : Nat) (num3 : List Int) (den4 : List Int) (out5 : List Int) (t34 : Int) (t35 : Int) (m1_0 : Int) (m1_1 : Int) (m1_2 : List Int) (K : KT ρ) : f64i N f64c17 f64p17 (f64s4 num3 den4 out5 t34 t35 m1_0 m1_1 m1_2) (joinK (some f64l4) K) =
  impl_factors.Z17 N num3 den4 out5 t34 t35 m1_0 m1_1 m1_2 (fun num3 den4 out5 t34 t35 m1_0 m1_1 m1_2 => K .nrm (f64s4 num3 den4 out5 t34 t35 m1_0 m1_1 m1_2)) (fun num3 den4 out5 t34 t35 m1_0 m1_1 m1_2 => K (.exit 1) (f64s4 num3 den4 out5 t34 t35 m1_0 m1_1 m1_2)) (fun t2 => K .ret (f64s21 t2)) :=
  viaSeq (fun k => impl_factors.Z18 N num3 den4 out5 t34 t35 m1_0 m1_1 m1_2 k) (by kernel_rfl) (by kernel_rfl) (f64t18 N num3 den4 out5 t34 t35 m1_0 m1_1 m1_2 (seqK (fun σ => f64i N f64c19 f64p19 σ (joinK (some f64l4) K)) (joinK (some f64l4) K))) (funext fun num3 => funext fun den4 => funext fun out5 => funext fun s6 => funext fun t34 => funext fun t35 => funext fun m1_0 => funext fun m1_1 => funext fun m1_2 => f64t19 N num3 den4 out5 s6 t34 t35 m1_0 m1_1 m1_2 K) (by kernel_rfl) (by kernel_rfl)
noncomputable def f64c16 := codeAt (bodyOf Try.f64) [1,1,1,0,1,0,0,1,1,0]
noncomputable def f64p16 : Plan := .mk (some f64l4) none f64p17 .n
theorem f64t16 {ρ : Type} (N : Nat) (num3 : List Int) (den4 : List Int) (out5 : List Int) (t34 : Int) (t35 : Int) (m1_0 : Int) (m1_1 : Int) (m1_2 : List Int) (K : KT ρ) : f64i N f64c16 f64p16 (f64s4 num3 den4 out5 t34 t35 m1_0 m1_1 m1_2) (joinK (some f64l4) K) =
  impl_factors.Z16 N num3 den4 out5 t34 t35 m1_0 m1_1 m1_2 (fun num3 den4 out5 t34 t35 m1_0 m1_1 m1_2 => K .nrm (f64s4 num3 den4 out5 t34 t35 m1_0 m1_1 m1_2)) (fun t2 => K .ret (f64s21 t2)) :=
  viaBlock (by kernel_rfl) (by kernel_rfl) (f64t17 N num3 den4 out5 t34 t35 m1_0 m1_1 m1_2 (blockK 1 (joinK (some f64l4) K))) (by kernel_rfl)
noncomputable def f64c76 := codeAt (bodyOf Try.f64) [1,1,1,0,1,0,0,1,1,1]
theorem f64t76 {ρ : Type} (N : Nat) (num3 : List Int) (den4 : List Int) (out5 : List Int) (t34 : Int) (t35 : Int) (m1_0 : Int) (m1_1 : Int) (m1_2 : List Int) (K : KT ρ) : f64i N f64c76 .n (f64s4 num3 den4 out5 t34 t35 m1_0 m1_1 m1_2) (joinK (some f64l4) K) =
  impl_factors.Z76 N num3 den4 out5 t34 t35 m1_0 m1_1 m1_2 (fun num3 den4 out5 t34 t35 m1_0 m1_1 m1_2 => K .nrm (f64s4 num3 den4 out5 t34 t35 m1_0 m1_1 m1_2)) := by kernel_rfl
noncomputable def f64c15 := codeAt (bodyOf Try.f64) [1,1,1,0,1,0,0,1,1]
noncomputable def f64p15 : Plan := .mk (some f64l4) none f64p16 .n
theorem f64t15 {ρ : Type} (N : Nat) (num3 : List Int) (den4 : List Int) (out5 : List Int) (t34 : Int) (t35 : Int) (m1_0 : Int) (m1_1 : Int) (m1_2 : List Int) (K : KT ρ) : f64i N f64c15 f64p15 (f64s4 num3 den4 out5 t34 t35 m1_0 m1_1 m1_2) (joinK (some f64l4) K) =
  impl_factors.Z15 N num3 den4 out5 t34 t35 m1_0 m1_1 m1_2 (fun num3 den4 out5 t34 t35 m1_0 m1_1 m1_2 => K .nrm (f64s4 num3 den4 out5 t34 t35 m1_0 m1_1 m1_2)) (fun t2 => K .ret (f64s21 t2)) :=
  viaSeq (fun k => impl_factors.Z16 N num3 den4 out5 t34 t35 m1_0 m1_1 m1_2 k (fun t2 => K .ret (f64s21 t2))) (by kernel_rfl) (by kernel_rfl) (f64t16 N num3 den4 out5 t34 t35 m1_0 m1_1 m1_2 (seqK (fun σ => f64i N f64c76 .n σ (joinK (some f64l4) K)) (joinK (some f64l4) K))) (funext fun num3 => funext fun den4 => funext fun out5 => funext fun t34 => funext fun t35 => funext fun m1_0 => funext fun m1_1 => funext fun m1_2 => f64t76 N num3 den4 out5 t34 t35 m1_0 m1_1 m1_2 K) (by kernel_rfl) (by kernel_rfl)
noncomputable def f64c13 := codeAt (bodyOf Try.f64) [1,1,1,0,1,0,0,1]
noncomputable def f64p13 : Plan := .mk (some f64l4) none .n f64p15
theorem f64t13 {ρ : Type} (N : Nat) (num3 : List Int) (den4 : List Int) (out5 : List Int) (t34 : Int) (t35 : Int) (t36 : Bool) (m1_0 : Int) (m1_1 : Int) (m1_2 : List Int) (K : KT ρ) : f64i N f64c13 f64p13 (f64s5 num3 den4 out5 t34 t35 t36 m1_0 m1_1 m1_2) (joinK (some f64l4) K) =
  impl_factors.Z13 N num3 den4 out5 t34 t35 t36 m1_0 m1_1 m1_2 (fun num3 den4 out5 t34 t35 m1_0 m1_1 m1_2 => K .nrm (f64s4 num3 den4 out5 t34 t35 m1_0 m1_1 m1_2)) (fun out5 => K (.exit 0) (f64s20 out5)) (fun t2 => K .ret (f64s21 t2)) :=
  viaSeq (fun k => impl_factors.Z14 N num3 den4 out5 t34 t35 t36 m1_0 m1_1 m1_2 k (fun out5 => K (.exit 0) (f64s20 out5))) (by kernel_rfl) (by kernel_rfl) (f64t14 N num3 den4 out5 t34 t35 t36 m1_0 m1_1 m1_2 (seqK (fun σ => f64i N f64c15 f64p15 σ (joinK (some f64l4) K)) (joinK (some f64l4) K))) (funext fun num3 => funext fun den4 => funext fun out5 => funext fun t34 => funext fun t35 => funext fun m1_0 => funext fun m1_1 => funext fun m1_2 => f64t15 N num3 den4 out5 t34 t35 m1_0 m1_1 m1_2 K) (by kernel_rfl) (by kernel_rfl)
noncomputable def f64c11 := codeAt (bodyOf Try.f64) [1,1,1,0,1,0,0]
noncomputable def f64p11 : Plan := .mk (some f64l5) none .n f64p13
theorem f64t11 {ρ : Type} (N : Nat) (num3 : List Int) (den4 : List Int) (out5 : List Int) (t34 : Int) (t35 : Int) (m1_0 : Int) (m1_1 : Int) (m1_2 : List Int) (K : KT ρ) : f64i N f64c11 f64p11 (f64s4 num3 den4 out5 t34 t35 m1_0 m1_1 m1_2) (joinK (some f64l4) K) =
  impl_factors.Z11 N num3 den4 out5 t34 t35 m1_0 m1_1 m1_2 (fun num3 den4 out5 t34 t35 m1_0 m1_1 m1_2 => K .nrm (f64s4 num3 den4 out5 t34 t35 m1_0 m1_1 m1_2)) (fun out5 => K (.exit 0) (f64s20 out5)) (fun t2 => K .ret (f64s21 t2)) :=
  viaSeq (fun k => impl_factors.Z12 N num3 den4 out5 t34 t35 m1_0 m1_1 m1_2 k) (by kernel_rfl) (by kernel_rfl) (f64t12 N num3 den4 out5 t34 t35 m1_0 m1_1 m1_2 (seqK (fun σ => f64i N f64c13 f64p13 σ (joinK (some f64l4) K)) (joinK (some f64l4) K))) (funext fun num3 => funext fun den4 => funext fun out5 => funext fun t34 => funext fun t35 => funext fun t36 => funext fun m1_0 => funext fun m1_1 => funext fun m1_2 => f64t13 N num3 den4 out5 t34 t35 t36 m1_0 m1_1 m1_2 K) (by kernel_rfl) (by kernel_rfl)
noncomputable def f64c10 := codeAt (bodyOf Try.f64) [1,1,1,0,1,0]
noncomputable def f64p10 : Plan := .mk none (some f64l4) f64p11 .n
noncomputable abbrev f64w10 {ρ : Type} (N : Nat) (M : Nat) (σ : St) (K : KT ρ) : Option ρ := loopC (fun σ K => f64i N f64c11 f64p11 σ K) f64l4 M σ K
theorem f64t10L {ρ : Type} (N : Nat) (K : KT ρ) : ∀ (M : Nat) (num3 : List Int) (den4 : List Int) (out5 : List Int) (t34 : Int) (t35 : Int) (m1_0 : Int) (m1_1 : Int) (m1_2 : List Int), f64w10 N M (f64s4 num3 den4 out5 t34 t35 m1_0 m1_1 m1_2) K =
  impl_factors.Z10L N (fun out5 => K (.exit 0) (f64s20 out5)) (fun t2 => K .ret (f64s21 t2)) M num3 den4 out5 t34 t35 m1_0 m1_1 m1_2
  | 0, _, _, _, _, _, _, _, _ => rfl
  | M + 1, num3, den4, out5, t34, t35, m1_0, m1_1, m1_2 => viaRound (fun k => impl_factors.Z11 N num3 den4 out5 t34 t35 m1_0 m1_1 m1_2 k (fun out5 => K (.exit 0) (f64s20 out5)) (fun t2 => K .ret (f64s21 t2))) (f64t11 N num3 den4 out5 t34 t35 m1_0 m1_1 m1_2 (seqK (fun σ => f64w10 N M σ K) K)) (funext fun num3 => funext fun den4 => funext fun out5 => funext fun t34 => funext fun t35 => funext fun m1_0 => funext fun m1_1 => funext fun m1_2 => f64t10L N K M num3 den4 out5 t34 t35 m1_0 m1_1 m1_2) (by kernel_rfl) (by kernel_rfl)
theorem f64t10 {ρ : Type} (N : Nat) (num3 : List Int) (den4 : List Int) (out5 : List Int) (t34 : Int) (t35 : Int) (m1_0 : Int) (m1_1 : Int) (m1_2 : List Int) (K : KT ρ) : f64i N f64c10 f64p10 (f64s4 num3 den4 out5 t34 t35 m1_0 m1_1 m1_2) (joinK (some f64l20) K) =
  impl_factors.Z10 N num3 den4 out5 t34 t35 m1_0 m1_1 m1_2 (fun out5 => K (.exit 0) (f64s20 out5)) (fun t2 => K .ret (f64s21 t2)) :=
  viaLoop (by kernel_rfl) (by kernel_rfl) (σ' := f64s4 num3 den4 out5 t34 t35 m1_0 m1_1 m1_2) (by kernel_rfl) (f64t10L N (joinK (some f64l20) K) N num3 den4 out5 t34 t35 m1_0 m1_1 m1_2) (by kernel_rfl)
noncomputable def f64c9 := codeAt (bodyOf Try.f64) [1,1,1,0,1]
noncomputable def f64p9 : Plan := .mk (some f64l20) none f64p10 .n
theorem f64t9 {ρ : Type} (N : Nat) (num3 : List Int) (den4 : List Int) (out5 : List Int) (t34 : Int) (t35 : Int) (m1_0 : Int) (m1_1 : Int) (m1_2 : List Int) (K : KT ρ) : f64i N f64c9 f64p9 (f64s4 num3 den4 out5 t34 t35 m1_0 m1_1 m1_2) (joinK (some f64l20) K) =
  impl_factors.Z9 N num3 den4 out5 t34 t35 m1_0 m1_1 m1_2 (fun out5 => K .nrm (f64s20 out5)) (fun t2 => K .ret (f64s21 t2)) :=
  viaBlock (by kernel_rfl) (by kernel_rfl) (f64t10 N num3 den4 out5 t34 t35 m1_0 m1_1 m1_2 (blockK 0 (joinK (some f64l20) K))) (by kernel_rfl)
noncomputable def f64c7 := codeAt (bodyOf Try.f64) [1,1,1,0]
noncomputable def f64p7 : Plan := .mk (some f64l4) none .n f64p9
theorem f64t7 {ρ : Type} (N : Nat) (num3 : List Int) (den4 : List Int) (out5 : List Int) (m1_0 : Int) (m1_1 : Int) (m1_2 : List Int) (K : KT ρ) : f64i N f64c7 f64p7 (f64s3 num3 den4 out5 m1_0 m1_1 m1_2) (joinK (some f64l20) K) =
  impl_factors.Z7 N num3 den4 out5 m1_0 m1_1 m1_2 (fun out5 => K .nrm (f64s20 out5)) (fun t2 => K .ret (f64s21 t2)) :=
  viaSeq (fun k => impl_factors.Z8 N num3 den4 out5 m1_0 m1_1 m1_2 k) (by kernel_rfl) (by kernel_rfl) (f64t8 N num3 den4 out5 m1_0 m1_1 m1_2 (seqK (fun σ => f64i N f64c9 f64p9 σ (joinK (some f64l20) K)) (joinK (some f64l20) K))) (funext fun num3 => funext fun den4 => funext fun out5 => funext fun t34 => funext fun t35 => funext fun m1_0 => funext fun m1_1 => funext fun m1_2 => f64t9 N num3 den4 out5 t34 t35 m1_0 m1_1 m1_2 K) (by kernel_rfl) (by kernel_rfl)
noncomputable def f64c77 := codeAt (bodyOf Try.f64) [1,1,1,1]
theorem f64t77 {ρ : Type} (N : Nat) (out5 : List Int) (K : KT ρ) : f64i N f64c77 .n (f64s20 out5) (joinK (some f64lE) K) =
  impl_factors.Z77 N out5 (fun t2 => K .ret (f64s21 t2)) := by kernel_rfl
noncomputable def f64c6 := codeAt (bodyOf Try.f64) [1,1,1]
noncomputable def f64p6 : Plan := .mk (some f64l20) none f64p7 .n
theorem f64t6 {ρ : Type} (N : Nat) (num3 : List Int) (den4 : List Int) (out5 : List Int) (m1_0 : Int) (m1_1 : Int) (m1_2 : List Int) (K : KT ρ) : f64i N f64c6 f64p6 (f64s3 num3 den4 out5 m1_0 m1_1 m1_2) (joinK (some f64lE) K) =
  impl_factors.Z6 N num3 den4 out5 m1_0 m1_1 m1_2 (fun t2 => K .ret (f64s21 t2)) :=
  viaSeq (fun k => impl_factors.Z7 N num3 den4 out5 m1_0 m1_1 m1_2 k (fun t2 => K .ret (f64s21 t2))) (by kernel_rfl) (by kernel_rfl) (f64t7 N num3 den4 out5 m1_0 m1_1 m1_2 (seqK (fun σ => f64i N f64c77 .n σ (joinK (some f64lE) K)) (joinK (some f64lE) K))) (funext fun out5 => f64t77 N out5 K) (by kernel_rfl) (by kernel_rfl)
noncomputable def f64c4 := codeAt (bodyOf Try.f64) [1,1]
noncomputable def f64p4 : Plan := .mk (some f64l3) none .n f64p6
theorem f64t4 {ρ : Type} (N : Nat) (num3 : List Int) (den4 : List Int) (m1_0 : Int) (m1_1 : Int) (m1_2 : List Int) (K : KT ρ) : f64i N f64c4 f64p4 (f64s2 num3 den4 m1_0 m1_1 m1_2) (joinK (some f64lE) K) =
  impl_factors.Z4 N num3 den4 m1_0 m1_1 m1_2 (fun t2 => K .ret (f64s21 t2)) :=
  viaSeq (fun k => impl_factors.Z5 N num3 den4 m1_0 m1_1 m1_2 k) (by kernel_rfl) (by kernel_rfl) (f64t5 N num3 den4 m1_0 m1_1 m1_2 (seqK (fun σ => f64i N f64c6 f64p6 σ (joinK (some f64lE) K)) (joinK (some f64lE) K))) (funext fun num3 => funext fun den4 => funext fun out5 => funext fun m1_0 => funext fun m1_1 => funext fun m1_2 => f64t6 N num3 den4 out5 m1_0 m1_1 m1_2 K) (by kernel_rfl) (by kernel_rfl)
noncomputable def f64c2 := codeAt (bodyOf Try.f64) [1]
noncomputable def f64p2 : Plan := .mk (some f64l2) none .n f64p4
theorem f64t2 {ρ : Type} (N : Nat) (m1_0 : Int) (m1_1 : Int) (m1_2 : List Int) (K : KT ρ) : f64i N f64c2 f64p2 (f64s1 m1_0 m1_1 m1_2) (joinK (some f64lE) K) =
  impl_factors.Z2 N m1_0 m1_1 m1_2 (fun t2 => K .ret (f64s21 t2)) :=
  viaSeq (fun k => impl_factors.Z3 N m1_0 m1_1 m1_2 k) (by kernel_rfl) (by kernel_rfl) (f64t3 N m1_0 m1_1 m1_2 (seqK (fun σ => f64i N f64c4 f64p4 σ (joinK (some f64lE) K)) (joinK (some f64lE) K))) (funext fun num3 => funext fun den4 => funext fun m1_0 => funext fun m1_1 => funext fun m1_2 => f64t4 N num3 den4 m1_0 m1_1 m1_2 K) (by kernel_rfl) (by kernel_rfl)
noncomputable def f64c0 := codeAt (bodyOf Try.f64) []
noncomputable def f64p0 : Plan := .mk (some f64l1) none .n f64p2
theorem f64t0 {ρ : Type} (N : Nat) (m0 : Int × Int × List Int) (K : KT ρ) : f64i N f64c0 f64p0 (f64s0 m0) (joinK (some f64lE) K) =
  impl_factors.Z0 N m0 (fun t2 => K .ret (f64s21 t2)) :=
  viaSeq (fun k => impl_factors.Z1 N m0 k) (by kernel_rfl) (by kernel_rfl) (f64t1 N m0 (seqK (fun σ => f64i N f64c2 f64p2 σ (joinK (some f64lE) K)) (joinK (some f64lE) K))) (funext fun m1_0 => funext fun m1_1 => funext fun m1_2 => f64t2 N m1_0 m1_1 m1_2 K) (by kernel_rfl) (by kernel_rfl)
theorem f64m (N : Nat) (m0 : Int × Int × List Int) : f64i N f64c0 f64p0 (f64s0 m0) (joinK (some f64lE) (finK tab f64sig Try.f64.results.toList)) = impl_factors.Z0 N m0 (fun t2 => some ((), (t2, ()))) :=
  (f64t0 N m0 (finK tab f64sig Try.f64.results.toList)).trans (by kernel_rfl)
theorem f64ok (h : impl_factors.Spec) : EntryOk Try.prog 64 e64 :=
  entry_of_code (sig := f64sig) (c := f64c0) (pl := f64p0) (je := (some f64lE)) (B := f64B) Try.func64 (by kernel_rfl) (by kernel_rfl) (by kernel_rfl) tabOk f64GOk (by kernel_rfl) (by kernel_rfl) (by kernel_rfl) (by kernel_rfl) fun X hb hp => by
    obtain ⟨m0, _⟩ := X
    obtain ⟨N, h⟩ := h m0 hb.1 hp
    exact ⟨N, (f64m N m0).trans (h N (Nat.le_refl N))⟩
theorem e64ok : EntryOk Try.prog 64 e64 := f64ok impl_factors.ok
end Go.Fw
set_option linter.unusedVariables false
set_option linter.unusedSimpArgs false
set_option maxRecDepth 100000
namespace Go.Fw
open Go.Proofs
/-! ### loop.example/g03115/impl.MatrixOk -/
noncomputable def f61sig : Sig := ⟨[⟨.pair (.int .i64) (.pair (.int .i64) (.sl 3 (.int .i64))), true, false⟩], [⟨.bool, false, false⟩]⟩
noncomputable def e61 : Entry := ⟨f61sig, none, fun X => ((), ((impl_MatrixOk.g X.1), ()))⟩
noncomputable def f61G : Nat → Option Entry := addG (addG (fun _ => none) 63 e63) 64 e64
theorem f61GOk : GOk Try.prog f61G := ((GOk.nil).add e63ok (by kernel_rfl)).add e64ok (by kernel_rfl)
noncomputable def f61lE : Clean := ⟨[], [], [], [], []⟩
noncomputable def f61s0 (m0 : Int × Int × List Int) : St := initSt f61sig.ps (m0, ())
noncomputable def f61s1 (t2 : Bool) : St := stOf [(2, .c (.bool t2))] [] []
noncomputable def f61l1 : Clean := ⟨[2], [], [], [], []⟩
noncomputable def f61B : Nat → Option Clean := lookL [(1000000, f61l1)]
noncomputable abbrev f61i {ρ : Type} (N : Nat) (c : Code) (p : Plan) (σ : St) (K : KT ρ) : Option ρ := iCode f61G tab f61B N c p σ K
noncomputable def f61c0 := codeAt (bodyOf Try.f61) []
theorem f61t0 {ρ : Type} (N : Nat) (m0 : Int × Int × List Int) (K : KT ρ) : f61i N f61c0 .n (f61s0 m0) (joinK (some f61lE) K) =
  impl_MatrixOk.Z0 N m0 (fun t2 => K .ret (f61s1 t2)) := by kernel_rfl
theorem f61m (N : Nat) (m0 : Int × Int × List Int) : f61i N f61c0 .n (f61s0 m0) (joinK (some f61lE) (finK tab f61sig Try.f61.results.toList)) = impl_MatrixOk.Z0 N m0 (fun t2 => some ((), (t2, ()))) :=
  (f61t0 N m0 (finK tab f61sig Try.f61.results.toList)).trans (by kernel_rfl)
theorem f61ok (h : impl_MatrixOk.Spec) : EntryOk Try.prog 61 e61 :=
  entry_of_code (sig := f61sig) (c := f61c0) (pl := .n) (je := (some f61lE)) (B := f61B) Try.func61 (by kernel_rfl) (by kernel_rfl) (by kernel_rfl) tabOk f61GOk (by kernel_rfl) (by kernel_rfl) (by kernel_rfl) (by kernel_rfl) fun X hb hp => by
    obtain ⟨m0, _⟩ := X
    obtain ⟨N, h⟩ := h m0 hb.1
    exact ⟨N, (f61m N m0).trans (h N (Nat.le_refl N))⟩
theorem e61ok : EntryOk Try.prog 61 e61 := f61ok impl_MatrixOk.ok
end Go.Fw
set_option linter.unusedVariables false
set_option linter.unusedSimpArgs false
set_option maxRecDepth 100000
namespace Go.Fw
open Go.Proofs
/-! ### slices.Clone[[]int,int] -/
noncomputable def f62sig : Sig := ⟨[⟨.sl 3 (.int .i64), false, false⟩], [⟨.sl 3 (.int .i64), false, false⟩]⟩
noncomputable def e62 : Entry := ⟨f62sig, (some fun X => slices_Clone_int_int.P X.1), fun X => ((), ((slices_Clone_int_int.g X.1), ()))⟩
noncomputable def f62G : Nat → Option Entry := (fun _ => none)
theorem f62GOk : GOk Try.prog f62G := GOk.nil
noncomputable def f62lE : Clean := ⟨[], [], [], [], []⟩
noncomputable def f62s0 (s0 : List Int) : St := initSt f62sig.ps (s0, ())
noncomputable def f62s1 (t2 : List Int) : St := stOf [(2, .c (.own 1000128))] [] [(1000128, (⟨3, .int .i64, t2, true, false⟩ : Row))]
noncomputable def f62l1 : Clean := ⟨[2], [], [⟨⟨false, 2, 0⟩, 30000000, 3, .int .i64, true⟩], [], [(⟨false, 2, 0⟩, 1000128)]⟩
noncomputable def f62B : Nat → Option Clean := lookL [(1000000, f62l1)]
noncomputable abbrev f62i {ρ : Type} (N : Nat) (c : Code) (p : Plan) (σ : St) (K : KT ρ) : Option ρ := iCode f62G tab f62B N c p σ K
noncomputable def f62c0 := codeAt (bodyOf Try.f62) []
theorem f62t0 {ρ : Type} (N : Nat) (s0 : List Int) (K : KT ρ) : f62i N f62c0 .n (f62s0 s0) (joinK (some f62lE) K) =
  slices_Clone_int_int.Z0 N s0 (fun t2 => K .ret (f62s1 t2)) := by kernel_rfl
theorem f62m (N : Nat) (s0 : List Int) : f62i N f62c0 .n (f62s0 s0) (joinK (some f62lE) (finK tab f62sig Try.f62.results.toList)) = slices_Clone_int_int.Z0 N s0 (fun t2 => some ((), (t2, ()))) :=
  (f62t0 N s0 (finK tab f62sig Try.f62.results.toList)).trans (by kernel_rfl)
theorem f62ok (h : slices_Clone_int_int.Spec) : EntryOk Try.prog 62 e62 :=
  entry_of_code (sig := f62sig) (c := f62c0) (pl := .n) (je := (some f62lE)) (B := f62B) Try.func62 (by kernel_rfl) (by kernel_rfl) (by kernel_rfl) tabOk f62GOk (by kernel_rfl) (by kernel_rfl) (by kernel_rfl) (by kernel_rfl) fun X hb hp => by
    obtain ⟨s0, _⟩ := X
    obtain ⟨N, h⟩ := h s0 hb.1 hp
    exact ⟨N, (f62m N s0).trans (h N (Nat.le_refl N))⟩
theorem e62ok : EntryOk Try.prog 62 e62 := f62ok slices_Clone_int_int.ok
end Go.Fw
set_option linter.unusedVariables false
set_option linter.unusedSimpArgs false
set_option maxRecDepth 100000
namespace Go.Fw
open Go.Proofs
/-! ### loop.example/g03115/impl.PrincipalMatrix -/
noncomputable def f30sig : Sig := ⟨[⟨.pair (.int .i64) (.pair (.int .i64) (.sl 3 (.int .i64))), true, false⟩], [⟨.pair (.int .i64) (.pair (.int .i64) (.sl 3 (.int .i64))), true, false⟩, ⟨.bool, false, false⟩]⟩
noncomputable def e30 : Entry := ⟨f30sig, none, fun X => ((), ((impl_PrincipalMatrix.g X.1).1, ((impl_PrincipalMatrix.g X.1).2, ())))⟩
noncomputable def f30G : Nat → Option Entry := addG (addG (fun _ => none) 61 e61) 62 e62
theorem f30GOk : GOk Try.prog f30G := ((GOk.nil).add e61ok (by kernel_rfl)).add e62ok (by kernel_rfl)
noncomputable def f30lE : Clean := ⟨[], [], [], [], []⟩
noncomputable def f30s0 (m0 : Int × Int × List Int) : St := initSt f30sig.ps (m0, ())
noncomputable def f30s1 (m1_0 : Int) (m1_1 : Int) (m1_2 : List Int) (t2_0 : Int) (t2_1 : Int) : St := stOf [(1, .c (.box 1 0)), (2, .c (.box 2 0))] [(1, (26, [.int .i64 m1_0, .int .i64 m1_1, .sn 3 (.int .i64) m1_2 none])), (2, (26, [.int .i64 t2_0, .int .i64 t2_1, .nil]))] []
noncomputable def f30l1 : Clean := ⟨[1, 2], [1, 2], [], [], []⟩
noncomputable def f30s2 (out4_2 : List Int) (m1_0 : Int) (m1_1 : Int) (m1_2 : List Int) (t2_0 : Int) (t2_1 : Int) (out4_0 : Int) (out4_1 : Int) : St := stOf [(1, .c (.box 1 0)), (2, .c (.box 2 0)), (4, .c (.box 4 0))] [(1, (26, [.int .i64 m1_0, .int .i64 m1_1, .sn 3 (.int .i64) m1_2 none])), (2, (26, [.int .i64 t2_0, .int .i64 t2_1, .nil])), (4, (26, [.int .i64 out4_0, .int .i64 out4_1, .own 20000258]))] [(20000258, (⟨3, .int .i64, out4_2, true, false⟩ : Row))]
noncomputable def f30l2 : Clean := ⟨[1, 2, 4], [1, 2, 4], [], [], [(⟨true, 4, 2⟩, 20000258)]⟩
noncomputable def f30s3 (out4_2 : List Int) (i5 : Int) (m1_0 : Int) (m1_1 : Int) (m1_2 : List Int) (t2_0 : Int) (t2_1 : Int) (out4_0 : Int) (out4_1 : Int) : St := stOf [(1, .c (.box 1 0)), (2, .c (.box 2 0)), (4, .c (.box 4 0)), (5, .c (.int .i64 i5))] [(1, (26, [.int .i64 m1_0, .int .i64 m1_1, .sn 3 (.int .i64) m1_2 none])), (2, (26, [.int .i64 t2_0, .int .i64 t2_1, .nil])), (4, (26, [.int .i64 out4_0, .int .i64 out4_1, .own 20000258]))] [(20000258, (⟨3, .int .i64, out4_2, true, false⟩ : Row))]
noncomputable def f30l3 : Clean := ⟨[1, 2, 4, 5], [1, 2, 4], [], [], [(⟨true, 4, 2⟩, 20000258)]⟩
noncomputable def f30s4 (out4_2 : List Int) (i5 : Int) (j6 : Int) (m1_0 : Int) (m1_1 : Int) (m1_2 : List Int) (t2_0 : Int) (t2_1 : Int) (out4_0 : Int) (out4_1 : Int) : St := stOf [(1, .c (.box 1 0)), (2, .c (.box 2 0)), (4, .c (.box 4 0)), (5, .c (.int .i64 i5)), (6, .c (.int .i64 j6))] [(1, (26, [.int .i64 m1_0, .int .i64 m1_1, .sn 3 (.int .i64) m1_2 none])), (2, (26, [.int .i64 t2_0, .int .i64 t2_1, .nil])), (4, (26, [.int .i64 out4_0, .int .i64 out4_1, .own 20000258]))] [(20000258, (⟨3, .int .i64, out4_2, true, false⟩ : Row))]
noncomputable def f30l4 : Clean := ⟨[1, 2, 4, 5, 6], [1, 2, 4], [], [], [(⟨true, 4, 2⟩, 20000258)]⟩
noncomputable def f30s5 (out4_2 : List Int) (t2_0 : Int) (t2_1 : Int) (out4_0 : Int) (out4_1 : Int) : St := stOf [(2, .c (.box 2 0)), (4, .c (.box 4 0))] [(2, (26, [.int .i64 t2_0, .int .i64 t2_1, .nil])), (4, (26, [.int .i64 out4_0, .int .i64 out4_1, .own 20000258]))] [(20000258, (⟨3, .int .i64, out4_2, true, false⟩ : Row))]
noncomputable def f30l5 : Clean := ⟨[2, 4], [2, 4], [], [], [(⟨true, 4, 2⟩, 20000258)]⟩
noncomputable def f30s6 (t2_2 : List Int) (t3 : Bool) (t2_0 : Int) (t2_1 : Int) : St := stOf [(2, .c (.box 2 0)), (3, .c (.bool t3))] [(2, (26, [.int .i64 t2_0, .int .i64 t2_1, .own 20000130]))] [(20000130, (⟨3, .int .i64, t2_2, true, false⟩ : Row))]
noncomputable def f30l6 : Clean := ⟨[2, 3], [2], [⟨⟨true, 2, 2⟩, 30000000, 3, .int .i64, true⟩], [], [(⟨true, 2, 2⟩, 20000130)]⟩
noncomputable def f30B : Nat → Option Clean := lookL [(2, f30l3), (1, f30l3), (0, f30l5), (1000000, f30l6)]
noncomputable abbrev f30i {ρ : Type} (N : Nat) (c : Code) (p : Plan) (σ : St) (K : KT ρ) : Option ρ := iCode f30G tab f30B N c p σ K
noncomputable def f30c1 := codeAt (bodyOf Try.f30) [0]
theorem f30t1 {ρ : Type} (N : Nat) (m0 : Int × Int × List Int) (K : KT ρ) : f30i N f30c1 .n (f30s0 m0) (joinK (some f30l1) K) =
  impl_PrincipalMatrix.Z1 N m0 (fun m1_0 m1_1 m1_2 t2_0 t2_1 => K .nrm (f30s1 m1_0 m1_1 m1_2 t2_0 t2_1)) := by kernel_rfl
noncomputable def f30c3 := codeAt (bodyOf Try.f30) [1,0]
theorem f30t3 {ρ : Type} (N : Nat) (m1_0 : Int) (m1_1 : Int) (m1_2 : List Int) (t2_0 : Int) (t2_1 : Int) (K : KT ρ) : f30i N f30c3 .n (f30s1 m1_0 m1_1 m1_2 t2_0 t2_1) (joinK (some f30l1) K) =
  impl_PrincipalMatrix.Z3 N m1_0 m1_1 m1_2 t2_0 t2_1 (fun m1_0 m1_1 m1_2 t2_0 t2_1 => K .nrm (f30s1 m1_0 m1_1 m1_2 t2_0 t2_1)) (fun t2_2 t3 t2_0 t2_1 => K .ret (f30s6 t2_2 t3 t2_0 t2_1)) := by kernel_rfl
noncomputable def f30c5 := codeAt (bodyOf Try.f30) [1,1,0]
theorem f30t5 {ρ : Type} (N : Nat) (m1_0 : Int) (m1_1 : Int) (m1_2 : List Int) (t2_0 : Int) (t2_1 : Int) (K : KT ρ) : f30i N f30c5 .n (f30s1 m1_0 m1_1 m1_2 t2_0 t2_1) (joinK (some f30l2) K) =
  impl_PrincipalMatrix.Z5 N m1_0 m1_1 m1_2 t2_0 t2_1 (fun out4_2 m1_0 m1_1 m1_2 t2_0 t2_1 out4_0 out4_1 => K .nrm (f30s2 out4_2 m1_0 m1_1 m1_2 t2_0 t2_1 out4_0 out4_1)) := by kernel_rfl
noncomputable def f30c8 := codeAt (bodyOf Try.f30) [1,1,1,0,0]
theorem f30t8 {ρ : Type} (N : Nat) (out4_2 : List Int) (m1_0 : Int) (m1_1 : Int) (m1_2 : List Int) (t2_0 : Int) (t2_1 : Int) (out4_0 : Int) (out4_1 : Int) (K : KT ρ) : f30i N f30c8 .n (f30s2 out4_2 m1_0 m1_1 m1_2 t2_0 t2_1 out4_0 out4_1) (joinK (some f30l3) K) =
  impl_PrincipalMatrix.Z8 N out4_2 m1_0 m1_1 m1_2 t2_0 t2_1 out4_0 out4_1 (fun out4_2 i5 m1_0 m1_1 m1_2 t2_0 t2_1 out4_0 out4_1 => K .nrm (f30s3 out4_2 i5 m1_0 m1_1 m1_2 t2_0 t2_1 out4_0 out4_1)) := by kernel_rfl
noncomputable def f30c12 := codeAt (bodyOf Try.f30) [1,1,1,0,1,0,0,0]
theorem f30t12 {ρ : Type} (N : Nat) (out4_2 : List Int) (i5 : Int) (m1_0 : Int) (m1_1 : Int) (m1_2 : List Int) (t2_0 : Int) (t2_1 : Int) (out4_0 : Int) (out4_1 : Int) (K : KT ρ) : f30i N f30c12 .n (f30s3 out4_2 i5 m1_0 m1_1 m1_2 t2_0 t2_1 out4_0 out4_1) (joinK (some f30l3) K) =
  impl_PrincipalMatrix.Z12 N out4_2 i5 m1_0 m1_1 m1_2 t2_0 t2_1 out4_0 out4_1 (fun out4_2 i5 m1_0 m1_1 m1_2 t2_0 t2_1 out4_0 out4_1 => K .nrm (f30s3 out4_2 i5 m1_0 m1_1 m1_2 t2_0 t2_1 out4_0 out4_1)) (fun out4_2 t2_0 t2_1 out4_0 out4_1 => K (.exit 0) (f30s5 out4_2 t2_0 t2_1 out4_0 out4_1)) := by kernel_rfl
noncomputable def f30c16 := codeAt (bodyOf Try.f30) [1,1,1,0,1,0,0,1,0,0,0]
theorem f30t16 {ρ : Type} (N : Nat) (out4_2 : List Int) (i5 : Int) (m1_0 : Int) (m1_1 : Int) (m1_2 : List Int) (t2_0 : Int) (t2_1 : Int) (out4_0 : Int) (out4_1 : Int) (K : KT ρ) : f30i N f30c16 .n (f30s3 out4_2 i5 m1_0 m1_1 m1_2 t2_0 t2_1 out4_0 out4_1) (joinK (some f30l4) K) =
  impl_PrincipalMatrix.Z16 N out4_2 i5 m1_0 m1_1 m1_2 t2_0 t2_1 out4_0 out4_1 (fun out4_2 i5 j6 m1_0 m1_1 m1_2 t2_0 t2_1 out4_0 out4_1 => K .nrm (f30s4 out4_2 i5 j6 m1_0 m1_1 m1_2 t2_0 t2_1 out4_0 out4_1)) := by kernel_rfl
noncomputable def f30c19 := codeAt (bodyOf Try.f30) [1,1,1,0,1,0,0,1,0,0,1,0,0]
theorem f30t19 {ρ : Type} (N : Nat) (out4_2 : List Int) (i5 : Int) (j6 : Int) (m1_0 : Int) (m1_1 : Int) (m1_2 : List Int) (t2_0 : Int) (t2_1 : Int) (out4_0 : Int) (out4_1 : Int) (K : KT ρ) : f30i N f30c19 .n (f30s4 out4_2 i5 j6 m1_0 m1_1 m1_2 t2_0 t2_1 out4_0 out4_1) (joinK (some f30l4) K) =
  impl_PrincipalMatrix.Z19 N out4_2 i5 j6 m1_0 m1_1 m1_2 t2_0 t2_1 out4_0 out4_1 (fun out4_2 i5 j6 m1_0 m1_1 m1_2 t2_0 t2_1 out4_0 out4_1 => K .nrm (f30s4 out4_2 i5 j6 m1_0 m1_1 m1_2 t2_0 t2_1 out4_0 out4_1)) (fun out4_2 i5 m1_0 m1_1 m1_2 t2_0 t2_1 out4_0 out4_1 => K (.exit 2) (f30s3 out4_2 i5 m1_0 m1_1 m1_2 t2_0 t2_1 out4_0 out4_1)) := by kernel_rfl
noncomputable def f30c18 := codeAt (bodyOf Try.f30) [1,1,1,0,1,0,0,1,0,0,1,0]
noncomputable def f30p18 : Plan := .mk none (some f30l4) .n .n
noncomputable abbrev f30w18 {ρ : Type} (N : Nat) (M : Nat) (σ : St) (K : KT ρ) : Option ρ := loopC (fun σ K => f30i N f30c19 .n σ K) f30l4 M σ K
theorem f30t18L {ρ : Type} (N : Nat) (K : KT ρ) : ∀ (M : Nat) (out4_2 : List Int) (i5 : Int) (j6 : Int) (m1_0 : Int) (m1_1 : Int) (m1_2 : List Int) (t2_0 : Int) (t2_1 : Int) (out4_0 : Int) (out4_1 : Int), f30w18 N M (f30s4 out4_2 i5 j6 m1_0 m1_1 m1_2 t2_0 t2_1 out4_0 out4_1) K =
  impl_PrincipalMatrix.Z18L N (fun out4_2 i5 m1_0 m1_1 m1_2 t2_0 t2_1 out4_0 out4_1 => K (.exit 2) (f30s3 out4_2 i5 m1_0 m1_1 m1_2 t2_0 t2_1 out4_0 out4_1)) M out4_2 i5 j6 m1_0 m1_1 m1_2 t2_0 t2_1 out4_0 out4_1
  | 0, _, _, _, _, _, _, _, _, _, _ => rfl
  | M + 1, out4_2, i5, j6, m1_0, m1_1, m1_2, t2_0, t2_1, out4_0, out4_1 => viaRound (fun k => impl_PrincipalMatrix.Z19 N out4_2 i5 j6 m1_0 m1_1 m1_2 t2_0 t2_1 out4_0 out4_1 k (fun out4_2 i5 m1_0 m1_1 m1_2 t2_0 t2_1 out4_0 out4_1 => K (.exit 2) (f30s3 out4_2 i5 m1_0 m1_1 m1_2 t2_0 t2_1 out4_0 out4_1))) (f30t19 N out4_2 i5 j6 m1_0 m1_1 m1_2 t2_0 t2_1 out4_0 out4_1 (seqK (fun σ => f30w18 N M σ K) K)) (funext fun out4_2 => funext fun i5 => funext fun j6 => funext fun m1_0 => funext fun m1_1 => funext fun m1_2 => funext fun t2_0 => funext fun t2_1 => funext fun out4_0 => funext fun out4_1 => f30t18L N K M out4_2 i5 j6 m1_0 m1_1 m1_2 t2_0 t2_1 out4_0 out4_1) (by kernel_rfl) (by kernel_rfl)
theorem f30t18 {ρ : Type} (N : Nat) (out4_2 : List Int) (i5 : Int) (j6 : Int) (m1_0 : Int) (m1_1 : Int) (m1_2 : List Int) (t2_0 : Int) (t2_1 : Int) (out4_0 : Int) (out4_1 : Int) (K : KT ρ) : f30i N f30c18 f30p18 (f30s4 out4_2 i5 j6 m1_0 m1_1 m1_2 t2_0 t2_1 out4_0 out4_1) (joinK (some f30l3) K) =
  impl_PrincipalMatrix.Z18 N out4_2 i5 j6 m1_0 m1_1 m1_2 t2_0 t2_1 out4_0 out4_1 (fun out4_2 i5 m1_0 m1_1 m1_2 t2_0 t2_1 out4_0 out4_1 => K (.exit 2) (f30s3 out4_2 i5 m1_0 m1_1 m1_2 t2_0 t2_1 out4_0 out4_1)) :=
  viaLoop (by kernel_rfl) (by kernel_rfl) (σ' := f30s4 out4_2 i5 j6 m1_0 m1_1 m1_2 t2_0 t2_1 out4_0 out4_1) (by kernel_rfl) (f30t18L N (joinK (some f30l3) K) N out4_2 i5 j6 m1_0 m1_1 m1_2 t2_0 t2_1 out4_0 out4_1) (by kernel_rfl)
noncomputable def f30c17 := codeAt (bodyOf Try.f30) [1,1,1,0,1,0,0,1,0,0,1]
noncomputable def f30p17 : Plan := .mk (some f30l3) none f30p18 .n
theorem f30t17 {ρ : Type} (N : Nat) (out4_2 : List Int) (i5 : Int) (j6 : Int) (m1_0 : Int) (m1_1 : Int) (m1_2 : List Int) (t2_0 : Int) (t2_1 : Int) (out4_0 : Int) (out4_1 : Int) (K : KT ρ) : f30i N f30c17 f30p17 (f30s4 out4_2 i5 j6 m1_0 m1_1 m1_2 t2_0 t2_1 out4_0 out4_1) (joinK (some f30l3) K) =
  impl_PrincipalMatrix.Z17 N out4_2 i5 j6 m1_0 m1_1 m1_2 t2_0 t2_1 out4_0 out4_1 (fun out4_2 i5 m1_0 m1_1 m1_2 t2_0 t2_1 out4_0 out4_1 => K .nrm (f30s3 out4_2 i5 m1_0 m1_1 m1_2 t2_0 t2_1 out4_0 out4_1)) :=
  viaBlock (by kernel_rfl) (by kernel_rfl) (f30t18 N out4_2 i5 j6 m1_0 m1_1 m1_2 t2_0 t2_1 out4_0 out4_1 (blockK 2 (joinK (some f30l3) K))) (by kernel_rfl)
noncomputable def f30c15 := codeAt (bodyOf Try.f30) [1,1,1,0,1,0,0,1,0,0]
noncomputable def f30p15 : Plan := .mk (some f30l4) none .n f30p17
theorem f30t15 {ρ : Type} (N : Nat) (out4_2 : List Int) (i5 : Int) (m1_0 : Int) (m1_1 : Int) (m1_2 : List Int) (t2_0 : Int) (t2_1 : Int) (out4_0 : Int) (out4_1 : Int) (K : KT ρ) : f30i N f30c15 f30p15 (f30s3 out4_2 i5 m1_0 m1_1 m1_2 t2_0 t2_1 out4_0 out4_1) (joinK (some f30l3) K) =
  impl_PrincipalMatrix.Z15 N out4_2 i5 m1_0 m1_1 m1_2 t2_0 t2_1 out4_0 out4_1 (fun out4_2 i5 m1_0 m1_1 m1_2 t2_0 t2_1 out4_0 out4_1 => K .nrm (f30s3 out4_2 i5 m1_0 m1_1 m1_2 t2_0 t2_1 out4_0 out4_1)) :=
  viaSeq (fun k => impl_PrincipalMatrix.Z16 N out4_2 i5 m1_0 m1_1 m1_2 t2_0 t2_1 out4_0 out4_1 k) (by kernel_rfl) (by kernel_rfl) (f30t16 N out4_2 i5 m1_0 m1_1 m1_2 t2_0 t2_1 out4_0 out4_1 (seqK (fun σ => f30i N f30c17 f30p17 σ (joinK (some f30l3) K)) (joinK (some f30l3) K))) (funext fun out4_2 => funext fun i5 => funext fun j6 => funext fun m1_0 => funext fun m1_1 => funext fun m1_2 => funext fun t2_0 => funext fun t2_1 => funext fun out4_0 => funext fun out4_1 => f30t17 N out4_2 i5 j6 m1_0 m1_1 m1_2 t2_0 t2_1 out4_0 out4_1 K) (by kernel_rfl) (by kernel_rfl)
noncomputable def f30c14 := codeAt (bodyOf Try.f30) [1,1,1,0,1,0,0,1,0]
noncomputable def f30p14 : Plan := .mk (some f30l3) none f30p15 .n
theorem f30t14 {ρ : Type} (N : Nat) (out4_2 : List Int) (i5 : Int) (m1_0 : Int) (m1_1 : Int) (m1_2 : List Int) (t2_0 : Int) (t2_1 : Int) (out4_0 : Int) (out4_1 : Int) (K : KT ρ) : f30i N f30c14 f30p14 (f30s3 out4_2 i5 m1_0 m1_1 m1_2 t2_0 t2_1 out4_0 out4_1) (joinK (some f30l3) K) =
  impl_PrincipalMatrix.Z14 N out4_2 i5 m1_0 m1_1 m1_2 t2_0 t2_1 out4_0 out4_1 (fun out4_2 i5 m1_0 m1_1 m1_2 t2_0 t2_1 out4_0 out4_1 => K .nrm (f30s3 out4_2 i5 m1_0 m1_1 m1_2 t2_0 t2_1 out4_0 out4_1)) :=
  viaBlock (by kernel_rfl) (by kernel_rfl) (f30t15 N out4_2 i5 m1_0 m1_1 m1_2 t2_0 t2_1 out4_0 out4_1 (blockK 1 (joinK (some f30l3) K))) (by kernel_rfl)
noncomputable def f30c20 := codeAt (bodyOf Try.f30) [1,1,1,0,1,0,0,1,1]
theorem f30t20 {ρ : Type} (N : Nat) (out4_2 : List Int) (i5 : Int) (m1_0 : Int) (m1_1 : Int) (m1_2 : List Int) (t2_0 : Int) (t2_1 : Int) (out4_0 : Int) (out4_1 : Int) (K : KT ρ) : f30i N f30c20 .n (f30s3 out4_2 i5 m1_0 m1_1 m1_2 t2_0 t2_1 out4_0 out4_1) (joinK (some f30l3) K) =
  impl_PrincipalMatrix.Z20 N out4_2 i5 m1_0 m1_1 m1_2 t2_0 t2_1 out4_0 out4_1 (fun out4_2 i5 m1_0 m1_1 m1_2 t2_0 t2_1 out4_0 out4_1 => K .nrm (f30s3 out4_2 i5 m1_0 m1_1 m1_2 t2_0 t2_1 out4_0 out4_1)) := by kernel_rfl
noncomputable def f30c13 := codeAt (bodyOf Try.f30) [1,1,1,0,1,0,0,1]
noncomputable def f30p13 : Plan := .mk (some f30l3) none f30p14 .n
theorem f30t13 {ρ : Type} (N : Nat) (out4_2 : List Int) (i5 : Int) (m1_0 : Int) (m1_1 : Int) (m1_2 : List Int) (t2_0 : Int) (t2_1 : Int) (out4_0 : Int) (out4_1 : Int) (K : KT ρ) : f30i N f30c13 f30p13 (f30s3 out4_2 i5 m1_0 m1_1 m1_2 t2_0 t2_1 out4_0 out4_1) (joinK (some f30l3) K) =
  impl_PrincipalMatrix.Z13 N out4_2 i5 m1_0 m1_1 m1_2 t2_0 t2_1 out4_0 out4_1 (fun out4_2 i5 m1_0 m1_1 m1_2 t2_0 t2_1 out4_0 out4_1 => K .nrm (f30s3 out4_2 i5 m1_0 m1_1 m1_2 t2_0 t2_1 out4_0 out4_1)) :=
  viaSeq (fun k => impl_PrincipalMatrix.Z14 N out4_2 i5 m1_0 m1_1 m1_2 t2_0 t2_1 out4_0 out4_1 k) (by kernel_rfl) (by kernel_rfl) (f30t14 N out4_2 i5 m1_0 m1_1 m1_2 t2_0 t2_1 out4_0 out4_1 (seqK (fun σ => f30i N f30c20 .n σ (joinK (some f30l3) K)) (joinK (some f30l3) K))) (funext fun out4_2 => funext fun i5 => funext fun m1_0 => funext fun m1_1 => funext fun m1_2 => funext fun t2_0 => funext fun t2_1 => funext fun out4_0 => funext fun out4_1 => f30t20 N out4_2 i5 m1_0 m1_1 m1_2 t2_0 t2_1 out4_0 out4_1 K) (by kernel_rfl) (by kernel_rfl)
noncomputable def f30c11 := codeAt (bodyOf Try.f30) [1,1,1,0,1,0,0]
noncomputable def f30p11 : Plan := .mk (some f30l3) none .n f30p13
theorem f30t11 {ρ : Type} (N : Nat) (out4_2 : List Int) (i5 : Int) (m1_0 : Int) (m1_1 : Int) (m1_2 : List Int) (t2_0 : Int) (t2_1 : Int) (out4_0 : Int) (out4_1 : Int) (K : KT ρ) : f30i N f30c11 f30p11 (f30s3 out4_2 i5 m1_0 m1_1 m1_2 t2_0 t2_1 out4_0 out4_1) (joinK (some f30l3) K) =
  impl_PrincipalMatrix.Z11 N out4_2 i5 m1_0 m1_1 m1_2 t2_0 t2_1 out4_0 out4_1 (fun out4_2 i5 m1_0 m1_1 m1_2 t2_0 t2_1 out4_0 out4_1 => K .nrm (f30s3 out4_2 i5 m1_0 m1_1 m1_2 t2_0 t2_1 out4_0 out4_1)) (fun out4_2 t2_0 t2_1 out4_0 out4_1 => K (.exit 0) (f30s5 out4_2 t2_0 t2_1 out4_0 out4_1)) :=
  viaSeq (fun k => impl_PrincipalMatrix.Z12 N out4_2 i5 m1_0 m1_1 m1_2 t2_0 t2_1 out4_0 out4_1 k (fun out4_2 t2_0 t2_1 out4_0 out4_1 => K (.exit 0) (f30s5 out4_2 t2_0 t2_1 out4_0 out4_1))) (by kernel_rfl) (by kernel_rfl) (f30t12 N out4_2 i5 m1_0 m1_1 m1_2 t2_0 t2_1 out4_0 out4_1 (seqK (fun σ => f30i N f30c13 f30p13 σ (joinK (some f30l3) K)) (joinK (some f30l3) K))) (funext fun out4_2 => funext fun i5 => funext fun m1_0 => funext fun m1_1 => funext fun m1_2 => funext fun t2_0 => funext fun t2_1 => funext fun out4_0 => funext fun out4_1 => f30t13 N out4_2 i5 m1_0 m1_1 m1_2 t2_0 t2_1 out4_0 out4_1 K) (by kernel_rfl) (by kernel_rfl)
noncomputable def f30c10 := codeAt (bodyOf Try.f30) [1,1,1,0,1,0]
noncomputable def f30p10 : Plan := .mk none (some f30l3) f30p11 .n
noncomputable abbrev f30w10 {ρ : Type} (N : Nat) (M : Nat) (σ : St) (K : KT ρ) : Option ρ := loopC (fun σ K => f30i N f30c11 f30p11 σ K) f30l3 M σ K
theorem f30t10L {ρ : Type} (N : Nat) (K : KT ρ) : ∀ (M : Nat) (out4_2 : List Int) (i5 : Int) (m1_0 : Int) (m1_1 : Int) (m1_2 : List Int) (t2_0 : Int) (t2_1 : Int) (out4_0 : Int) (out4_1 : Int), f30w10 N M (f30s3 out4_2 i5 m1_0 m1_1 m1_2 t2_0 t2_1 out4_0 out4_1) K =
  impl_PrincipalMatrix.Z10L N (fun out4_2 t2_0 t2_1 out4_0 out4_1 => K (.exit 0) (f30s5 out4_2 t2_0 t2_1 out4_0 out4_1)) M out4_2 i5 m1_0 m1_1 m1_2 t2_0 t2_1 out4_0 out4_1
  | 0, _, _, _, _, _, _, _, _, _ => rfl
  | M + 1, out4_2, i5, m1_0, m1_1, m1_2, t2_0, t2_1, out4_0, out4_1 => viaRound (fun k => impl_PrincipalMatrix.Z11 N out4_2 i5 m1_0 m1_1 m1_2 t2_0 t2_1 out4_0 out4_1 k (fun out4_2 t2_0 t2_1 out4_0 out4_1 => K (.exit 0) (f30s5 out4_2 t2_0 t2_1 out4_0 out4_1))) (f30t11 N out4_2 i5 m1_0 m1_1 m1_2 t2_0 t2_1 out4_0 out4_1 (seqK (fun σ => f30w10 N M σ K) K)) (funext fun out4_2 => funext fun i5 => funext fun m1_0 => funext fun m1_1 => funext fun m1_2 => funext fun t2_0 => funext fun t2_1 => funext fun out4_0 => funext fun out4_1 => f30t10L N K M out4_2 i5 m1_0 m1_1 m1_2 t2_0 t2_1 out4_0 out4_1) (by kernel_rfl) (by kernel_rfl)
theorem f30t10 {ρ : Type} (N : Nat) (out4_2 : List Int) (i5 : Int) (m1_0 : Int) (m1_1 : Int) (m1_2 : List Int) (t2_0 : Int) (t2_1 : Int) (out4_0 : Int) (out4_1 : Int) (K : KT ρ) : f30i N f30c10 f30p10 (f30s3 out4_2 i5 m1_0 m1_1 m1_2 t2_0 t2_1 out4_0 out4_1) (joinK (some f30l5) K) =
  impl_PrincipalMatrix.Z10 N out4_2 i5 m1_0 m1_1 m1_2 t2_0 t2_1 out4_0 out4_1 (fun out4_2 t2_0 t2_1 out4_0 out4_1 => K (.exit 0) (f30s5 out4_2 t2_0 t2_1 out4_0 out4_1)) :=
  viaLoop (by kernel_rfl) (by kernel_rfl) (σ' := f30s3 out4_2 i5 m1_0 m1_1 m1_2 t2_0 t2_1 out4_0 out4_1) (by kernel_rfl) (f30t10L N (joinK (some f30l5) K) N out4_2 i5 m1_0 m1_1 m1_2 t2_0 t2_1 out4_0 out4_1) (by kernel_rfl)
noncomputable def f30c9 := codeAt (bodyOf Try.f30) [1,1,1,0,1]
noncomputable def f30p9 : Plan := .mk (some f30l5) none f30p10 .n
theorem f30t9 {ρ : Type} (N : Nat) (out4_2 : List Int) (i5 : Int) (m1_0 : Int) (m1_1 : Int) (m1_2 : List Int) (t2_0 : Int) (t2_1 : Int) (out4_0 : Int) (out4_1 : Int) (K : KT ρ) : f30i N f30c9 f30p9 (f30s3 out4_2 i5 m1_0 m1_1 m1_2 t2_0 t2_1 out4_0 out4_1) (joinK (some f30l5) K) =
  impl_PrincipalMatrix.Z9 N out4_2 i5 m1_0 m1_1 m1_2 t2_0 t2_1 out4_0 out4_1 (fun out4_2 t2_0 t2_1 out4_0 out4_1 => K .nrm (f30s5 out4_2 t2_0 t2_1 out4_0 out4_1)) :=
  viaBlock (by kernel_rfl) (by kernel_rfl) (f30t10 N out4_2 i5 m1_0 m1_1 m1_2 t2_0 t2_1 out4_0 out4_1 (blockK 0 (joinK (some f30l5) K))) (by kernel_rfl)
noncomputable def f30c7 := codeAt (bodyOf Try.f30) [1,1,1,0]
noncomputable def f30p7 : Plan := .mk (some f30l3) none .n f30p9
theorem f30t7 {ρ : Type} (N : Nat) (out4_2 : List Int) (m1_0 : Int) (m1_1 : Int) (m1_2 : List Int) (t2_0 : Int) (t2_1 : Int) (out4_0 : Int) (out4_1 : Int) (K : KT ρ) : f30i N f30c7 f30p7 (f30s2 out4_2 m1_0 m1_1 m1_2 t2_0 t2_1 out4_0 out4_1) (joinK (some f30l5) K) =
  impl_PrincipalMatrix.Z7 N out4_2 m1_0 m1_1 m1_2 t2_0 t2_1 out4_0 out4_1 (fun out4_2 t2_0 t2_1 out4_0 out4_1 => K .nrm (f30s5 out4_2 t2_0 t2_1 out4_0 out4_1)) :=
  viaSeq (fun k => impl_PrincipalMatrix.Z8 N out4_2 m1_0 m1_1 m1_2 t2_0 t2_1 out4_0 out4_1 k) (by kernel_rfl) (by kernel_rfl) (f30t8 N out4_2 m1_0 m1_1 m1_2 t2_0 t2_1 out4_0 out4_1 (seqK (fun σ => f30i N f30c9 f30p9 σ (joinK (some f30l5) K)) (joinK (some f30l5) K))) (funext fun out4_2 => funext fun i5 => funext fun m1_0 => funext fun m1_1 => funext fun m1_2 => funext fun t2_0 => funext fun t2_1 => funext fun out4_0 => funext fun out4_1 => f30t9 N out4_2 i5 m1_0 m1_1 m1_2 t2_0 t2_1 out4_0 out4_1 K) (by kernel_rfl) (by kernel_rfl)
noncomputable def f30c21 := codeAt (bodyOf Try.f30) [1,1,1,1]
theorem f30t21 {ρ : Type} (N : Nat) (out4_2 : List Int) (t2_0 : Int) (t2_1 : Int) (out4_0 : Int) (out4_1 : Int) (K : KT ρ) : f30i N f30c21 .n (f30s5 out4_2 t2_0 t2_1 out4_0 out4_1) (joinK (some f30lE) K) =
  impl_PrincipalMatrix.Z21 N out4_2 t2_0 t2_1 out4_0 out4_1 (fun t2_2 t3 t2_0 t2_1 => K .ret (f30s6 t2_2 t3 t2_0 t2_1)) := by kernel_rfl
noncomputable def f30c6 := codeAt (bodyOf Try.f30) [1,1,1]
noncomputable def f30p6 : Plan := .mk (some f30l5) none f30p7 .n
theorem f30t6 {ρ : Type} (N : Nat) (out4_2 : List Int) (m1_0 : Int) (m1_1 : Int) (m1_2 : List Int) (t2_0 : Int) (t2_1 : Int) (out4_0 : Int) (out4_1 : Int) (K : KT ρ) : f30i N f30c6 f30p6 (f30s2 out4_2 m1_0 m1_1 m1_2 t2_0 t2_1 out4_0 out4_1) (joinK (some f30lE) K) =
  impl_PrincipalMatrix.Z6 N out4_2 m1_0 m1_1 m1_2 t2_0 t2_1 out4_0 out4_1 (fun t2_2 t3 t2_0 t2_1 => K .ret (f30s6 t2_2 t3 t2_0 t2_1)) :=
  viaSeq (fun k => impl_PrincipalMatrix.Z7 N out4_2 m1_0 m1_1 m1_2 t2_0 t2_1 out4_0 out4_1 k) (by kernel_rfl) (by kernel_rfl) (f30t7 N out4_2 m1_0 m1_1 m1_2 t2_0 t2_1 out4_0 out4_1 (seqK (fun σ => f30i N f30c21 .n σ (joinK (some f30lE) K)) (joinK (some f30lE) K))) (funext fun out4_2 => funext fun t2_0 => funext fun t2_1 => funext fun out4_0 => funext fun out4_1 => f30t21 N out4_2 t2_0 t2_1 out4_0 out4_1 K) (by kernel_rfl) (by kernel_rfl)
noncomputable def f30c4 := codeAt (bodyOf Try.f30) [1,1]
noncomputable def f30p4 : Plan := .mk (some f30l2) none .n f30p6
theorem f30t4 {ρ : Type} (N : Nat) (m1_0 : Int) (m1_1 : Int) (m1_2 : List Int) (t2_0 : Int) (t2_1 : Int) (K : KT ρ) : f30i N f30c4 f30p4 (f30s1 m1_0 m1_1 m1_2 t2_0 t2_1) (joinK (some f30lE) K) =
  impl_PrincipalMatrix.Z4 N m1_0 m1_1 m1_2 t2_0 t2_1 (fun t2_2 t3 t2_0 t2_1 => K .ret (f30s6 t2_2 t3 t2_0 t2_1)) :=
  viaSeq (fun k => impl_PrincipalMatrix.Z5 N m1_0 m1_1 m1_2 t2_0 t2_1 k) (by kernel_rfl) (by kernel_rfl) (f30t5 N m1_0 m1_1 m1_2 t2_0 t2_1 (seqK (fun σ => f30i N f30c6 f30p6 σ (joinK (some f30lE) K)) (joinK (some f30lE) K))) (funext fun out4_2 => funext fun m1_0 => funext fun m1_1 => funext fun m1_2 => funext fun t2_0 => funext fun t2_1 => funext fun out4_0 => funext fun out4_1 => f30t6 N out4_2 m1_0 m1_1 m1_2 t2_0 t2_1 out4_0 out4_1 K) (by kernel_rfl) (by kernel_rfl)
noncomputable def f30c2 := codeAt (bodyOf Try.f30) [1]
noncomputable def f30p2 : Plan := .mk (some f30l1) none .n f30p4
theorem f30t2 {ρ : Type} (N : Nat) (m1_0 : Int) (m1_1 : Int) (m1_2 : List Int) (t2_0 : Int) (t2_1 : Int) (K : KT ρ) : f30i N f30c2 f30p2 (f30s1 m1_0 m1_1 m1_2 t2_0 t2_1) (joinK (some f30lE) K) =
  impl_PrincipalMatrix.Z2 N m1_0 m1_1 m1_2 t2_0 t2_1 (fun t2_2 t3 t2_0 t2_1 => K .ret (f30s6 t2_2 t3 t2_0 t2_1)) :=
  viaSeq (fun k => impl_PrincipalMatrix.Z3 N m1_0 m1_1 m1_2 t2_0 t2_1 k (fun t2_2 t3 t2_0 t2_1 => K .ret (f30s6 t2_2 t3 t2_0 t2_1))) (by kernel_rfl) (by kernel_rfl) (f30t3 N m1_0 m1_1 m1_2 t2_0 t2_1 (seqK (fun σ => f30i N f30c4 f30p4 σ (joinK (some f30lE) K)) (joinK (some f30lE) K))) (funext fun m1_0 => funext fun m1_1 => funext fun m1_2 => funext fun t2_0 => funext fun t2_1 => f30t4 N m1_0 m1_1 m1_2 t2_0 t2_1 K) (by kernel_rfl) (by kernel_rfl)
noncomputable def f30c0 := codeAt (bodyOf Try.f30) []
noncomputable def f30p0 : Plan := .mk (some f30l1) none .n f30p2
theorem f30t0 {ρ : Type} (N : Nat) (m0 : Int × Int × List Int) (K : KT ρ) : f30i N f30c0 f30p0 (f30s0 m0) (joinK (some f30lE) K) =
  impl_PrincipalMatrix.Z0 N m0 (fun t2_2 t3 t2_0 t2_1 => K .ret (f30s6 t2_2 t3 t2_0 t2_1)) :=
  viaSeq (fun k => impl_PrincipalMatrix.Z1 N m0 k) (by kernel_rfl) (by kernel_rfl) (f30t1 N m0 (seqK (fun σ => f30i N f30c2 f30p2 σ (joinK (some f30lE) K)) (joinK (some f30lE) K))) (funext fun m1_0 => funext fun m1_1 => funext fun m1_2 => funext fun t2_0 => funext fun t2_1 => f30t2 N m1_0 m1_1 m1_2 t2_0 t2_1 K) (by kernel_rfl) (by kernel_rfl)
theorem f30m (N : Nat) (m0 : Int × Int × List Int) : f30i N f30c0 f30p0 (f30s0 m0) (joinK (some f30lE) (finK tab f30sig Try.f30.results.toList)) = impl_PrincipalMatrix.Z0 N m0 (fun t2_2 t3 t2_0 t2_1 => some ((), ((t2_0, (t2_1, t2_2)), (t3, ())))) :=
  (f30t0 N m0 (finK tab f30sig Try.f30.results.toList)).trans (by kernel_rfl)
theorem f30ok (h : impl_PrincipalMatrix.Spec) : EntryOk Try.prog 30 e30 :=
  entry_of_code (sig := f30sig) (c := f30c0) (pl := f30p0) (je := (some f30lE)) (B := f30B) Try.func30 (by kernel_rfl) (by kernel_rfl) (by kernel_rfl) tabOk f30GOk (by kernel_rfl) (by kernel_rfl) (by kernel_rfl) (by kernel_rfl) fun X hb hp => by
    obtain ⟨m0, _⟩ := X
    obtain ⟨N, h⟩ := h m0 hb.1
    exact ⟨N, (f30m N m0).trans (h N (Nat.le_refl N))⟩
theorem e30ok : EntryOk Try.prog 30 e30 := f30ok impl_PrincipalMatrix.ok
end Go.Fw
set_option linter.unusedVariables false
set_option linter.unusedSimpArgs false
set_option maxRecDepth 100000
namespace Go.Fw
open Go.Proofs
/-! ### loop.example/g03115/impl.mutated -/
noncomputable def f79sig : Sig := ⟨[⟨.pair (.int .i64) (.pair (.int .i64) (.sl 3 (.int .i64))), true, false⟩, ⟨.int .i64, false, false⟩], [⟨.pair (.int .i64) (.pair (.int .i64) (.sl 3 (.int .i64))), true, false⟩]⟩
noncomputable def e79 : Entry := ⟨f79sig, (some fun X => impl_mutated.P X.1 X.2.1), fun X => ((), ((impl_mutated.g X.1 X.2.1), ()))⟩
noncomputable def f79G : Nat → Option Entry := addG (addG (fun _ => none) 60 e60) 62 e62
theorem f79GOk : GOk Try.prog f79G := ((GOk.nil).add e60ok (by kernel_rfl)).add e62ok (by kernel_rfl)
noncomputable def f79lE : Clean := ⟨[], [], [], [], []⟩
noncomputable def f79s0 (m0 : Int × Int × List Int) (k1 : Int) : St := initSt f79sig.ps (m0, (k1, ()))
noncomputable def f79s1 (k1 : Int) (m2_0 : Int) (m2_1 : Int) (m2_2 : List Int) (t4_0 : Int) (t4_1 : Int) : St := stOf [(1, .c (.int .i64 k1)), (2, .c (.box 2 0)), (4, .c (.box 4 0))] [(2, (26, [.int .i64 m2_0, .int .i64 m2_1, .sn 3 (.int .i64) m2_2 none])), (4, (26, [.int .i64 t4_0, .int .i64 t4_1, .nil]))] []
noncomputable def f79l1 : Clean := ⟨[1, 2, 4], [2, 4], [], [], []⟩
noncomputable def f79s2 (out5_2 : List Int) (k1 : Int) (m2_0 : Int) (m2_1 : Int) (m2_2 : List Int) (t4_0 : Int) (t4_1 : Int) (out5_0 : Int) (out5_1 : Int) : St := stOf [(1, .c (.int .i64 k1)), (2, .c (.box 2 0)), (4, .c (.box 4 0)), (5, .c (.box 5 0))] [(2, (26, [.int .i64 m2_0, .int .i64 m2_1, .sn 3 (.int .i64) m2_2 none])), (4, (26, [.int .i64 t4_0, .int .i64 t4_1, .nil])), (5, (26, [.int .i64 out5_0, .int .i64 out5_1, .own 20000322]))] [(20000322, (⟨3, .int .i64, out5_2, true, false⟩ : Row))]
noncomputable def f79l2 : Clean := ⟨[1, 2, 4, 5], [2, 4, 5], [], [], [(⟨true, 5, 2⟩, 20000322)]⟩
noncomputable def f79s3 (out5_2 : List Int) (k1 : Int) (i6 : Int) (m2_0 : Int) (m2_1 : Int) (m2_2 : List Int) (t4_0 : Int) (t4_1 : Int) (out5_0 : Int) (out5_1 : Int) : St := stOf [(1, .c (.int .i64 k1)), (2, .c (.box 2 0)), (4, .c (.box 4 0)), (5, .c (.box 5 0)), (6, .c (.int .i64 i6))] [(2, (26, [.int .i64 m2_0, .int .i64 m2_1, .sn 3 (.int .i64) m2_2 none])), (4, (26, [.int .i64 t4_0, .int .i64 t4_1, .nil])), (5, (26, [.int .i64 out5_0, .int .i64 out5_1, .own 20000322]))] [(20000322, (⟨3, .int .i64, out5_2, true, false⟩ : Row))]
noncomputable def f79l3 : Clean := ⟨[1, 2, 4, 5, 6], [2, 4, 5], [], [], [(⟨true, 5, 2⟩, 20000322)]⟩
noncomputable def f79s4 (out5_2 : List Int) (k1 : Int) (i6 : Int) (j7 : Int) (m2_0 : Int) (m2_1 : Int) (m2_2 : List Int) (t4_0 : Int) (t4_1 : Int) (out5_0 : Int) (out5_1 : Int) : St := stOf [(1, .c (.int .i64 k1)), (2, .c (.box 2 0)), (4, .c (.box 4 0)), (5, .c (.box 5 0)), (6, .c (.int .i64 i6)), (7, .c (.int .i64 j7))] [(2, (26, [.int .i64 m2_0, .int .i64 m2_1, .sn 3 (.int .i64) m2_2 none])), (4, (26, [.int .i64 t4_0, .int .i64 t4_1, .nil])), (5, (26, [.int .i64 out5_0, .int .i64 out5_1, .own 20000322]))] [(20000322, (⟨3, .int .i64, out5_2, true, false⟩ : Row))]
noncomputable def f79l4 : Clean := ⟨[1, 2, 4, 5, 6, 7], [2, 4, 5], [], [], [(⟨true, 5, 2⟩, 20000322)]⟩
noncomputable def f79s5 (out5_2 : List Int) (k1 : Int) (i6 : Int) (j7 : Int) (p8 : Int) (m2_0 : Int) (m2_1 : Int) (m2_2 : List Int) (t4_0 : Int) (t4_1 : Int) (out5_0 : Int) (out5_1 : Int) : St := stOf [(1, .c (.int .i64 k1)), (2, .c (.box 2 0)), (4, .c (.box 4 0)), (5, .c (.box 5 0)), (6, .c (.int .i64 i6)), (7, .c (.int .i64 j7)), (8, .c (.elt 20000322 p8 0))] [(2, (26, [.int .i64 m2_0, .int .i64 m2_1, .sn 3 (.int .i64) m2_2 none])), (4, (26, [.int .i64 t4_0, .int .i64 t4_1, .nil])), (5, (26, [.int .i64 out5_0, .int .i64 out5_1, .own 20000322]))] [(20000322, (⟨3, .int .i64, out5_2, true, false⟩ : Row))]
noncomputable def f79l5 : Clean := ⟨[1, 2, 4, 5, 6, 7, 8], [2, 4, 5], [], [], [(⟨true, 5, 2⟩, 20000322)]⟩
noncomputable def f79s6 (out5_2 : List Int) (k1 : Int) (i6 : Int) (j7 : Int) (p8 : Int) (a9 : Int) (b10 : Int) (m2_0 : Int) (m2_1 : Int) (m2_2 : List Int) (t4_0 : Int) (t4_1 : Int) (out5_0 : Int) (out5_1 : Int) : St := stOf [(1, .c (.int .i64 k1)), (2, .c (.box 2 0)), (4, .c (.box 4 0)), (5, .c (.box 5 0)), (6, .c (.int .i64 i6)), (7, .c (.int .i64 j7)), (8, .c (.elt 20000322 p8 0)), (9, .c (.int .i64 a9)), (10, .c (.int .i64 b10))] [(2, (26, [.int .i64 m2_0, .int .i64 m2_1, .sn 3 (.int .i64) m2_2 none])), (4, (26, [.int .i64 t4_0, .int .i64 t4_1, .nil])), (5, (26, [.int .i64 out5_0, .int .i64 out5_1, .own 20000322]))] [(20000322, (⟨3, .int .i64, out5_2, true, false⟩ : Row))]
noncomputable def f79l6 : Clean := ⟨[1, 2, 4, 5, 6, 7, 8, 9, 10], [2, 4, 5], [], [], [(⟨true, 5, 2⟩, 20000322)]⟩
noncomputable def f79s7 (out5_2 : List Int) (k1 : Int) (i6 : Int) (j7 : Int) (p8 : Int) (a9 : Int) (b10 : Int) (t48 : Bool) (m2_0 : Int) (m2_1 : Int) (m2_2 : List Int) (t4_0 : Int) (t4_1 : Int) (out5_0 : Int) (out5_1 : Int) : St := stOf [(1, .c (.int .i64 k1)), (2, .c (.box 2 0)), (4, .c (.box 4 0)), (5, .c (.box 5 0)), (6, .c (.int .i64 i6)), (7, .c (.int .i64 j7)), (8, .c (.elt 20000322 p8 0)), (9, .c (.int .i64 a9)), (10, .c (.int .i64 b10)), (48, .c (.bool t48))] [(2, (26, [.int .i64 m2_0, .int .i64 m2_1, .sn 3 (.int .i64) m2_2 none])), (4, (26, [.int .i64 t4_0, .int .i64 t4_1, .nil])), (5, (26, [.int .i64 out5_0, .int .i64 out5_1, .own 20000322]))] [(20000322, (⟨3, .int .i64, out5_2, true, false⟩ : Row))]
noncomputable def f79l7 : Clean := ⟨[1, 2, 4, 5, 6, 7, 8, 9, 10, 48], [2, 4, 5], [], [], [(⟨true, 5, 2⟩, 20000322)]⟩
noncomputable def f79s8 (out5_2 : List Int) (t4_0 : Int) (t4_1 : Int) (out5_0 : Int) (out5_1 : Int) : St := stOf [(4, .c (.box 4 0)), (5, .c (.box 5 0))] [(4, (26, [.int .i64 t4_0, .int .i64 t4_1, .nil])), (5, (26, [.int .i64 out5_0, .int .i64 out5_1, .own 20000322]))] [(20000322, (⟨3, .int .i64, out5_2, true, false⟩ : Row))]
noncomputable def f79l8 : Clean := ⟨[4, 5], [4, 5], [], [], [(⟨true, 5, 2⟩, 20000322)]⟩
noncomputable def f79s9 (t4_2 : List Int) (t4_0 : Int) (t4_1 : Int) : St := stOf [(4, .c (.box 4 0))] [(4, (26, [.int .i64 t4_0, .int .i64 t4_1, .own 20000258]))] [(20000258, (⟨3, .int .i64, t4_2, true, false⟩ : Row))]
noncomputable def f79l9 : Clean := ⟨[4], [4], [], [], [(⟨true, 4, 2⟩, 20000258)]⟩
noncomputable def f79B : Nat → Option Clean := lookL [(4, f79l4), (3, f79l4), (2, f79l3), (1, f79l3), (0, f79l8), (1000000, f79l9)]
noncomputable abbrev f79i {ρ : Type} (N : Nat) (c : Code) (p : Plan) (σ : St) (K : KT ρ) : Option ρ := iCode f79G tab f79B N c p σ K
noncomputable def f79c1 := codeAt (bodyOf Try.f79) [0]
theorem f79t1 {ρ : Type} (N : Nat) (m0 : Int × Int × List Int) (k1 : Int) (K : KT ρ) : f79i N f79c1 .n (f79s0 m0 k1) (joinK (some f79l1) K) =
  impl_mutated.Z1 N m0 k1 (fun k1 m2_0 m2_1 m2_2 t4_0 t4_1 => K .nrm (f79s1 k1 m2_0 m2_1 m2_2 t4_0 t4_1)) := by kernel_rfl
noncomputable def f79c3 := codeAt (bodyOf Try.f79) [1,0]
theorem f79t3 {ρ : Type} (N : Nat) (k1 : Int) (m2_0 : Int) (m2_1 : Int) (m2_2 : List Int) (t4_0 : Int) (t4_1 : Int) (K : KT ρ) : f79i N f79c3 .n (f79s1 k1 m2_0 m2_1 m2_2 t4_0 t4_1) (joinK (some f79l2) K) =
  impl_mutated.Z3 N k1 m2_0 m2_1 m2_2 t4_0 t4_1 (fun out5_2 k1 m2_0 m2_1 m2_2 t4_0 t4_1 out5_0 out5_1 => K .nrm (f79s2 out5_2 k1 m2_0 m2_1 m2_2 t4_0 t4_1 out5_0 out5_1)) := by kernel_rfl
noncomputable def f79c6 := codeAt (bodyOf Try.f79) [1,1,0,0]
theorem f79t6 {ρ : Type} (N : Nat) (out5_2 : List Int) (k1 : Int) (m2_0 : Int) (m2_1 : Int) (m2_2 : List Int) (t4_0 : Int) (t4_1 : Int) (out5_0 : Int) (out5_1 : Int) (K : KT ρ) : f79i N f79c6 .n (f79s2 out5_2 k1 m2_0 m2_1 m2_2 t4_0 t4_1 out5_0 out5_1) (joinK (some f79l3) K) =
  impl_mutated.Z6 N out5_2 k1 m2_0 m2_1 m2_2 t4_0 t4_1 out5_0 out5_1 (fun out5_2 k1 i6 m2_0 m2_1 m2_2 t4_0 t4_1 out5_0 out5_1 => K .nrm (f79s3 out5_2 k1 i6 m2_0 m2_1 m2_2 t4_0 t4_1 out5_0 out5_1)) := by kernel_rfl
noncomputable def f79c10 := codeAt (bodyOf Try.f79) [1,1,0,1,0,0,0]
theorem f79t10 {ρ : Type} (N : Nat) (out5_2 : List Int) (k1 : Int) (i6 : Int) (m2_0 : Int) (m2_1 : Int) (m2_2 : List Int) (t4_0 : Int) (t4_1 : Int) (out5_0 : Int) (out5_1 : Int) (K : KT ρ) : f79i N f79c10 .n (f79s3 out5_2 k1 i6 m2_0 m2_1 m2_2 t4_0 t4_1 out5_0 out5_1) (joinK (some f79l3) K) =
  impl_mutated.Z10 N out5_2 k1 i6 m2_0 m2_1 m2_2 t4_0 t4_1 out5_0 out5_1 (fun out5_2 k1 i6 m2_0 m2_1 m2_2 t4_0 t4_1 out5_0 out5_1 => K .nrm (f79s3 out5_2 k1 i6 m2_0 m2_1 m2_2 t4_0 t4_1 out5_0 out5_1)) (fun out5_2 t4_0 t4_1 out5_0 out5_1 => K (.exit 0) (f79s8 out5_2 t4_0 t4_1 out5_0 out5_1)) := by kernel_rfl
noncomputable def f79c14 := codeAt (bodyOf Try.f79) [1,1,0,1,0,0,1,0,0,0]
theorem f79t14 {ρ : Type} (N : Nat) (out5_2 : List Int) (k1 : Int) (i6 : Int) (m2_0 : Int) (m2_1 : Int) (m2_2 : List Int) (t4_0 : Int) (t4_1 : Int) (out5_0 : Int) (out5_1 : Int) (K : KT ρ) : f79i N f79c14 .n (f79s3 out5_2 k1 i6 m2_0 m2_1 m2_2 t4_0 t4_1 out5_0 out5_1) (joinK (some f79l4) K) =
  impl_mutated.Z14 N out5_2 k1 i6 m2_0 m2_1 m2_2 t4_0 t4_1 out5_0 out5_1 (fun out5_2 k1 i6 j7 m2_0 m2_1 m2_2 t4_0 t4_1 out5_0 out5_1 => K .nrm (f79s4 out5_2 k1 i6 j7 m2_0 m2_1 m2_2 t4_0 t4_1 out5_0 out5_1)) := by kernel_rfl
noncomputable def f79c18 := codeAt (bodyOf Try.f79) [1,1,0,1,0,0,1,0,0,1,0,0,0]
theorem f79t18 {ρ : Type} (N : Nat) (out5_2 : List Int) (k1 : Int) (i6 : Int) (j7 : Int) (m2_0 : Int) (m2_1 : Int) (m2_2 : List Int) (t4_0 : Int) (t4_1 : Int) (out5_0 : Int) (out5_1 : Int) (K : KT ρ) : f79i N f79c18 .n (f79s4 out5_2 k1 i6 j7 m2_0 m2_1 m2_2 t4_0 t4_1 out5_0 out5_1) (joinK (some f79l4) K) =
  impl_mutated.Z18 N out5_2 k1 i6 j7 m2_0 m2_1 m2_2 t4_0 t4_1 out5_0 out5_1 (fun out5_2 k1 i6 j7 m2_0 m2_1 m2_2 t4_0 t4_1 out5_0 out5_1 => K .nrm (f79s4 out5_2 k1 i6 j7 m2_0 m2_1 m2_2 t4_0 t4_1 out5_0 out5_1)) (fun out5_2 k1 i6 m2_0 m2_1 m2_2 t4_0 t4_1 out5_0 out5_1 => K (.exit 2) (f79s3 out5_2 k1 i6 m2_0 m2_1 m2_2 t4_0 t4_1 out5_0 out5_1)) := by kernel_rfl
noncomputable def f79c22 := codeAt (bodyOf Try.f79) [1,1,0,1,0,0,1,0,0,1,0,0,1,0,0,0]
theorem f79t22 {ρ : Type} (N : Nat) (out5_2 : List Int) (k1 : Int) (i6 : Int) (j7 : Int) (m2_0 : Int) (m2_1 : Int) (m2_2 : List Int) (t4_0 : Int) (t4_1 : Int) (out5_0 : Int) (out5_1 : Int) (K : KT ρ) : f79i N f79c22 .n (f79s4 out5_2 k1 i6 j7 m2_0 m2_1 m2_2 t4_0 t4_1 out5_0 out5_1) (joinK (some f79l5) K) =
  impl_mutated.Z22 N out5_2 k1 i6 j7 m2_0 m2_1 m2_2 t4_0 t4_1 out5_0 out5_1 (fun out5_2 k1 i6 j7 p8 m2_0 m2_1 m2_2 t4_0 t4_1 out5_0 out5_1 => K .nrm (f79s5 out5_2 k1 i6 j7 p8 m2_0 m2_1 m2_2 t4_0 t4_1 out5_0 out5_1)) := by kernel_rfl
noncomputable def f79c24 := codeAt (bodyOf Try.f79) [1,1,0,1,0,0,1,0,0,1,0,0,1,0,0,1,0]
theorem f79t24 {ρ : Type} (N : Nat) (out5_2 : List Int) (k1 : Int) (i6 : Int) (j7 : Int) (p8 : Int) (m2_0 : Int) (m2_1 : Int) (m2_2 : List Int) (t4_0 : Int) (t4_1 : Int) (out5_0 : Int) (out5_1 : Int) (K : KT ρ) : f79i N f79c24 .n (f79s5 out5_2 k1 i6 j7 p8 m2_0 m2_1 m2_2 t4_0 t4_1 out5_0 out5_1) (joinK (some f79l6) K) =
  impl_mutated.Z24 N out5_2 k1 i6 j7 p8 m2_0 m2_1 m2_2 t4_0 t4_1 out5_0 out5_1 (fun out5_2 k1 i6 j7 p8 a9 b10 m2_0 m2_1 m2_2 t4_0 t4_1 out5_0 out5_1 => K .nrm (f79s6 out5_2 k1 i6 j7 p8 a9 b10 m2_0 m2_1 m2_2 t4_0 t4_1 out5_0 out5_1)) := by kernel_rfl
noncomputable def f79c27 := codeAt (bodyOf Try.f79) [1,1,0,1,0,0,1,0,0,1,0,0,1,0,0,1,1,0,0]
theorem f79t27 {ρ : Type} (N : Nat) (out5_2 : List Int) (k1 : Int) (i6 : Int) (j7 : Int) (p8 : Int) (a9 : Int) (b10 : Int) (m2_0 : Int) (m2_1 : Int) (m2_2 : List Int) (t4_0 : Int) (t4_1 : Int) (out5_0 : Int) (out5_1 : Int) (K : KT ρ) : f79i N f79c27 .n (f79s6 out5_2 k1 i6 j7 p8 a9 b10 m2_0 m2_1 m2_2 t4_0 t4_1 out5_0 out5_1) (joinK (some f79l7) K) =
  impl_mutated.Z27 N out5_2 k1 i6 j7 p8 a9 b10 m2_0 m2_1 m2_2 t4_0 t4_1 out5_0 out5_1 (fun out5_2 k1 i6 j7 p8 a9 b10 t48 m2_0 m2_1 m2_2 t4_0 t4_1 out5_0 out5_1 => K .nrm (f79s7 out5_2 k1 i6 j7 p8 a9 b10 t48 m2_0 m2_1 m2_2 t4_0 t4_1 out5_0 out5_1)) := by kernel_rfl
noncomputable def f79c28 := codeAt (bodyOf Try.f79) [1,1,0,1,0,0,1,0,0,1,0,0,1,0,0,1,1,0,1]
theorem f79t28 {ρ : Type} (N : Nat) (out5_2 : List Int) (k1 : Int) (i6 : Int) (j7 : Int) (p8 : Int) (a9 : Int) (b10 : Int) (t48 : Bool) (m2_0 : Int) (m2_1 : Int) (m2_2 : List Int) (t4_0 : Int) (t4_1 : Int) (out5_0 : Int) (out5_1 : Int) (K : KT ρ) : f79i N f79c28 .n (f79s7 out5_2 k1 i6 j7 p8 a9 b10 t48 m2_0 m2_1 m2_2 t4_0 t4_1 out5_0 out5_1) (joinK (some f79l4) K) =
  impl_mutated.Z28 N out5_2 k1 i6 j7 p8 a9 b10 t48 m2_0 m2_1 m2_2 t4_0 t4_1 out5_0 out5_1 (fun out5_2 k1 i6 j7 m2_0 m2_1 m2_2 t4_0 t4_1 out5_0 out5_1 => K .nrm (f79s4 out5_2 k1 i6 j7 m2_0 m2_1 m2_2 t4_0 t4_1 out5_0 out5_1)) := by kernel_rfl
noncomputable def f79c26 := codeAt (bodyOf Try.f79) [1,1,0,1,0,0,1,0,0,1,0,0,1,0,0,1,1,0]
noncomputable def f79p26 : Plan := .mk (some f79l7) none .n .n
theorem f79t26 {ρ : Type} (N : Nat) (out5_2 : List Int) (k1 : Int) (i6 : Int) (j7 : Int) (p8 : Int) (a9 : Int) (b10 : Int) (m2_0 : Int) (m2_1 : Int) (m2_2 : List Int) (t4_0 : Int) (t4_1 : Int) (out5_0 : Int) (out5_1 : Int) (K : KT ρ) : f79i N f79c26 f79p26 (f79s6 out5_2 k1 i6 j7 p8 a9 b10 m2_0 m2_1 m2_2 t4_0 t4_1 out5_0 out5_1) (joinK (some f79l4) K) =
  impl_mutated.Z26 N out5_2 k1 i6 j7 p8 a9 b10 m2_0 m2_1 m2_2 t4_0 t4_1 out5_0 out5_1 (fun out5_2 k1 i6 j7 m2_0 m2_1 m2_2 t4_0 t4_1 out5_0 out5_1 => K .nrm (f79s4 out5_2 k1 i6 j7 m2_0 m2_1 m2_2 t4_0 t4_1 out5_0 out5_1)) :=
  viaSeq (fun k => impl_mutated.Z27 N out5_2 k1 i6 j7 p8 a9 b10 m2_0 m2_1 m2_2 t4_0 t4_1 out5_0 out5_1 k) (by kernel_rfl) (by kernel_rfl) (f79t27 N out5_2 k1 i6 j7 p8 a9 b10 m2_0 m2_1 m2_2 t4_0 t4_1 out5_0 out5_1 (seqK (fun σ => f79i N f79c28 .n σ (joinK (some f79l4) K)) (joinK (some f79l4) K))) (funext fun out5_2 => funext fun k1 => funext fun i6 => funext fun j7 => funext fun p8 => funext fun a9 => funext fun b10 => funext fun t48 => funext fun m2_0 => funext fun m2_1 => funext fun m2_2 => funext fun t4_0 => funext fun t4_1 => funext fun out5_0 => funext fun out5_1 => f79t28 N out5_2 k1 i6 j7 p8 a9 b10 t48 m2_0 m2_1 m2_2 t4_0 t4_1 out5_0 out5_1 K) (by kernel_rfl) (by kernel_rfl)
noncomputable def f79c25 := codeAt (bodyOf Try.f79) [1,1,0,1,0,0,1,0,0,1,0,0,1,0,0,1,1]
noncomputable def f79p25 : Plan := .mk (some f79l4) none f79p26 .n
theorem f79t25 {ρ : Type} (N : Nat) (out5_2 : List Int) (k1 : Int) (i6 : Int) (j7 : Int) (p8 : Int) (a9 : Int) (b10 : Int) (m2_0 : Int) (m2_1 : Int) (m2_2 : List Int) (t4_0 : Int) (t4_1 : Int) (out5_0 : Int) (out5_1 : Int) (K : KT ρ) : f79i N f79c25 f79p25 (f79s6 out5_2 k1 i6 j7 p8 a9 b10 m2_0 m2_1 m2_2 t4_0 t4_1 out5_0 out5_1) (joinK (some f79l4) K) =
  impl_mutated.Z25 N out5_2 k1 i6 j7 p8 a9 b10 m2_0 m2_1 m2_2 t4_0 t4_1 out5_0 out5_1 (fun out5_2 k1 i6 j7 m2_0 m2_1 m2_2 t4_0 t4_1 out5_0 out5_1 => K .nrm (f79s4 out5_2 k1 i6 j7 m2_0 m2_1 m2_2 t4_0 t4_1 out5_0 out5_1)) :=
  viaBlock (by kernel_rfl) (by kernel_rfl) (f79t26 N out5_2 k1 i6 j7 p8 a9 b10 m2_0 m2_1 m2_2 t4_0 t4_1 out5_0 out5_1 (blockK 4 (joinK (some f79l4) K))) (by kernel_rfl)
noncomputable def f79c23 := codeAt (bodyOf Try.f79) [1,1,0,1,0,0,1,0,0,1,0,0,1,0,0,1]
noncomputable def f79p23 : Plan := .mk (some f79l6) none .n f79p25
theorem f79t23 {ρ : Type} (N : Nat) (out5_2 : List Int) (k1 : Int) (i6 : Int) (j7 : Int) (p8 : Int) (m2_0 : Int) (m2_1 : Int) (m2_2 : List Int) (t4_0 : Int) (t4_1 : Int) (out5_0 : Int) (out5_1 : Int) (K : KT ρ) : f79i N f79c23 f79p23 (f79s5 out5_2 k1 i6 j7 p8 m2_0 m2_1 m2_2 t4_0 t4_1 out5_0 out5_1) (joinK (some f79l4) K) =
  impl_mutated.Z23 N out5_2 k1 i6 j7 p8 m2_0 m2_1 m2_2 t4_0 t4_1 out5_0 out5_1 (fun out5_2 k1 i6 j7 m2_0 m2_1 m2_2 t4_0 t4_1 out5_0 out5_1 => K .nrm (f79s4 out5_2 k1 i6 j7 m2_0 m2_1 m2_2 t4_0 t4_1 out5_0 out5_1)) :=
  viaSeq (fun k => impl_mutated.Z24 N out5_2 k1 i6 j7 p8 m2_0 m2_1 m2_2 t4_0 t4_1 out5_0 out5_1 k) (by kernel_rfl) (by kernel_rfl) (f79t24 N out5_2 k1 i6 j7 p8 m2_0 m2_1 m2_2 t4_0 t4_1 out5_0 out5_1 (seqK (fun σ => f79i N f79c25 f79p25 σ (joinK (some f79l4) K)) (joinK (some f79l4) K))) (funext fun out5_2 => funext fun k1 => funext fun i6 => funext fun j7 => funext fun p8 => funext fun a9 => funext fun b10 => funext fun m2_0 => funext fun m2_1 => funext fun m2_2 => funext fun t4_0 => funext fun t4_1 => funext fun out5_0 => funext fun out5_1 => f79t25 N out5_2 k1 i6 j7 p8 a9 b10 m2_0 m2_1 m2_2 t4_0 t4_1 out5_0 out5_1 K) (by kernel_rfl) (by kernel_rfl)
noncomputable def f79c21 := codeAt (bodyOf Try.f79) [1,1,0,1,0,0,1,0,0,1,0,0,1,0,0]
noncomputable def f79p21 : Plan := .mk (some f79l5) none .n f79p23
theorem f79t21 {ρ : Type} (N : Nat) (out5_2 : List Int) (k1 : Int) (i6 : Int) (j7 : Int) (m2_0 : Int) (m2_1 : Int) (m2_2 : List Int) (t4_0 : Int) (t4_1 : Int) (out5_0 : Int) (out5_1 : Int) (K : KT ρ) : f79i N f79c21 f79p21 (f79s4 out5_2 k1 i6 j7 m2_0 m2_1 m2_2 t4_0 t4_1 out5_0 out5_1) (joinK (some f79l4) K) =
  impl_mutated.Z21 N out5_2 k1 i6 j7 m2_0 m2_1 m2_2 t4_0 t4_1 out5_0 out5_1 (fun out5_2 k1 i6 j7 m2_0 m2_1 m2_2 t4_0 t4_1 out5_0 out5_1 => K .nrm (f79s4 out5_2 k1 i6 j7 m2_0 m2_1 m2_2 t4_0 t4_1 out5_0 out5_1)) :=
  viaSeq (fun k => impl_mutated.Z22 N out5_2 k1 i6 j7 m2_0 m2_1 m2_2 t4_0 t4_1 out5_0 out5_1 k) (by kernel_rfl) (by kernel_rfl) (f79t22 N out5_2 k1 i6 j7 m2_0 m2_1 m2_2 t4_0 t4_1 out5_0 out5_1 (seqK (fun σ => f79i N f79c23 f79p23 σ (joinK (some f79l4) K)) (joinK (some f79l4) K))) (funext fun out5_2 => funext fun k1 => funext fun i6 => funext fun j7 => funext fun p8 => funext fun m2_0 => funext fun m2_1 => funext fun m2_2 => funext fun t4_0 => funext fun t4_1 => funext fun out5_0 => funext fun out5_1 => f79t23 N out5_2 k1 i6 j7 p8 m2_0 m2_1 m2_2 t4_0 t4_1 out5_0 out5_1 K) (by kernel_rfl) (by kernel_rfl)
noncomputable def f79c20 := codeAt (bodyOf Try.f79) [1,1,0,1,0,0,1,0,0,1,0,0,1,0]
noncomputable def f79p20 : Plan := .mk (some f79l4) none f79p21 .n
theorem f79t20 {ρ : Type} (N : Nat) (out5_2 : List Int) (k1 : Int) (i6 : Int) (j7 : Int) (m2_0 : Int) (m2_1 : Int) (m2_2 : List Int) (t4_0 : Int) (t4_1 : Int) (out5_0 : Int) (out5_1 : Int) (K : KT ρ) : f79i N f79c20 f79p20 (f79s4 out5_2 k1 i6 j7 m2_0 m2_1 m2_2 t4_0 t4_1 out5_0 out5_1) (joinK (some f79l4) K) =
  impl_mutated.Z20 N out5_2 k1 i6 j7 m2_0 m2_1 m2_2 t4_0 t4_1 out5_0 out5_1 (fun out5_2 k1 i6 j7 m2_0 m2_1 m2_2 t4_0 t4_1 out5_0 out5_1 => K .nrm (f79s4 out5_2 k1 i6 j7 m2_0 m2_1 m2_2 t4_0 t4_1 out5_0 out5_1)) :=
  viaBlock (by kernel_rfl) (by kernel_rfl) (f79t21 N out5_2 k1 i6 j7 m2_0 m2_1 m2_2 t4_0 t4_1 out5_0 out5_1 (blockK 3 (joinK (some f79l4) K))) (by kernel_rfl)
noncomputable def f79c29 := codeAt (bodyOf Try.f79) [1,1,0,1,0,0,1,0,0,1,0,0,1,1]
theorem f79t29 {ρ : Type} (N : Nat) (out5_2 : List Int) (k1 : Int) (i6 : Int) (j7 : Int) (m2_0 : Int) (m2_1 : Int) (m2_2 : List Int) (t4_0 : Int) (t4_1 : Int) (out5_0 : Int) (out5_1 : Int) (K : KT ρ) : f79i N f79c29 .n (f79s4 out5_2 k1 i6 j7 m2_0 m2_1 m2_2 t4_0 t4_1 out5_0 out5_1) (joinK (some f79l4) K) =
  impl_mutated.Z29 N out5_2 k1 i6 j7 m2_0 m2_1 m2_2 t4_0 t4_1 out5_0 out5_1 (fun out5_2 k1 i6 j7 m2_0 m2_1 m2_2 t4_0 t4_1 out5_0 out5_1 => K .nrm (f79s4 out5_2 k1 i6 j7 m2_0 m2_1 m2_2 t4_0 t4_1 out5_0 out5_1)) := by kernel_rfl
noncomputable def f79c19 := codeAt (bodyOf Try.f79) [1,1,0,1,0,0,1,0,0,1,0,0,1]
noncomputable def f79p19 : Plan := .mk (some f79l4) none f79p20 .n
theorem f79t19 {ρ : Type} (N : Nat) (out5_2 : List Int) (k1 : Int) (i6 : Int) (j7 : Int) (m2_0 : Int) (m2_1 : Int) (m2_2 : List Int) (t4_0 : Int) (t4_1 : Int) (out5_0 : Int) (out5_1 : Int) (K : KT ρ) : f79i N f79c19 f79p19 (f79s4 out5_2 k1 i6 j7 m2_0 m2_1 m2_2 t4_0 t4_1 out5_0 out5_1) (joinK (some f79l4) K) =
  impl_mutated.Z19 N out5_2 k1 i6 j7 m2_0 m2_1 m2_2 t4_0 t4_1 out5_0 out5_1 (fun out5_2 k1 i6 j7 m2_0 m2_1 m2_2 t4_0 t4_1 out5_0 out5_1 => K .nrm (f79s4 out5_2 k1 i6 j7 m2_0 m2_1 m2_2 t4_0 t4_1 out5_0 out5_1)) :=
  viaSeq (fun k => impl_mutated.Z20 N out5_2 k1 i6 j7 m2_0 m2_1 m2_2 t4_0 t4_1 out5_0 out5_1 k) (by kernel_rfl) (by kernel_rfl) (f79t20 N out5_2 k1 i6 j7 m2_0 m2_1 m2_2 t4_0 t4_1 out5_0 out5_1 (seqK (fun σ => f79i N f79c29 .n σ (joinK (some f79l4) K)) (joinK (some f79l4) K))) (funext fun out5_2 => funext fun k1 => funext fun i6 => funext fun j7 => funext fun m2_0 => funext fun m2_1 => funext fun m2_2 => funext fun t4_0 => funext fun t4_1 => funext fun out5_0 => funext fun out5_1 => f79t29 N out5_2 k1 i6 j7 m2_0 m2_1 m2_2 t4_0 t4_1 out5_0 out5_1 K) (by kernel_rfl) (by kernel_rfl)
noncomputable def f79c17 := codeAt (bodyOf Try.f79) [1,1,0,1,0,0,1,0,0,1,0,0]
noncomputable def f79p17 : Plan := .mk (some f79l4) none .n f79p19
theorem f79t17 {ρ : Type} (N : Nat) (out5_2 : List Int) (k1 : Int) (i6 : Int) (j7 : Int) (m2_0 : Int) (m2_1 : Int) (m2_2 : List Int) (t4_0 : Int) (t4_1 : Int) (out5_0 : Int) (out5_1 : Int) (K : KT ρ) : f79i N f79c17 f79p17 (f79s4 out5_2 k1 i6 j7 m2_0 m2_1 m2_2 t4_0 t4_1 out5_0 out5_1) (joinK (some f79l4) K) =
  impl_mutated.Z17 N out5_2 k1 i6 j7 m2_0 m2_1 m2_2 t4_0 t4_1 out5_0 out5_1 (fun out5_2 k1 i6 j7 m2_0 m2_1 m2_2 t4_0 t4_1 out5_0 out5_1 => K .nrm (f79s4 out5_2 k1 i6 j7 m2_0 m2_1 m2_2 t4_0 t4_1 out5_0 out5_1)) (fun out5_2 k1 i6 m2_0 m2_1 m2_2 t4_0 t4_1 out5_0 out5_1 => K (.exit 2) (f79s3 out5_2 k1 i6 m2_0 m2_1 m2_2 t4_0 t4_1 out5_0 out5_1)) :=
  viaSeq (fun k => impl_mutated.Z18 N out5_2 k1 i6 j7 m2_0 m2_1 m2_2 t4_0 t4_1 out5_0 out5_1 k (fun out5_2 k1 i6 m2_0 m2_1 m2_2 t4_0 t4_1 out5_0 out5_1 => K (.exit 2) (f79s3 out5_2 k1 i6 m2_0 m2_1 m2_2 t4_0 t4_1 out5_0 out5_1))) (by kernel_rfl) (by kernel_rfl) (f79t18 N out5_2 k1 i6 j7 m2_0 m2_1 m2_2 t4_0 t4_1 out5_0 out5_1 (seqK (fun σ => f79i N f79c19 f79p19 σ (joinK (some f79l4) K)) (joinK (some f79l4) K))) (funext fun out5_2 => funext fun k1 => funext fun i6 => funext fun j7 => funext fun m2_0 => funext fun m2_1 => funext fun m2_2 => funext fun t4_0 => funext fun t4_1 => funext fun out5_0 => funext fun out5_1 => f79t19 N out5_2 k1 i6 j7 m2_0 m2_1 m2_2 t4_0 t4_1 out5_0 out5_1 K) (by kernel_rfl) (by kernel_rfl)
noncomputable def f79c16 := codeAt (bodyOf Try.f79) [1,1,0,1,0,0,1,0,0,1,0]
noncomputable def f79p16 : Plan := .mk none (some f79l4) f79p17 .n
noncomputable abbrev f79w16 {ρ : Type} (N : Nat) (M : Nat) (σ : St) (K : KT ρ) : Option ρ := loopC (fun σ K => f79i N f79c17 f79p17 σ K) f79l4 M σ K
theorem f79t16L {ρ : Type} (N : Nat) (K : KT ρ) : ∀ (M : Nat) (out5_2 : List Int) (k1 : Int) (i6 : Int) (j7 : Int) (m2_0 : Int) (m2_1 : Int) (m2_2 : List Int) (t4_0 : Int) (t4_1 : Int) (out5_0 : Int) (out5_1 : Int), f79w16 N M (f79s4 out5_2 k1 i6 j7 m2_0 m2_1 m2_2 t4_0 t4_1 out5_0 out5_1) K =
  impl_mutated.Z16L N (fun out5_2 k1 i6 m2_0 m2_1 m2_2 t4_0 t4_1 out5_0 out5_1 => K (.exit 2) (f79s3 out5_2 k1 i6 m2_0 m2_1 m2_2 t4_0 t4_1 out5_0 out5_1)) M out5_2 k1 i6 j7 m2_0 m2_1 m2_2 t4_0 t4_1 out5_0 out5_1
  | 0, _, _, _, _, _, _, _, _, _, _, _ => rfl
  | M + 1, out5_2, k1, i6, j7, m2_0, m2_1, m2_2, t4_0, t4_1, out5_0, out5_1 => viaRound (fun k => impl_mutated.Z17 N out5_2 k1 i6 j7 m2_0 m2_1 m2_2 t4_0 t4_1 out5_0 out5_1 k (fun out5_2 k1 i6 m2_0 m2_1 m2_2 t4_0 t4_1 out5_0 out5_1 => K (.exit 2) (f79s3 out5_2 k1 i6 m2_0 m2_1 m2_2 t4_0 t4_1 out5_0 out5_1))) (f79t17 N out5_2 k1 i6 j7 m2_0 m2_1 m2_2 t4_0 t4_1 out5_0 out5_1 (seqK (fun σ => f79w16 N M σ K) K)) (funext fun out5_2 => funext fun k1 => funext fun i6 => funext fun j7 => funext fun m2_0 => funext fun m2_1 => funext fun m2_2 => funext fun t4_0 => funext fun t4_1 => funext fun out5_0 => funext fun out5_1 => f79t16L N K M out5_2 k1 i6 j7 m2_0 m2_1 m2_2 t4_0 t4_1 out5_0 out5_1) (by kernel_rfl) (by kernel_rfl)
theorem f79t16 {ρ : Type} (N : Nat) (out5_2 : List Int) (k1 : Int) (i6 : Int) (j7 : Int) (m2_0 : Int) (m2_1 : Int) (m2_2 : List Int) (t4_0 : Int) (t4_1 : Int) (out5_0 : Int) (out5_1 : Int) (K : KT ρ) : f79i N f79c16 f79p16 (f79s4 out5_2 k1 i6 j7 m2_0 m2_1 m2_2 t4_0 t4_1 out5_0 out5_1) (joinK (some f79l3) K) =
  impl_mutated.Z16 N out5_2 k1 i6 j7 m2_0 m2_1 m2_2 t4_0 t4_1 out5_0 out5_1 (fun out5_2 k1 i6 m2_0 m2_1 m2_2 t4_0 t4_1 out5_0 out5_1 => K (.exit 2) (f79s3 out5_2 k1 i6 m2_0 m2_1 m2_2 t4_0 t4_1 out5_0 out5_1)) :=
  viaLoop (by kernel_rfl) (by kernel_rfl) (σ' := f79s4 out5_2 k1 i6 j7 m2_0 m2_1 m2_2 t4_0 t4_1 out5_0 out5_1) (by kernel_rfl) (f79t16L N (joinK (some f79l3) K) N out5_2 k1 i6 j7 m2_0 m2_1 m2_2 t4_0 t4_1 out5_0 out5_1) (by kernel_rfl)
noncomputable def f79c15 := codeAt (bodyOf Try.f79) [1,1,0,1,0,0,1,0,0,1]
noncomputable def f79p15 : Plan := .mk (some f79l3) none f79p16 .n
theorem f79t15 {ρ : Type} (N : Nat) (out5_2 : List Int) (k1 : Int) (i6 : Int) (j7 : Int) (m2_0 : Int) (m2_1 : Int) (m2_2 : List Int) (t4_0 : Int) (t4_1 : Int) (out5_0 : Int) (out5_1 : Int) (K : KT ρ) : f79i N f79c15 f79p15 (f79s4 out5_2 k1 i6 j7 m2_0 m2_1 m2_2 t4_0 t4_1 out5_0 out5_1) (joinK (some f79l3) K) =
  impl_mutated.Z15 N out5_2 k1 i6 j7 m2_0 m2_1 m2_2 t4_0 t4_1 out5_0 out5_1 (fun out5_2 k1 i6 m2_0 m2_1 m2_2 t4_0 t4_1 out5_0 out5_1 => K .nrm (f79s3 out5_2 k1 i6 m2_0 m2_1 m2_2 t4_0 t4_1 out5_0 out5_1)) :=
  viaBlock (by kernel_rfl) (by kernel_rfl) (f79t16 N out5_2 k1 i6 j7 m2_0 m2_1 m2_2 t4_0 t4_1 out5_0 out5_1 (blockK 2 (joinK (some f79l3) K))) (by kernel_rfl)
noncomputable def f79c13 := codeAt (bodyOf Try.f79) [1,1,0,1,0,0,1,0,0]
noncomputable def f79p13 : Plan := .mk (some f79l4) none .n f79p15
theorem f79t13 {ρ : Type} (N : Nat) (out5_2 : List Int) (k1 : Int) (i6 : Int) (m2_0 : Int) (m2_1 : Int) (m2_2 : List Int) (t4_0 : Int) (t4_1 : Int) (out5_0 : Int) (out5_1 : Int) (K : KT ρ) : f79i N f79c13 f79p13 (f79s3 out5_2 k1 i6 m2_0 m2_1 m2_2 t4_0 t4_1 out5_0 out5_1) (joinK (some f79l3) K) =
  impl_mutated.Z13 N out5_2 k1 i6 m2_0 m2_1 m2_2 t4_0 t4_1 out5_0 out5_1 (fun out5_2 k1 i6 m2_0 m2_1 m2_2 t4_0 t4_1 out5_0 out5_1 => K .nrm (f79s3 out5_2 k1 i6 m2_0 m2_1 m2_2 t4_0 t4_1 out5_0 out5_1)) :=
  viaSeq (fun k => impl_mutated.Z14 N out5_2 k1 i6 m2_0 m2_1 m2_2 t4_0 t4_1 out5_0 out5_1 k) (by kernel_rfl) (by kernel_rfl) (f79t14 N out5_2 k1 i6 m2_0 m2_1 m2_2 t4_0 t4_1 out5_0 out5_1 (seqK (fun σ => f79i N f79c15 f79p15 σ (joinK (some f79l3) K)) (joinK (some f79l3) K))) (funext fun out5_2 => funext fun k1 => funext fun i6 => funext fun j7 => funext fun m2_0 => funext fun m2_1 => funext fun m2_2 => funext fun t4_0 => funext fun t4_1 => funext fun out5_0 => funext fun out5_1 => f79t15 N out5_2 k1 i6 j7 m2_0 m2_1 m2_2 t4_0 t4_1 out5_0 out5_1 K) (by kernel_rfl) (by kernel_rfl)
noncomputable def f79c12 := codeAt (bodyOf Try.f79) [1,1,0,1,0,0,1,0]
noncomputable def f79p12 : Plan := .mk (some f79l3) none f79p13 .n
theorem f79t12 {ρ : Type} (N : Nat) (out5_2 : List Int) (k1 : Int) (i6 : Int) (m2_0 : Int) (m2_1 : Int) (m2_2 : List Int) (t4_0 : Int) (t4_1 : Int) (out5_0 : Int) (out5_1 : Int) (K : KT ρ) : f79i N f79c12 f79p12 (f79s3 out5_2 k1 i6 m2_0 m2_1 m2_2 t4_0 t4_1 out5_0 out5_1) (joinK (some f79l3) K) =
  impl_mutated.Z12 N out5_2 k1 i6 m2_0 m2_1 m2_2 t4_0 t4_1 out5_0 out5_1 (fun out5_2 k1 i6 m2_0 m2_1 m2_2 t4_0 t4_1 out5_0 out5_1 => K .nrm (f79s3 out5_2 k1 i6 m2_0 m2_1 m2_2 t4_0 t4_1 out5_0 out5_1)) :=
  viaBlock (by kernel_rfl) (by kernel_rfl) (f79t13 N out5_2 k1 i6 m2_0 m2_1 m2_2 t4_0 t4_1 out5_0 out5_1 (blockK 1 (joinK (some f79l3) K))) (by kernel_rfl)
noncomputable def f79c30 := codeAt (bodyOf Try.f79) [1,1,0,1,0,0,1,1]
theorem f79t30 {ρ : Type} (N : Nat) (out5_2 : List Int) (k1 : Int) (i6 : Int) (m2_0 : Int) (m2_1 : Int) (m2_2 : List Int) (t4_0 : Int) (t4_1 : Int) (out5_0 : Int) (out5_1 : Int) (K : KT ρ) : f79i N f79c30 .n (f79s3 out5_2 k1 i6 m2_0 m2_1 m2_2 t4_0 t4_1 out5_0 out5_1) (joinK (some f79l3) K) =
  impl_mutated.Z30 N out5_2 k1 i6 m2_0 m2_1 m2_2 t4_0 t4_1 out5_0 out5_1 (fun out5_2 k1 i6 m2_0 m2_1 m2_2 t4_0 t4_1 out5_0 out5_1 => K .nrm (f79s3 out5_2 k1 i6 m2_0 m2_1 m2_2 t4_0 t4_1 out5_0 out5_1)) := by kernel_rfl
noncomputable def f79c11 := codeAt (bodyOf Try.f79) [1,1,0,1,0,0,1]
noncomputable def f79p11 : Plan := .mk (some f79l3) none f79p12 .n
theorem f79t11 {ρ : Type} (N : Nat) (out5_2 : List Int) (k1 : Int) (i6 : Int) (m2_0 : Int) (m2_1 : Int) (m2_2 : List Int) (t4_0 : Int) (t4_1 : Int) (out5_0 : Int) (out5_1 : Int) (K : KT ρ) : f79i N f79c11 f79p11 (f79s3 out5_2 k1 i6 m2_0 m2_1 m2_2 t4_0 t4_1 out5_0 out5_1) (joinK (some f79l3) K) =
  impl_mutated.Z11 N out5_2 k1 i6 m2_0 m2_1 m2_2 t4_0 t4_1 out5_0 out5_1 (fun out5_2 k1 i6 m2_0 m2_1 m2_2 t4_0 t4_1 out5_0 out5_1 => K .nrm (f79s3 out5_2 k1 i6 m2_0 m2_1 m2_2 t4_0 t4_1 out5_0 out5_1)) :=
  viaSeq (fun k => impl_mutated.Z12 N out5_2 k1 i6 m2_0 m2_1 m2_2 t4_0 t4_1 out5_0 out5_1 k) (by kernel_rfl) (by kernel_rfl) (f79t12 N out5_2 k1 i6 m2_0 m2_1 m2_2 t4_0 t4_1 out5_0 out5_1 (seqK (fun σ => f79i N f79c30 .n σ (joinK (some f79l3) K)) (joinK (some f79l3) K))) (funext fun out5_2 => funext fun k1 => funext fun i6 => funext fun m2_0 => funext fun m2_1 => funext fun m2_2 => funext fun t4_0 => funext fun t4_1 => funext fun out5_0 => funext fun out5_1 => f79t30 N out5_2 k1 i6 m2_0 m2_1 m2_2 t4_0 t4_1 out5_0 out5_1 K) (by kernel_rfl) (by kernel_rfl)
noncomputable def f79c9 := codeAt (bodyOf Try.f79) [1,1,0,1,0,0]
noncomputable def f79p9 : Plan := .mk (some f79l3) none .n f79p11
theorem f79t9 {ρ : Type} (N : Nat) (out5_2 : List Int) (k1 : Int) (i6 : Int) (m2_0 : Int) (m2_1 : Int) (m2_2 : List Int) (t4_0 : Int) (t4_1 : Int) (out5_0 : Int) (out5_1 : Int) (K : KT ρ) : f79i N f79c9 f79p9 (f79s3 out5_2 k1 i6 m2_0 m2_1 m2_2 t4_0 t4_1 out5_0 out5_1) (joinK (some f79l3) K) =
  impl_mutated.Z9 N out5_2 k1 i6 m2_0 m2_1 m2_2 t4_0 t4_1 out5_0 out5_1 (fun out5_2 k1 i6 m2_0 m2_1 m2_2 t4_0 t4_1 out5_0 out5_1 => K .nrm (f79s3 out5_2 k1 i6 m2_0 m2_1 m2_2 t4_0 t4_1 out5_0 out5_1)) (fun out5_2 t4_0 t4_1 out5_0 out5_1 => K (.exit 0) (f79s8 out5_2 t4_0 t4_1 out5_0 out5_1)) :=
  viaSeq (fun k => impl_mutated.Z10 N out5_2 k1 i6 m2_0 m2_1 m2_2 t4_0 t4_1 out5_0 out5_1 k (fun out5_2 t4_0 t4_1 out5_0 out5_1 => K (.exit 0) (f79s8 out5_2 t4_0 t4_1 out5_0 out5_1))) (by kernel_rfl) (by kernel_rfl) (f79t10 N out5_2 k1 i6 m2_0 m2_1 m2_2 t4_0 t4_1 out5_0 out5_1 (seqK (fun σ => f79i N f79c11 f79p11 σ (joinK (some f79l3) K)) (joinK (some f79l3) K))) (funext fun out5_2 => funext fun k1 => funext fun i6 => funext fun m2_0 => funext fun m2_1 => funext fun m2_2 => funext fun t4_0 => funext fun t4_1 => funext fun out5_0 => funext fun out5_1 => f79t11 N out5_2 k1 i6 m2_0 m2_1 m2_2 t4_0 t4_1 out5_0 out5_1 K) (by kernel_rfl) (by kernel_rfl)
noncomputable def f79c8 := codeAt (bodyOf Try.f79) [1,1,0,1,0]
noncomputable def f79p8 : Plan := .mk none (some f79l3) f79p9 .n
noncomputable abbrev f79w8 {ρ : Type} (N : Nat) (M : Nat) (σ : St) (K : KT ρ) : Option ρ := loopC (fun σ K => f79i N f79c9 f79p9 σ K) f79l3 M σ K
theorem f79t8L {ρ : Type} (N : Nat) (K : KT ρ) : ∀ (M : Nat) (out5_2 : List Int) (k1 : Int) (i6 : Int) (m2_0 : Int) (m2_1 : Int) (m2_2 : List Int) (t4_0 : Int) (t4_1 : Int) (out5_0 : Int) (out5_1 : Int), f79w8 N M (f79s3 out5_2 k1 i6 m2_0 m2_1 m2_2 t4_0 t4_1 out5_0 out5_1) K =
  impl_mutated.Z8L N (fun out5_2 t4_0 t4_1 out5_0 out5_1 => K (.exit 0) (f79s8 out5_2 t4_0 t4_1 out5_0 out5_1)) M out5_2 k1 i6 m2_0 m2_1 m2_2 t4_0 t4_1 out5_0 out5_1
  | 0, _, _, _, _, _, _, _, _, _, _ => rfl
  | M + 1, out5_2, k1, i6, m2_0, m2_1, m2_2, t4_0, t4_1, out5_0, out5_1 => viaRound (fun k => impl_mutated.Z9 N out5_2 k1 i6 m2_0 m2_1 m2_2 t4_0 t4_1 out5_0 out5_1 k (fun out5_2 t4_0 t4_1 out5_0 out5_1 => K (.exit 0) (f79s8 out5_2 t4_0 t4_1 out5_0 out5_1))) (f79t9 N out5_2 k1 i6 m2_0 m2_1 m2_2 t4_0 t4_1 out5_0 out5_1 (seqK (fun σ => f79w8 N M σ K) K)) (funext fun out5_2 => funext fun k1 => funext fun i6 => funext fun m2_0 => funext fun m2_1 => funext fun m2_2 => funext fun t4_0 => funext fun t4_1 => funext fun out5_0 => funext fun out5_1 => f79t8L N K M out5_2 k1 i6 m2_0 m2_1 m2_2 t4_0 t4_1 out5_0 out5_1) (by kernel_rfl) (by kernel_rfl)
theorem f79t8 {ρ : Type} (N : Nat) (out5_2 : List Int) (k1 : Int) (i6 : Int) (m2_0 : Int) (m2_1 : Int) (m2_2 : List Int) (t4_0 : Int) (t4_1 : Int) (out5_0 : Int) (out5_1 : Int) (K : KT ρ) : f79i N f79c8 f79p8 (f79s3 out5_2 k1 i6 m2_0 m2_1 m2_2 t4_0 t4_1 out5_0 out5_1) (joinK (some f79l8) K) =
  impl_mutated.Z8 N out5_2 k1 i6 m2_0 m2_1 m2_2 t4_0 t4_1 out5_0 out5_1 (fun out5_2 t4_0 t4_1 out5_0 out5_1 => K (.exit 0) (f79s8 out5_2 t4_0 t4_1 out5_0 out5_1)) :=
  viaLoop (by kernel_rfl) (by kernel_rfl) (σ' := f79s3 out5_2 k1 i6 m2_0 m2_1 m2_2 t4_0 t4_1 out5_0 out5_1) (by kernel_rfl) (f79t8L N (joinK (some f79l8) K) N out5_2 k1 i6 m2_0 m2_1 m2_2 t4_0 t4_1 out5_0 out5_1) (by kernel_rfl)
noncomputable def f79c7 := codeAt (bodyOf Try.f79) [1,1,0,1]
noncomputable def f79p7 : Plan := .mk (some f79l8) none f79p8 .n
theorem f79t7 {ρ : Type} (N : Nat) (out5_2 : List Int) (k1 : Int) (i6 : Int) (m2_0 : Int) (m2_1 : Int) (m2_2 : List Int) (t4_0 : Int) (t4_1 : Int) (out5_0 : Int) (out5_1 : Int) (K : KT ρ) : f79i N f79c7 f79p7 (f79s3 out5_2 k1 i6 m2_0 m2_1 m2_2 t4_0 t4_1 out5_0 out5_1) (joinK (some f79l8) K) =
  impl_mutated.Z7 N out5_2 k1 i6 m2_0 m2_1 m2_2 t4_0 t4_1 out5_0 out5_1 (fun out5_2 t4_0 t4_1 out5_0 out5_1 => K .nrm (f79s8 out5_2 t4_0 t4_1 out5_0 out5_1)) :=
  viaBlock (by kernel_rfl) (by kernel_rfl) (f79t8 N out5_2 k1 i6 m2_0 m2_1 m2_2 t4_0 t4_1 out5_0 out5_1 (blockK 0 (joinK (some f79l8) K))) (by kernel_rfl)
noncomputable def f79c5 := codeAt (bodyOf Try.f79) [1,1,0]
noncomputable def f79p5 : Plan := .mk (some f79l3) none .n f79p7
theorem f79t5 {ρ : Type} (N : Nat) (out5_2 : List Int) (k1 : Int) (m2_0 : Int) (m2_1 : Int) (m2_2 : List Int) (t4_0 : Int) (t4_1 : Int) (out5_0 : Int) (out5_1 : Int) (K : KT ρ) : f79i N f79c5 f79p5 (f79s2 out5_2 k1 m2_0 m2_1 m2_2 t4_0 t4_1 out5_0 out5_1) (joinK (some f79l8) K) =
  impl_mutated.Z5 N out5_2 k1 m2_0 m2_1 m2_2 t4_0 t4_1 out5_0 out5_1 (fun out5_2 t4_0 t4_1 out5_0 out5_1 => K .nrm (f79s8 out5_2 t4_0 t4_1 out5_0 out5_1)) :=
  viaSeq (fun k => impl_mutated.Z6 N out5_2 k1 m2_0 m2_1 m2_2 t4_0 t4_1 out5_0 out5_1 k) (by kernel_rfl) (by kernel_rfl) (f79t6 N out5_2 k1 m2_0 m2_1 m2_2 t4_0 t4_1 out5_0 out5_1 (seqK (fun σ => f79i N f79c7 f79p7 σ (joinK (some f79l8) K)) (joinK (some f79l8) K))) (funext fun out5_2 => funext fun k1 => funext fun i6 => funext fun m2_0 => funext fun m2_1 => funext fun m2_2 => funext fun t4_0 => funext fun t4_1 => funext fun out5_0 => funext fun out5_1 => f79t7 N out5_2 k1 i6 m2_0 m2_1 m2_2 t4_0 t4_1 out5_0 out5_1 K) (by kernel_rfl) (by kernel_rfl)
noncomputable def f79c31 := codeAt (bodyOf Try.f79) [1,1,1]
theorem f79t31 {ρ : Type} (N : Nat) (out5_2 : List Int) (t4_0 : Int) (t4_1 : Int) (out5_0 : Int) (out5_1 : Int) (K : KT ρ) : f79i N f79c31 .n (f79s8 out5_2 t4_0 t4_1 out5_0 out5_1) (joinK (some f79lE) K) =
  impl_mutated.Z31 N out5_2 t4_0 t4_1 out5_0 out5_1 (fun t4_2 t4_0 t4_1 => K .ret (f79s9 t4_2 t4_0 t4_1)) := by kernel_rfl
noncomputable def f79c4 := codeAt (bodyOf Try.f79) [1,1]
noncomputable def f79p4 : Plan := .mk (some f79l8) none f79p5 .n
theorem f79t4 {ρ : Type} (N : Nat) (out5_2 : List Int) (k1 : Int) (m2_0 : Int) (m2_1 : Int) (m2_2 : List Int) (t4_0 : Int) (t4_1 : Int) (out5_0 : Int) (out5_1 : Int) (K : KT ρ) : f79i N f79c4 f79p4 (f79s2 out5_2 k1 m2_0 m2_1 m2_2 t4_0 t4_1 out5_0 out5_1) (joinK (some f79lE) K) =
  impl_mutated.Z4 N out5_2 k1 m2_0 m2_1 m2_2 t4_0 t4_1 out5_0 out5_1 (fun t4_2 t4_0 t4_1 => K .ret (f79s9 t4_2 t4_0 t4_1)) :=
  viaSeq (fun k => impl_mutated.Z5 N out5_2 k1 m2_0 m2_1 m2_2 t4_0 t4_1 out5_0 out5_1 k) (by kernel_rfl) (by kernel_rfl) (f79t5 N out5_2 k1 m2_0 m2_1 m2_2 t4_0 t4_1 out5_0 out5_1 (seqK (fun σ => f79i N f79c31 .n σ (joinK (some f79lE) K)) (joinK (some f79lE) K))) (funext fun out5_2 => funext fun t4_0 => funext fun t4_1 => funext fun out5_0 => funext fun out5_1 => f79t31 N out5_2 t4_0 t4_1 out5_0 out5_1 K) (by kernel_rfl) (by kernel_rfl)
noncomputable def f79c2 := codeAt (bodyOf Try.f79) [1]
noncomputable def f79p2 : Plan := .mk (some f79l2) none .n f79p4
theorem f79t2 {ρ : Type} (N : Nat) (k1 : Int) (m2_0 : Int) (m2_1 : Int) (m2_2 : List Int) (t4_0 : Int) (t4_1 : Int) (K : KT ρ) : f79i N f79c2 f79p2 (f79s1 k1 m2_0 m2_1 m2_2 t4_0 t4_1) (joinK (some f79lE) K) =
  impl_mutated.Z2 N k1 m2_0 m2_1 m2_2 t4_0 t4_1 (fun t4_2 t4_0 t4_1 => K .ret (f79s9 t4_2 t4_0 t4_1)) :=
  viaSeq (fun k => impl_mutated.Z3 N k1 m2_0 m2_1 m2_2 t4_0 t4_1 k) (by kernel_rfl) (by kernel_rfl) (f79t3 N k1 m2_0 m2_1 m2_2 t4_0 t4_1 (seqK (fun σ => f79i N f79c4 f79p4 σ (joinK (some f79lE) K)) (joinK (some f79lE) K))) (funext fun out5_2 => funext fun k1 => funext fun m2_0 => funext fun m2_1 => funext fun m2_2 => funext fun t4_0 => funext fun t4_1 => funext fun out5_0 => funext fun out5_1 => f79t4 N out5_2 k1 m2_0 m2_1 m2_2 t4_0 t4_1 out5_0 out5_1 K) (by kernel_rfl) (by kernel_rfl)
noncomputable def f79c0 := codeAt (bodyOf Try.f79) []
noncomputable def f79p0 : Plan := .mk (some f79l1) none .n f79p2
theorem f79t0 {ρ : Type} (N : Nat) (m0 : Int × Int × List Int) (k1 : Int) (K : KT ρ) : f79i N f79c0 f79p0 (f79s0 m0 k1) (joinK (some f79lE) K) =
  impl_mutated.Z0 N m0 k1 (fun t4_2 t4_0 t4_1 => K .ret (f79s9 t4_2 t4_0 t4_1)) :=
  viaSeq (fun k => impl_mutated.Z1 N m0 k1 k) (by kernel_rfl) (by kernel_rfl) (f79t1 N m0 k1 (seqK (fun σ => f79i N f79c2 f79p2 σ (joinK (some f79lE) K)) (joinK (some f79lE) K))) (funext fun k1 => funext fun m2_0 => funext fun m2_1 => funext fun m2_2 => funext fun t4_0 => funext fun t4_1 => f79t2 N k1 m2_0 m2_1 m2_2 t4_0 t4_1 K) (by kernel_rfl) (by kernel_rfl)
theorem f79m (N : Nat) (m0 : Int × Int × List Int) (k1 : Int) : f79i N f79c0 f79p0 (f79s0 m0 k1) (joinK (some f79lE) (finK tab f79sig Try.f79.results.toList)) = impl_mutated.Z0 N m0 k1 (fun t4_2 t4_0 t4_1 => some ((), ((t4_0, (t4_1, t4_2)), ()))) :=
  (f79t0 N m0 k1 (finK tab f79sig Try.f79.results.toList)).trans (by kernel_rfl)
theorem f79ok (h : impl_mutated.Spec) : EntryOk Try.prog 79 e79 :=
  entry_of_code (sig := f79sig) (c := f79c0) (pl := f79p0) (je := (some f79lE)) (B := f79B) Try.func79 (by kernel_rfl) (by kernel_rfl) (by kernel_rfl) tabOk f79GOk (by kernel_rfl) (by kernel_rfl) (by kernel_rfl) (by kernel_rfl) fun X hb hp => by
    obtain ⟨m0, k1, _⟩ := X
    obtain ⟨N, h⟩ := h m0 k1 hb.1 hp
    exact ⟨N, (f79m N m0 k1).trans (h N (Nat.le_refl N))⟩
theorem e79ok : EntryOk Try.prog 79 e79 := f79ok impl_mutated.ok
end Go.Fw
set_option linter.unusedVariables false
set_option linter.unusedSimpArgs false
set_option maxRecDepth 100000
namespace Go.Fw
open Go.Proofs
/-! ### loop.example/g03115/impl.MutateMatrix -/
noncomputable def f40sig : Sig := ⟨[⟨.pair (.int .i64) (.pair (.int .i64) (.sl 3 (.int .i64))), true, false⟩, ⟨.int .i64, false, false⟩], [⟨.pair (.int .i64) (.pair (.int .i64) (.sl 3 (.int .i64))), true, false⟩, ⟨.bool, false, false⟩]⟩
noncomputable def e40 : Entry := ⟨f40sig, none, fun X => ((), ((impl_MutateMatrix.g X.1 X.2.1).1, ((impl_MutateMatrix.g X.1 X.2.1).2, ())))⟩
noncomputable def f40G : Nat → Option Entry := addG (addG (addG (fun _ => none) 61 e61) 65 e65) 79 e79
theorem f40GOk : GOk Try.prog f40G := (((GOk.nil).add e61ok (by kernel_rfl)).add e65ok (by kernel_rfl)).add e79ok (by kernel_rfl)
noncomputable def f40lE : Clean := ⟨[], [], [], [], []⟩
noncomputable def f40s0 (m0 : Int × Int × List Int) (k1 : Int) : St := initSt f40sig.ps (m0, (k1, ()))
noncomputable def f40s1 (t4_2 : List Int) (t5 : Bool) (t4_0 : Int) (t4_1 : Int) : St := stOf [(4, .c (.box 4 0)), (5, .c (.bool t5))] [(4, (26, [.int .i64 t4_0, .int .i64 t4_1, .own 20000258]))] [(20000258, (⟨3, .int .i64, t4_2, true, false⟩ : Row))]
noncomputable def f40l1 : Clean := ⟨[4, 5], [4], [⟨⟨true, 4, 2⟩, 30000000, 3, .int .i64, true⟩], [], [(⟨true, 4, 2⟩, 20000258)]⟩
noncomputable def f40B : Nat → Option Clean := lookL [(1000000, f40l1)]
noncomputable abbrev f40i {ρ : Type} (N : Nat) (c : Code) (p : Plan) (σ : St) (K : KT ρ) : Option ρ := iCode f40G tab f40B N c p σ K
noncomputable def f40c0 := codeAt (bodyOf Try.f40) []
theorem f40t0 {ρ : Type} (N : Nat) (m0 : Int × Int × List Int) (k1 : Int) (K : KT ρ) : f40i N f40c0 .n (f40s0 m0 k1) (joinK (some f40lE) K) =
  impl_MutateMatrix.Z0 N m0 k1 (fun t4_2 t5 t4_0 t4_1 => K .ret (f40s1 t4_2 t5 t4_0 t4_1)) := by kernel_rfl
theorem f40m (N : Nat) (m0 : Int × Int × List Int) (k1 : Int) : f40i N f40c0 .n (f40s0 m0 k1) (joinK (some f40lE) (finK tab f40sig Try.f40.results.toList)) = impl_MutateMatrix.Z0 N m0 k1 (fun t4_2 t5 t4_0 t4_1 => some ((), ((t4_0, (t4_1, t4_2)), (t5, ())))) :=
  (f40t0 N m0 k1 (finK tab f40sig Try.f40.results.toList)).trans (by kernel_rfl)
theorem f40ok (h : impl_MutateMatrix.Spec) : EntryOk Try.prog 40 e40 :=
  entry_of_code (sig := f40sig) (c := f40c0) (pl := .n) (je := (some f40lE)) (B := f40B) Try.func40 (by kernel_rfl) (by kernel_rfl) (by kernel_rfl) tabOk f40GOk (by kernel_rfl) (by kernel_rfl) (by kernel_rfl) (by kernel_rfl) fun X hb hp => by
    obtain ⟨m0, k1, _⟩ := X
    obtain ⟨N, h⟩ := h m0 k1 hb.1
    exact ⟨N, (f40m N m0 k1).trans (h N (Nat.le_refl N))⟩
theorem e40ok : EntryOk Try.prog 40 e40 := f40ok impl_MutateMatrix.ok
end Go.Fw
set_option linter.unusedVariables false
set_option linter.unusedSimpArgs false
set_option maxRecDepth 100000
namespace Go.Fw
open Go.Proofs
/-! ### loop.example/g03115/impl.walk -/
noncomputable def f57sig : Sig := ⟨[⟨.pair (.int .i64) (.pair (.int .i64) (.sl 3 (.int .i64))), true, false⟩, ⟨.sl 3 (.int .i64), false, false⟩], [⟨.sl 26 (.pair (.int .i64) (.pair (.int .i64) (.sl 3 (.int .i64)))), false, false⟩, ⟨.bool, false, false⟩]⟩
noncomputable def e57 : Entry := ⟨f57sig, none, fun X => ((), ((impl_walk.g X.1 X.2.1).1, ((impl_walk.g X.1 X.2.1).2, ())))⟩
noncomputable def f57G : Nat → Option Entry := addG (addG (fun _ => none) 30 e30) 40 e40
theorem f57GOk : GOk Try.prog f57G := ((GOk.nil).add e30ok (by kernel_rfl)).add e40ok (by kernel_rfl)
noncomputable def f57lE : Clean := ⟨[], [], [], [], []⟩
noncomputable def f57s0 (m0 : Int × Int × List Int) (ks1 : List Int) : St := initSt f57sig.ps (m0, (ks1, ()))
noncomputable def f57s1 (ks1 : List Int) (m2_0 : Int) (m2_1 : Int) (m2_2 : List Int) : St := stOf [(1, .c (.sn 3 (.int .i64) ks1 none)), (2, .c (.box 2 0))] [(2, (26, [.int .i64 m2_0, .int .i64 m2_1, .sn 3 (.int .i64) m2_2 none]))] []
noncomputable def f57l1 : Clean := ⟨[1, 2], [2], [], [], []⟩
noncomputable def f57s2 (p6_2 : List Int) (ks1 : List Int) (ok7 : Bool) (p6_0 : Int) (p6_1 : Int) : St := stOf [(1, .c (.sn 3 (.int .i64) ks1 none)), (6, .c (.box 6 0)), (7, .c (.bool ok7))] [(6, (26, [.int .i64 p6_0, .int .i64 p6_1, .own 20000386]))] [(20000386, (⟨3, .int .i64, p6_2, true, false⟩ : Row))]
noncomputable def f57l2 : Clean := ⟨[1, 6, 7], [6], [], [], [(⟨true, 6, 2⟩, 20000386)]⟩
noncomputable def f57s3 (p6_2 : List Int) (ks1 : List Int) (p6_0 : Int) (p6_1 : Int) : St := stOf [(1, .c (.sn 3 (.int .i64) ks1 none)), (6, .c (.box 6 0))] [(6, (26, [.int .i64 p6_0, .int .i64 p6_1, .own 20000386]))] [(20000386, (⟨3, .int .i64, p6_2, true, false⟩ : Row))]
noncomputable def f57l3 : Clean := ⟨[1, 6], [6], [], [], [(⟨true, 6, 2⟩, 20000386)]⟩
noncomputable def f57s4 (out8 : List (Int × Int × List Int)) (ks1 : List Int) (p6_0 : Int) (p6_1 : Int) (p6_2 : List Int) : St := stOf [(1, .c (.sn 3 (.int .i64) ks1 none)), (6, .c (.box 6 0)), (8, .c (.own 1000512))] [(6, (26, [.int .i64 p6_0, .int .i64 p6_1, .sn 3 (.int .i64) p6_2 (some 1000512)]))] [(1000512, (⟨26, .pair (.int .i64) (.pair (.int .i64) (.sl 3 (.int .i64))), out8, true, false⟩ : Row))]
noncomputable def f57l4 : Clean := ⟨[1, 6, 8], [6], [], [], [(⟨false, 8, 0⟩, 1000512)]⟩
noncomputable def f57s5 (out8 : List (Int × Int × List Int)) (t25 : List Int) (t26 : Int) (t27 : Int) (p6_0 : Int) (p6_1 : Int) (p6_2 : List Int) : St := stOf [(6, .c (.box 6 0)), (8, .c (.own 1000512)), (25, .c (.sn 3 (.int .i64) t25 none)), (26, .c (.int .i64 t26)), (27, .c (.int .i64 t27))] [(6, (26, [.int .i64 p6_0, .int .i64 p6_1, .sn 3 (.int .i64) p6_2 (some 1000512)]))] [(1000512, (⟨26, .pair (.int .i64) (.pair (.int .i64) (.sl 3 (.int .i64))), out8, true, false⟩ : Row))]
noncomputable def f57l5 : Clean := ⟨[6, 8, 25, 26, 27], [6], [], [], [(⟨false, 8, 0⟩, 1000512)]⟩
noncomputable def f57s6 (out8 : List (Int × Int × List Int)) : St := stOf [(8, .c (.own 1000512))] [] [(1000512, (⟨26, .pair (.int .i64) (.pair (.int .i64) (.sl 3 (.int .i64))), out8, true, false⟩ : Row))]
noncomputable def f57l6 : Clean := ⟨[8], [], [], [], [(⟨false, 8, 0⟩, 1000512)]⟩
noncomputable def f57s7 (t4 : List (Int × Int × List Int)) (t5 : Bool) : St := stOf [(4, .c (.own 1000256)), (5, .c (.bool t5))] [] [(1000256, (⟨26, .pair (.int .i64) (.pair (.int .i64) (.sl 3 (.int .i64))), t4, true, false⟩ : Row))]
noncomputable def f57l7 : Clean := ⟨[4, 5], [], [⟨⟨false, 4, 0⟩, 30000000, 26, .pair (.int .i64) (.pair (.int .i64) (.sl 3 (.int .i64))), true⟩], [], [(⟨false, 4, 0⟩, 1000256)]⟩
noncomputable def f57B : Nat → Option Clean := lookL [(0, f57l6), (1000000, f57l7)]
noncomputable abbrev f57i {ρ : Type} (N : Nat) (c : Code) (p : Plan) (σ : St) (K : KT ρ) : Option ρ := iCode f57G tab f57B N c p σ K
noncomputable def f57c1 := codeAt (bodyOf Try.f57) [0]
theorem f57t1 {ρ : Type} (N : Nat) (m0 : Int × Int × List Int) (ks1 : List Int) (K : KT ρ) : f57i N f57c1 .n (f57s0 m0 ks1) (joinK (some f57l1) K) =
  impl_walk.Z1 N m0 ks1 (fun ks1 m2_0 m2_1 m2_2 => K .nrm (f57s1 ks1 m2_0 m2_1 m2_2)) := by kernel_rfl
noncomputable def f57c3 := codeAt (bodyOf Try.f57) [1,0]
theorem f57t3 {ρ : Type} (N : Nat) (ks1 : List Int) (m2_0 : Int) (m2_1 : Int) (m2_2 : List Int) (K : KT ρ) : f57i N f57c3 .n (f57s1 ks1 m2_0 m2_1 m2_2) (joinK (some f57l2) K) =
  impl_walk.Z3 N ks1 m2_0 m2_1 m2_2 (fun p6_2 ks1 ok7 p6_0 p6_1 => K .nrm (f57s2 p6_2 ks1 ok7 p6_0 p6_1)) := by kernel_rfl
noncomputable def f57c5 := codeAt (bodyOf Try.f57) [1,1,0]
theorem f57t5 {ρ : Type} (N : Nat) (p6_2 : List Int) (ks1 : List Int) (ok7 : Bool) (p6_0 : Int) (p6_1 : Int) (K : KT ρ) : f57i N f57c5 .n (f57s2 p6_2 ks1 ok7 p6_0 p6_1) (joinK (some f57l3) K) =
  impl_walk.Z5 N p6_2 ks1 ok7 p6_0 p6_1 (fun p6_2 ks1 p6_0 p6_1 => K .nrm (f57s3 p6_2 ks1 p6_0 p6_1)) (fun t4 t5 => K .ret (f57s7 t4 t5)) := by kernel_rfl
noncomputable def f57c7 := codeAt (bodyOf Try.f57) [1,1,1,0]
theorem f57t7 {ρ : Type} (N : Nat) (p6_2 : List Int) (ks1 : List Int) (p6_0 : Int) (p6_1 : Int) (K : KT ρ) : f57i N f57c7 .n (f57s3 p6_2 ks1 p6_0 p6_1) (joinK (some f57l4) K) =
  impl_walk.Z7 N p6_2 ks1 p6_0 p6_1 (fun out8 ks1 p6_0 p6_1 p6_2 => K .nrm (f57s4 out8 ks1 p6_0 p6_1 p6_2)) := by kernel_rfl
noncomputable def f57c10 := codeAt (bodyOf Try.f57) [1,1,1,1,0,0]
theorem f57t10 {ρ : Type} (N : Nat) (out8 : List (Int × Int × List Int)) (ks1 : List Int) (p6_0 : Int) (p6_1 : Int) (p6_2 : List Int) (K : KT ρ) : f57i N f57c10 .n (f57s4 out8 ks1 p6_0 p6_1 p6_2) (joinK (some f57l5) K) =
  impl_walk.Z10 N out8 ks1 p6_0 p6_1 p6_2 (fun out8 t25 t26 t27 p6_0 p6_1 p6_2 => K .nrm (f57s5 out8 t25 t26 t27 p6_0 p6_1 p6_2)) := by kernel_rfl
noncomputable def f57c13 := codeAt (bodyOf Try.f57) [1,1,1,1,0,1,0,0]
theorem f57t13 {ρ : Type} (N : Nat) (out8 : List (Int × Int × List Int)) (t25 : List Int) (t26 : Int) (t27 : Int) (p6_0 : Int) (p6_1 : Int) (p6_2 : List Int) (K : KT ρ) : f57i N f57c13 .n (f57s5 out8 t25 t26 t27 p6_0 p6_1 p6_2) (joinK (some f57l5) K) =
  impl_walk.Z13 N out8 t25 t26 t27 p6_0 p6_1 p6_2 (fun out8 t25 t26 t27 p6_0 p6_1 p6_2 => K .nrm (f57s5 out8 t25 t26 t27 p6_0 p6_1 p6_2)) (fun out8 => K (.exit 0) (f57s6 out8)) (fun t4 t5 => K .ret (f57s7 t4 t5)) := by kernel_rfl
noncomputable def f57c12 := codeAt (bodyOf Try.f57) [1,1,1,1,0,1,0]
noncomputable def f57p12 : Plan := .mk none (some f57l5) .n .n
noncomputable abbrev f57w12 {ρ : Type} (N : Nat) (M : Nat) (σ : St) (K : KT ρ) : Option ρ := loopC (fun σ K => f57i N f57c13 .n σ K) f57l5 M σ K
theorem f57t12L {ρ : Type} (N : Nat) (K : KT ρ) : ∀ (M : Nat) (out8 : List (Int × Int × List Int)) (t25 : List Int) (t26 : Int) (t27 : Int) (p6_0 : Int) (p6_1 : Int) (p6_2 : List Int), f57w12 N M (f57s5 out8 t25 t26 t27 p6_0 p6_1 p6_2) K =
  impl_walk.Z12L N (fun out8 => K (.exit 0) (f57s6 out8)) (fun t4 t5 => K .ret (f57s7 t4 t5)) M out8 t25 t26 t27 p6_0 p6_1 p6_2
  | 0, _, _, _, _, _, _, _ => rfl
  | M + 1, out8, t25, t26, t27, p6_0, p6_1, p6_2 => viaRound (fun k => impl_walk.Z13 N out8 t25 t26 t27 p6_0 p6_1 p6_2 k (fun out8 => K (.exit 0) (f57s6 out8)) (fun t4 t5 => K .ret (f57s7 t4 t5))) (f57t13 N out8 t25 t26 t27 p6_0 p6_1 p6_2 (seqK (fun σ => f57w12 N M σ K) K)) (funext fun out8 => funext fun t25 => funext fun t26 => funext fun t27 => funext fun p6_0 => funext fun p6_1 => funext fun p6_2 => f57t12L N K M out8 t25 t26 t27 p6_0 p6_1 p6_2) (by kernel_rfl) (by kernel_rfl)
theorem f57t12 {ρ : Type} (N : Nat) (out8 : List (Int × Int × List Int)) (t25 : List Int) (t26 : Int) (t27 : Int) (p6_0 : Int) (p6_1 : Int) (p6_2 : List Int) (K : KT ρ) : f57i N f57c12 f57p12 (f57s5 out8 t25 t26 t27 p6_0 p6_1 p6_2) (joinK (some f57l6) K) =
  impl_walk.Z12 N out8 t25 t26 t27 p6_0 p6_1 p6_2 (fun out8 => K (.exit 0) (f57s6 out8)) (fun t4 t5 => K .ret (f57s7 t4 t5)) :=
  viaLoop (by kernel_rfl) (by kernel_rfl) (σ' := f57s5 out8 t25 t26 t27 p6_0 p6_1 p6_2) (by kernel_rfl) (f57t12L N (joinK (some f57l6) K) N out8 t25 t26 t27 p6_0 p6_1 p6_2) (by kernel_rfl)
noncomputable def f57c11 := codeAt (bodyOf Try.f57) [1,1,1,1,0,1]
noncomputable def f57p11 : Plan := .mk (some f57l6) none f57p12 .n
theorem f57t11 {ρ : Type} (N : Nat) (out8 : List (Int × Int × List Int)) (t25 : List Int) (t26 : Int) (t27 : Int) (p6_0 : Int) (p6_1 : Int) (p6_2 : List Int) (K : KT ρ) : f57i N f57c11 f57p11 (f57s5 out8 t25 t26 t27 p6_0 p6_1 p6_2) (joinK (some f57l6) K) =
  impl_walk.Z11 N out8 t25 t26 t27 p6_0 p6_1 p6_2 (fun out8 => K .nrm (f57s6 out8)) (fun t4 t5 => K .ret (f57s7 t4 t5)) :=
  viaBlock (by kernel_rfl) (by kernel_rfl) (f57t12 N out8 t25 t26 t27 p6_0 p6_1 p6_2 (blockK 0 (joinK (some f57l6) K))) (by kernel_rfl)
noncomputable def f57c9 := codeAt (bodyOf Try.f57) [1,1,1,1,0]
noncomputable def f57p9 : Plan := .mk (some f57l5) none .n f57p11
theorem f57t9 {ρ : Type} (N : Nat) (out8 : List (Int × Int × List Int)) (ks1 : List Int) (p6_0 : Int) (p6_1 : Int) (p6_2 : List Int) (K : KT ρ) : f57i N f57c9 f57p9 (f57s4 out8 ks1 p6_0 p6_1 p6_2) (joinK (some f57l6) K) =
  impl_walk.Z9 N out8 ks1 p6_0 p6_1 p6_2 (fun out8 => K .nrm (f57s6 out8)) (fun t4 t5 => K .ret (f57s7 t4 t5)) :=
  viaSeq (fun k => impl_walk.Z10 N out8 ks1 p6_0 p6_1 p6_2 k) (by kernel_rfl) (by kernel_rfl) (f57t10 N out8 ks1 p6_0 p6_1 p6_2 (seqK (fun σ => f57i N f57c11 f57p11 σ (joinK (some f57l6) K)) (joinK (some f57l6) K))) (funext fun out8 => funext fun t25 => funext fun t26 => funext fun t27 => funext fun p6_0 => funext fun p6_1 => funext fun p6_2 => f57t11 N out8 t25 t26 t27 p6_0 p6_1 p6_2 K) (by kernel_rfl) (by kernel_rfl)
noncomputable def f57c14 := codeAt (bodyOf Try.f57) [1,1,1,1,1]
theorem f57t14 {ρ : Type} (N : Nat) (out8 : List (Int × Int × List Int)) (K : KT ρ) : f57i N f57c14 .n (f57s6 out8) (joinK (some f57lE) K) =
  impl_walk.Z14 N out8 (fun t4 t5 => K .ret (f57s7 t4 t5)) := by kernel_rfl
noncomputable def f57c8 := codeAt (bodyOf Try.f57) [1,1,1,1]
noncomputable def f57p8 : Plan := .mk (some f57l6) none f57p9 .n
theorem f57t8 {ρ : Type} (N : Nat) (out8 : List (Int × Int × List Int)) (ks1 : List Int) (p6_0 : Int) (p6_1 : Int) (p6_2 : List Int) (K : KT ρ) : f57i N f57c8 f57p8 (f57s4 out8 ks1 p6_0 p6_1 p6_2) (joinK (some f57lE) K) =
  impl_walk.Z8 N out8 ks1 p6_0 p6_1 p6_2 (fun t4 t5 => K .ret (f57s7 t4 t5)) :=
  viaSeq (fun k => impl_walk.Z9 N out8 ks1 p6_0 p6_1 p6_2 k (fun t4 t5 => K .ret (f57s7 t4 t5))) (by kernel_rfl) (by kernel_rfl) (f57t9 N out8 ks1 p6_0 p6_1 p6_2 (seqK (fun σ => f57i N f57c14 .n σ (joinK (some f57lE) K)) (joinK (some f57lE) K))) (funext fun out8 => f57t14 N out8 K) (by kernel_rfl) (by kernel_rfl)
noncomputable def f57c6 := codeAt (bodyOf Try.f57) [1,1,1]
noncomputable def f57p6 : Plan := .mk (some f57l4) none .n f57p8
theorem f57t6 {ρ : Type} (N : Nat) (p6_2 : List Int) (ks1 : List Int) (p6_0 : Int) (p6_1 : Int) (K : KT ρ) : f57i N f57c6 f57p6 (f57s3 p6_2 ks1 p6_0 p6_1) (joinK (some f57lE) K) =
  impl_walk.Z6 N p6_2 ks1 p6_0 p6_1 (fun t4 t5 => K .ret (f57s7 t4 t5)) :=
  viaSeq (fun k => impl_walk.Z7 N p6_2 ks1 p6_0 p6_1 k) (by kernel_rfl) (by kernel_rfl) (f57t7 N p6_2 ks1 p6_0 p6_1 (seqK (fun σ => f57i N f57c8 f57p8 σ (joinK (some f57lE) K)) (joinK (some f57lE) K))) (funext fun out8 => funext fun ks1 => funext fun p6_0 => funext fun p6_1 => funext fun p6_2 => f57t8 N out8 ks1 p6_0 p6_1 p6_2 K) (by kernel_rfl) (by kernel_rfl)
noncomputable def f57c4 := codeAt (bodyOf Try.f57) [1,1]
noncomputable def f57p4 : Plan := .mk (some f57l3) none .n f57p6
theorem f57t4 {ρ : Type} (N : Nat) (p6_2 : List Int) (ks1 : List Int) (ok7 : Bool) (p6_0 : Int) (p6_1 : Int) (K : KT ρ) : f57i N f57c4 f57p4 (f57s2 p6_2 ks1 ok7 p6_0 p6_1) (joinK (some f57lE) K) =
  impl_walk.Z4 N p6_2 ks1 ok7 p6_0 p6_1 (fun t4 t5 => K .ret (f57s7 t4 t5)) :=
  viaSeq (fun k => impl_walk.Z5 N p6_2 ks1 ok7 p6_0 p6_1 k (fun t4 t5 => K .ret (f57s7 t4 t5))) (by kernel_rfl) (by kernel_rfl) (f57t5 N p6_2 ks1 ok7 p6_0 p6_1 (seqK (fun σ => f57i N f57c6 f57p6 σ (joinK (some f57lE) K)) (joinK (some f57lE) K))) (funext fun p6_2 => funext fun ks1 => funext fun p6_0 => funext fun p6_1 => f57t6 N p6_2 ks1 p6_0 p6_1 K) (by kernel_rfl) (by kernel_rfl)
noncomputable def f57c2 := codeAt (bodyOf Try.f57) [1]
noncomputable def f57p2 : Plan := .mk (some f57l2) none .n f57p4
theorem f57t2 {ρ : Type} (N : Nat) (ks1 : List Int) (m2_0 : Int) (m2_1 : Int) (m2_2 : List Int) (K : KT ρ) : f57i N f57c2 f57p2 (f57s1 ks1 m2_0 m2_1 m2_2) (joinK (some f57lE) K) =
  impl_walk.Z2 N ks1 m2_0 m2_1 m2_2 (fun t4 t5 => K .ret (f57s7 t4 t5)) :=
  viaSeq (fun k => impl_walk.Z3 N ks1 m2_0 m2_1 m2_2 k) (by kernel_rfl) (by kernel_rfl) (f57t3 N ks1 m2_0 m2_1 m2_2 (seqK (fun σ => f57i N f57c4 f57p4 σ (joinK (some f57lE) K)) (joinK (some f57lE) K))) (funext fun p6_2 => funext fun ks1 => funext fun ok7 => funext fun p6_0 => funext fun p6_1 => f57t4 N p6_2 ks1 ok7 p6_0 p6_1 K) (by kernel_rfl) (by kernel_rfl)
noncomputable def f57c0 := codeAt (bodyOf Try.f57) []
noncomputable def f57p0 : Plan := .mk (some f57l1) none .n f57p2
theorem f57t0 {ρ : Type} (N : Nat) (m0 : Int × Int × List Int) (ks1 : List Int) (K : KT ρ) : f57i N f57c0 f57p0 (f57s0 m0 ks1) (joinK (some f57lE) K) =
  impl_walk.Z0 N m0 ks1 (fun t4 t5 => K .ret (f57s7 t4 t5)) :=
  viaSeq (fun k => impl_walk.Z1 N m0 ks1 k) (by kernel_rfl) (by kernel_rfl) (f57t1 N m0 ks1 (seqK (fun σ => f57i N f57c2 f57p2 σ (joinK (some f57lE) K)) (joinK (some f57lE) K))) (funext fun ks1 => funext fun m2_0 => funext fun m2_1 => funext fun m2_2 => f57t2 N ks1 m2_0 m2_1 m2_2 K) (by kernel_rfl) (by kernel_rfl)
theorem f57m (N : Nat) (m0 : Int × Int × List Int) (ks1 : List Int) : f57i N f57c0 f57p0 (f57s0 m0 ks1) (joinK (some f57lE) (finK tab f57sig Try.f57.results.toList)) = impl_walk.Z0 N m0 ks1 (fun t4 t5 => some ((), (t4, (t5, ())))) :=
  (f57t0 N m0 ks1 (finK tab f57sig Try.f57.results.toList)).trans (by kernel_rfl)
theorem f57ok (h : impl_walk.Spec) : EntryOk Try.prog 57 e57 :=
  entry_of_code (sig := f57sig) (c := f57c0) (pl := f57p0) (je := (some f57lE)) (B := f57B) Try.func57 (by kernel_rfl) (by kernel_rfl) (by kernel_rfl) tabOk f57GOk (by kernel_rfl) (by kernel_rfl) (by kernel_rfl) (by kernel_rfl) fun X hb hp => by
    obtain ⟨m0, ks1, _⟩ := X
    obtain ⟨N, h⟩ := h m0 ks1 hb.1 hb.2.1
    exact ⟨N, (f57m N m0 ks1).trans (h N (Nat.le_refl N))⟩
theorem e57ok : EntryOk Try.prog 57 e57 := f57ok impl_walk.ok
end Go.Fw
set_option linter.unusedVariables false
set_option linter.unusedSimpArgs false
set_option maxRecDepth 100000
namespace Go.Fw
open Go.Proofs
/-! ### loop.example/g03115/impl.colour -/
noncomputable def f66sig : Sig := ⟨[⟨.pair (.int .i64) (.pair (.int .i64) (.sl 3 (.int .i64))), true, false⟩, ⟨.int .i64, false, false⟩], [⟨.int .i64, false, false⟩]⟩
noncomputable def e66 : Entry := ⟨f66sig, (some fun X => impl_colour.P X.1 X.2.1), fun X => ((), ((impl_colour.g X.1 X.2.1), ()))⟩
noncomputable def f66G : Nat → Option Entry := addG (fun _ => none) 60 e60
theorem f66GOk : GOk Try.prog f66G := (GOk.nil).add e60ok (by kernel_rfl)
noncomputable def f66lE : Clean := ⟨[], [], [], [], []⟩
noncomputable def f66s0 (p0 : Int × Int × List Int) (k1 : Int) : St := initSt f66sig.ps (p0, (k1, ()))
noncomputable def f66s1 (k1 : Int) (p2_0 : Int) (p2_1 : Int) (p2_2 : List Int) : St := stOf [(1, .c (.int .i64 k1)), (2, .c (.box 2 0))] [(2, (26, [.int .i64 p2_0, .int .i64 p2_1, .sn 3 (.int .i64) p2_2 none]))] []
noncomputable def f66l1 : Clean := ⟨[1, 2], [2], [], [], []⟩
noncomputable def f66s2 (k1 : Int) (some5 : Bool) (none6 : Bool) (p2_0 : Int) (p2_1 : Int) (p2_2 : List Int) : St := stOf [(1, .c (.int .i64 k1)), (2, .c (.box 2 0)), (5, .c (.bool some5)), (6, .c (.bool none6))] [(2, (26, [.int .i64 p2_0, .int .i64 p2_1, .sn 3 (.int .i64) p2_2 none]))] []
noncomputable def f66l2 : Clean := ⟨[1, 2, 5, 6], [2], [], [], []⟩
noncomputable def f66s3 (k1 : Int) (some5 : Bool) (none6 : Bool) (i7 : Int) (p2_0 : Int) (p2_1 : Int) (p2_2 : List Int) : St := stOf [(1, .c (.int .i64 k1)), (2, .c (.box 2 0)), (5, .c (.bool some5)), (6, .c (.bool none6)), (7, .c (.int .i64 i7))] [(2, (26, [.int .i64 p2_0, .int .i64 p2_1, .sn 3 (.int .i64) p2_2 none]))] []
noncomputable def f66l3 : Clean := ⟨[1, 2, 5, 6, 7], [2], [], [], []⟩
noncomputable def f66s4 (some5 : Bool) (none6 : Bool) : St := stOf [(5, .c (.bool some5)), (6, .c (.bool none6))] [] []
noncomputable def f66l4 : Clean := ⟨[5, 6], [], [], [], []⟩
noncomputable def f66s5 (t4 : Int) : St := stOf [(4, .c (.int .i64 t4))] [] []
noncomputable def f66l5 : Clean := ⟨[4], [], [], [], []⟩
noncomputable def f66B : Nat → Option Clean := lookL [(0, f66l4), (1000000, f66l5)]
noncomputable abbrev f66i {ρ : Type} (N : Nat) (c : Code) (p : Plan) (σ : St) (K : KT ρ) : Option ρ := iCode f66G tab f66B N c p σ K
noncomputable def f66c1 := codeAt (bodyOf Try.f66) [0]
theorem f66t1 {ρ : Type} (N : Nat) (p0 : Int × Int × List Int) (k1 : Int) (K : KT ρ) : f66i N f66c1 .n (f66s0 p0 k1) (joinK (some f66l1) K) =
  impl_colour.Z1 N p0 k1 (fun k1 p2_0 p2_1 p2_2 => K .nrm (f66s1 k1 p2_0 p2_1 p2_2)) := by kernel_rfl
noncomputable def f66c3 := codeAt (bodyOf Try.f66) [1,0]
theorem f66t3 {ρ : Type} (N : Nat) (k1 : Int) (p2_0 : Int) (p2_1 : Int) (p2_2 : List Int) (K : KT ρ) : f66i N f66c3 .n (f66s1 k1 p2_0 p2_1 p2_2) (joinK (some f66l2) K) =
  impl_colour.Z3 N k1 p2_0 p2_1 p2_2 (fun k1 some5 none6 p2_0 p2_1 p2_2 => K .nrm (f66s2 k1 some5 none6 p2_0 p2_1 p2_2)) := by kernel_rfl
noncomputable def f66c6 := codeAt (bodyOf Try.f66) [1,1,0,0]
theorem f66t6 {ρ : Type} (N : Nat) (k1 : Int) (some5 : Bool) (none6 : Bool) (p2_0 : Int) (p2_1 : Int) (p2_2 : List Int) (K : KT ρ) : f66i N f66c6 .n (f66s2 k1 some5 none6 p2_0 p2_1 p2_2) (joinK (some f66l3) K) =
  impl_colour.Z6 N k1 some5 none6 p2_0 p2_1 p2_2 (fun k1 some5 none6 i7 p2_0 p2_1 p2_2 => K .nrm (f66s3 k1 some5 none6 i7 p2_0 p2_1 p2_2)) := by kernel_rfl
noncomputable def f66c9 := codeAt (bodyOf Try.f66) [1,1,0,1,0,0]
theorem f66t9 {ρ : Type} (N : Nat) (k1 : Int) (some5 : Bool) (none6 : Bool) (i7 : Int) (p2_0 : Int) (p2_1 : Int) (p2_2 : List Int) (K : KT ρ) : f66i N f66c9 .n (f66s3 k1 some5 none6 i7 p2_0 p2_1 p2_2) (joinK (some f66l3) K) =
  impl_colour.Z9 N k1 some5 none6 i7 p2_0 p2_1 p2_2 (fun k1 some5 none6 i7 p2_0 p2_1 p2_2 => K .nrm (f66s3 k1 some5 none6 i7 p2_0 p2_1 p2_2)) (fun some5 none6 => K (.exit 0) (f66s4 some5 none6)) := by kernel_rfl
noncomputable def f66c8 := codeAt (bodyOf Try.f66) [1,1,0,1,0]
noncomputable def f66p8 : Plan := .mk none (some f66l3) .n .n
noncomputable abbrev f66w8 {ρ : Type} (N : Nat) (M : Nat) (σ : St) (K : KT ρ) : Option ρ := loopC (fun σ K => f66i N f66c9 .n σ K) f66l3 M σ K
theorem f66t8L {ρ : Type} (N : Nat) (K : KT ρ) : ∀ (M : Nat) (k1 : Int) (some5 : Bool) (none6 : Bool) (i7 : Int) (p2_0 : Int) (p2_1 : Int) (p2_2 : List Int), f66w8 N M (f66s3 k1 some5 none6 i7 p2_0 p2_1 p2_2) K =
  impl_colour.Z8L N (fun some5 none6 => K (.exit 0) (f66s4 some5 none6)) M k1 some5 none6 i7 p2_0 p2_1 p2_2
  | 0, _, _, _, _, _, _, _ => rfl
  | M + 1, k1, some5, none6, i7, p2_0, p2_1, p2_2 => viaRound (fun k => impl_colour.Z9 N k1 some5 none6 i7 p2_0 p2_1 p2_2 k (fun some5 none6 => K (.exit 0) (f66s4 some5 none6))) (f66t9 N k1 some5 none6 i7 p2_0 p2_1 p2_2 (seqK (fun σ => f66w8 N M σ K) K)) (funext fun k1 => funext fun some5 => funext fun none6 => funext fun i7 => funext fun p2_0 => funext fun p2_1 => funext fun p2_2 => f66t8L N K M k1 some5 none6 i7 p2_0 p2_1 p2_2) (by kernel_rfl) (by kernel_rfl)
theorem f66t8 {ρ : Type} (N : Nat) (k1 : Int) (some5 : Bool) (none6 : Bool) (i7 : Int) (p2_0 : Int) (p2_1 : Int) (p2_2 : List Int) (K : KT ρ) : f66i N f66c8 f66p8 (f66s3 k1 some5 none6 i7 p2_0 p2_1 p2_2) (joinK (some f66l4) K) =
  impl_colour.Z8 N k1 some5 none6 i7 p2_0 p2_1 p2_2 (fun some5 none6 => K (.exit 0) (f66s4 some5 none6)) :=
  viaLoop (by kernel_rfl) (by kernel_rfl) (σ' := f66s3 k1 some5 none6 i7 p2_0 p2_1 p2_2) (by kernel_rfl) (f66t8L N (joinK (some f66l4) K) N k1 some5 none6 i7 p2_0 p2_1 p2_2) (by kernel_rfl)
noncomputable def f66c7 := codeAt (bodyOf Try.f66) [1,1,0,1]
noncomputable def f66p7 : Plan := .mk (some f66l4) none f66p8 .n
theorem f66t7 {ρ : Type} (N : Nat) (k1 : Int) (some5 : Bool) (none6 : Bool) (i7 : Int) (p2_0 : Int) (p2_1 : Int) (p2_2 : List Int) (K : KT ρ) : f66i N f66c7 f66p7 (f66s3 k1 some5 none6 i7 p2_0 p2_1 p2_2) (joinK (some f66l4) K) =
  impl_colour.Z7 N k1 some5 none6 i7 p2_0 p2_1 p2_2 (fun some5 none6 => K .nrm (f66s4 some5 none6)) :=
  viaBlock (by kernel_rfl) (by kernel_rfl) (f66t8 N k1 some5 none6 i7 p2_0 p2_1 p2_2 (blockK 0 (joinK (some f66l4) K))) (by kernel_rfl)
noncomputable def f66c5 := codeAt (bodyOf Try.f66) [1,1,0]
noncomputable def f66p5 : Plan := .mk (some f66l3) none .n f66p7
theorem f66t5 {ρ : Type} (N : Nat) (k1 : Int) (some5 : Bool) (none6 : Bool) (p2_0 : Int) (p2_1 : Int) (p2_2 : List Int) (K : KT ρ) : f66i N f66c5 f66p5 (f66s2 k1 some5 none6 p2_0 p2_1 p2_2) (joinK (some f66l4) K) =
  impl_colour.Z5 N k1 some5 none6 p2_0 p2_1 p2_2 (fun some5 none6 => K .nrm (f66s4 some5 none6)) :=
  viaSeq (fun k => impl_colour.Z6 N k1 some5 none6 p2_0 p2_1 p2_2 k) (by kernel_rfl) (by kernel_rfl) (f66t6 N k1 some5 none6 p2_0 p2_1 p2_2 (seqK (fun σ => f66i N f66c7 f66p7 σ (joinK (some f66l4) K)) (joinK (some f66l4) K))) (funext fun k1 => funext fun some5 => funext fun none6 => funext fun i7 => funext fun p2_0 => funext fun p2_1 => funext fun p2_2 => f66t7 N k1 some5 none6 i7 p2_0 p2_1 p2_2 K) (by kernel_rfl) (by kernel_rfl)
noncomputable def f66c10 := codeAt (bodyOf Try.f66) [1,1,1]
theorem f66t10 {ρ : Type} (N : Nat) (some5 : Bool) (none6 : Bool) (K : KT ρ) : f66i N f66c10 .n (f66s4 some5 none6) (joinK (some f66lE) K) =
  impl_colour.Z10 N some5 none6 (fun t4 => K .ret (f66s5 t4)) := by kernel_rfl
noncomputable def f66c4 := codeAt (bodyOf Try.f66) [1,1]
noncomputable def f66p4 : Plan := .mk (some f66l4) none f66p5 .n
theorem f66t4 {ρ : Type} (N : Nat) (k1 : Int) (some5 : Bool) (none6 : Bool) (p2_0 : Int) (p2_1 : Int) (p2_2 : List Int) (K : KT ρ) : f66i N f66c4 f66p4 (f66s2 k1 some5 none6 p2_0 p2_1 p2_2) (joinK (some f66lE) K) =
  impl_colour.Z4 N k1 some5 none6 p2_0 p2_1 p2_2 (fun t4 => K .ret (f66s5 t4)) :=
  viaSeq (fun k => impl_colour.Z5 N k1 some5 none6 p2_0 p2_1 p2_2 k) (by kernel_rfl) (by kernel_rfl) (f66t5 N k1 some5 none6 p2_0 p2_1 p2_2 (seqK (fun σ => f66i N f66c10 .n σ (joinK (some f66lE) K)) (joinK (some f66lE) K))) (funext fun some5 => funext fun none6 => f66t10 N some5 none6 K) (by kernel_rfl) (by kernel_rfl)
noncomputable def f66c2 := codeAt (bodyOf Try.f66) [1]
noncomputable def f66p2 : Plan := .mk (some f66l2) none .n f66p4
theorem f66t2 {ρ : Type} (N : Nat) (k1 : Int) (p2_0 : Int) (p2_1 : Int) (p2_2 : List Int) (K : KT ρ) : f66i N f66c2 f66p2 (f66s1 k1 p2_0 p2_1 p2_2) (joinK (some f66lE) K) =
  impl_colour.Z2 N k1 p2_0 p2_1 p2_2 (fun t4 => K .ret (f66s5 t4)) :=
  viaSeq (fun k => impl_colour.Z3 N k1 p2_0 p2_1 p2_2 k) (by kernel_rfl) (by kernel_rfl) (f66t3 N k1 p2_0 p2_1 p2_2 (seqK (fun σ => f66i N f66c4 f66p4 σ (joinK (some f66lE) K)) (joinK (some f66lE) K))) (funext fun k1 => funext fun some5 => funext fun none6 => funext fun p2_0 => funext fun p2_1 => funext fun p2_2 => f66t4 N k1 some5 none6 p2_0 p2_1 p2_2 K) (by kernel_rfl) (by kernel_rfl)
noncomputable def f66c0 := codeAt (bodyOf Try.f66) []
noncomputable def f66p0 : Plan := .mk (some f66l1) none .n f66p2
theorem f66t0 {ρ : Type} (N : Nat) (p0 : Int × Int × List Int) (k1 : Int) (K : KT ρ) : f66i N f66c0 f66p0 (f66s0 p0 k1) (joinK (some f66lE) K) =
  impl_colour.Z0 N p0 k1 (fun t4 => K .ret (f66s5 t4)) :=
  viaSeq (fun k => impl_colour.Z1 N p0 k1 k) (by kernel_rfl) (by kernel_rfl) (f66t1 N p0 k1 (seqK (fun σ => f66i N f66c2 f66p2 σ (joinK (some f66lE) K)) (joinK (some f66lE) K))) (funext fun k1 => funext fun p2_0 => funext fun p2_1 => funext fun p2_2 => f66t2 N k1 p2_0 p2_1 p2_2 K) (by kernel_rfl) (by kernel_rfl)
theorem f66m (N : Nat) (p0 : Int × Int × List Int) (k1 : Int) : f66i N f66c0 f66p0 (f66s0 p0 k1) (joinK (some f66lE) (finK tab f66sig Try.f66.results.toList)) = impl_colour.Z0 N p0 k1 (fun t4 => some ((), (t4, ()))) :=
  (f66t0 N p0 k1 (finK tab f66sig Try.f66.results.toList)).trans (by kernel_rfl)
theorem f66ok (h : impl_colour.Spec) : EntryOk Try.prog 66 e66 :=
  entry_of_code (sig := f66sig) (c := f66c0) (pl := f66p0) (je := (some f66lE)) (B := f66B) Try.func66 (by kernel_rfl) (by kernel_rfl) (by kernel_rfl) tabOk f66GOk (by kernel_rfl) (by kernel_rfl) (by kernel_rfl) (by kernel_rfl) fun X hb hp => by
    obtain ⟨p0, k1, _⟩ := X
    obtain ⟨N, h⟩ := h p0 k1 hb.1 hp
    exact ⟨N, (f66m N p0 k1).trans (h N (Nat.le_refl N))⟩
theorem e66ok : EntryOk Try.prog 66 e66 := f66ok impl_colour.ok
end Go.Fw
set_option linter.unusedVariables false
set_option linter.unusedSimpArgs false
set_option maxRecDepth 100000
namespace Go.Fw
open Go.Proofs
/-! ### loop.example/g03115/impl.ColourOf -/
noncomputable def f21sig : Sig := ⟨[⟨.pair (.int .i64) (.pair (.int .i64) (.sl 3 (.int .i64))), true, false⟩, ⟨.sl 3 (.int .i64), false, false⟩, ⟨.int .i64, false, false⟩], [⟨.int .i64, false, false⟩]⟩
noncomputable def e21 : Entry := ⟨f21sig, none, fun X => ((), ((impl_ColourOf.g X.1 X.2.1 X.2.2.1), ()))⟩
noncomputable def f21G : Nat → Option Entry := addG (addG (addG (fun _ => none) 57 e57) 65 e65) 66 e66
theorem f21GOk : GOk Try.prog f21G := (((GOk.nil).add e57ok (by kernel_rfl)).add e65ok (by kernel_rfl)).add e66ok (by kernel_rfl)
noncomputable def f21lE : Clean := ⟨[], [], [], [], []⟩
noncomputable def f21s0 (m0 : Int × Int × List Int) (ks1 : List Int) (k2 : Int) : St := initSt f21sig.ps (m0, (ks1, (k2, ())))
noncomputable def f21s1 (t6 : Int) : St := stOf [(6, .c (.int .i64 t6))] [] []
noncomputable def f21l1 : Clean := ⟨[6], [], [], [], []⟩
noncomputable def f21B : Nat → Option Clean := lookL [(1000000, f21l1)]
noncomputable abbrev f21i {ρ : Type} (N : Nat) (c : Code) (p : Plan) (σ : St) (K : KT ρ) : Option ρ := iCode f21G tab f21B N c p σ K
noncomputable def f21c0 := codeAt (bodyOf Try.f21) []
theorem f21t0 {ρ : Type} (N : Nat) (m0 : Int × Int × List Int) (ks1 : List Int) (k2 : Int) (K : KT ρ) : f21i N f21c0 .n (f21s0 m0 ks1 k2) (joinK (some f21lE) K) =
  impl_ColourOf.Z0 N m0 ks1 k2 (fun t6 => K .ret (f21s1 t6)) := by kernel_rfl
theorem f21m (N : Nat) (m0 : Int × Int × List Int) (ks1 : List Int) (k2 : Int) : f21i N f21c0 .n (f21s0 m0 ks1 k2) (joinK (some f21lE) (finK tab f21sig Try.f21.results.toList)) = impl_ColourOf.Z0 N m0 ks1 k2 (fun t6 => some ((), (t6, ()))) :=
  (f21t0 N m0 ks1 k2 (finK tab f21sig Try.f21.results.toList)).trans (by kernel_rfl)
theorem f21ok (h : impl_ColourOf.Spec) : EntryOk Try.prog 21 e21 :=
  entry_of_code (sig := f21sig) (c := f21c0) (pl := .n) (je := (some f21lE)) (B := f21B) Try.func21 (by kernel_rfl) (by kernel_rfl) (by kernel_rfl) tabOk f21GOk (by kernel_rfl) (by kernel_rfl) (by kernel_rfl) (by kernel_rfl) fun X hb hp => by
    obtain ⟨m0, ks1, k2, _⟩ := X
    obtain ⟨N, h⟩ := h m0 ks1 k2 hb.1 hb.2.1
    exact ⟨N, (f21m N m0 ks1 k2).trans (h N (Nat.le_refl N))⟩
theorem e21ok : EntryOk Try.prog 21 e21 := f21ok impl_ColourOf.ok
end Go.Fw
set_option linter.unusedVariables false
set_option linter.unusedSimpArgs false
set_option maxRecDepth 100000
namespace Go.Fw
open Go.Proofs
/-! ### loop.example/g03115/laws.eqIntS -/
noncomputable def f44sig : Sig := ⟨[⟨.sl 3 (.int .i64), false, false⟩, ⟨.sl 3 (.int .i64), false, false⟩], [⟨.bool, false, false⟩]⟩
noncomputable def e44 : Entry := ⟨f44sig, none, fun X => ((), ((laws_eqIntS.g X.1 X.2.1), ()))⟩
noncomputable def f44G : Nat → Option Entry := (fun _ => none)
theorem f44GOk : GOk Try.prog f44G := GOk.nil
noncomputable def f44lE : Clean := ⟨[], [], [], [], []⟩
noncomputable def f44s0 (a0 : List Int) (b1 : List Int) : St := initSt f44sig.ps (a0, (b1, ()))
noncomputable def f44s1 (a0 : List Int) (b1 : List Int) : St := stOf [(0, .c (.sn 3 (.int .i64) a0 none)), (1, .c (.sn 3 (.int .i64) b1 none))] [] []
noncomputable def f44l1 : Clean := ⟨[0, 1], [], [], [], []⟩
noncomputable def f44s2 (a0 : List Int) (b1 : List Int) (i5 : Int) : St := stOf [(0, .c (.sn 3 (.int .i64) a0 none)), (1, .c (.sn 3 (.int .i64) b1 none)), (5, .c (.int .i64 i5))] [] []
noncomputable def f44l2 : Clean := ⟨[0, 1, 5], [], [], [], []⟩
noncomputable def f44s3  : St := stOf [] [] []
noncomputable def f44l3 : Clean := ⟨[], [], [], [], []⟩
noncomputable def f44s4 (t4 : Bool) : St := stOf [(4, .c (.bool t4))] [] []
noncomputable def f44l4 : Clean := ⟨[4], [], [], [], []⟩
noncomputable def f44B : Nat → Option Clean := lookL [(0, f44l3), (1000000, f44l4)]
noncomputable abbrev f44i {ρ : Type} (N : Nat) (c : Code) (p : Plan) (σ : St) (K : KT ρ) : Option ρ := iCode f44G tab f44B N c p σ K
noncomputable def f44c1 := codeAt (bodyOf Try.f44) [0]
theorem f44t1 {ρ : Type} (N : Nat) (a0 : List Int) (b1 : List Int) (K : KT ρ) : f44i N f44c1 .n (f44s0 a0 b1) (joinK (some f44l1) K) =
  laws_eqIntS.Z1 N a0 b1 (fun a0 b1 => K .nrm (f44s1 a0 b1)) := by kernel_rfl
noncomputable def f44c3 := codeAt (bodyOf Try.f44) [1,0]
theorem f44t3 {ρ : Type} (N : Nat) (a0 : List Int) (b1 : List Int) (K : KT ρ) : f44i N f44c3 .n (f44s1 a0 b1) (joinK (some f44l1) K) =
  laws_eqIntS.Z3 N a0 b1 (fun a0 b1 => K .nrm (f44s1 a0 b1)) (fun t4 => K .ret (f44s4 t4)) := by kernel_rfl
noncomputable def f44c6 := codeAt (bodyOf Try.f44) [1,1,0,0]
theorem f44t6 {ρ : Type} (N : Nat) (a0 : List Int) (b1 : List Int) (K : KT ρ) : f44i N f44c6 .n (f44s1 a0 b1) (joinK (some f44l2) K) =
  laws_eqIntS.Z6 N a0 b1 (fun a0 b1 i5 => K .nrm (f44s2 a0 b1 i5)) := by kernel_rfl
noncomputable def f44c9 := codeAt (bodyOf Try.f44) [1,1,0,1,0,0]
theorem f44t9 {ρ : Type} (N : Nat) (a0 : List Int) (b1 : List Int) (i5 : Int) (K : KT ρ) : f44i N f44c9 .n (f44s2 a0 b1 i5) (joinK (some f44l2) K) =
  laws_eqIntS.Z9 N a0 b1 i5 (fun a0 b1 i5 => K .nrm (f44s2 a0 b1 i5)) (K (.exit 0) f44s3) (fun t4 => K .ret (f44s4 t4)) := by kernel_rfl
noncomputable def f44c8 := codeAt (bodyOf Try.f44) [1,1,0,1,0]
noncomputable def f44p8 : Plan := .mk none (some f44l2) .n .n
noncomputable abbrev f44w8 {ρ : Type} (N : Nat) (M : Nat) (σ : St) (K : KT ρ) : Option ρ := loopC (fun σ K => f44i N f44c9 .n σ K) f44l2 M σ K
theorem f44t8L {ρ : Type} (N : Nat) (K : KT ρ) : ∀ (M : Nat) (a0 : List Int) (b1 : List Int) (i5 : Int), f44w8 N M (f44s2 a0 b1 i5) K =
  laws_eqIntS.Z8L N (K (.exit 0) f44s3) (fun t4 => K .ret (f44s4 t4)) M a0 b1 i5
  | 0, _, _, _ => rfl
  | M + 1, a0, b1, i5 => viaRound (fun k => laws_eqIntS.Z9 N a0 b1 i5 k (K (.exit 0) f44s3) (fun t4 => K .ret (f44s4 t4))) (f44t9 N a0 b1 i5 (seqK (fun σ => f44w8 N M σ K) K)) (funext fun a0 => funext fun b1 => funext fun i5 => f44t8L N K M a0 b1 i5) (by kernel_rfl) (by kernel_rfl)
theorem f44t8 {ρ : Type} (N : Nat) (a0 : List Int) (b1 : List Int) (i5 : Int) (K : KT ρ) : f44i N f44c8 f44p8 (f44s2 a0 b1 i5) (joinK (some f44l3) K) =
  laws_eqIntS.Z8 N a0 b1 i5 (K (.exit 0) f44s3) (fun t4 => K .ret (f44s4 t4)) :=
  viaLoop (by kernel_rfl) (by kernel_rfl) (σ' := f44s2 a0 b1 i5) (by kernel_rfl) (f44t8L N (joinK (some f44l3) K) N a0 b1 i5) (by kernel_rfl)
noncomputable def f44c7 := codeAt (bodyOf Try.f44) [1,1,0,1]
noncomputable def f44p7 : Plan := .mk (some f44l3) none f44p8 .n
theorem f44t7 {ρ : Type} (N : Nat) (a0 : List Int) (b1 : List Int) (i5 : Int) (K : KT ρ) : f44i N f44c7 f44p7 (f44s2 a0 b1 i5) (joinK (some f44l3) K) =
  laws_eqIntS.Z7 N a0 b1 i5 (K .nrm f44s3) (fun t4 => K .ret (f44s4 t4)) :=
  viaBlock (by kernel_rfl) (by kernel_rfl) (f44t8 N a0 b1 i5 (blockK 0 (joinK (some f44l3) K))) (by kernel_rfl)
noncomputable def f44c5 := codeAt (bodyOf Try.f44) [1,1,0]
noncomputable def f44p5 : Plan := .mk (some f44l2) none .n f44p7
theorem f44t5 {ρ : Type} (N : Nat) (a0 : List Int) (b1 : List Int) (K : KT ρ) : f44i N f44c5 f44p5 (f44s1 a0 b1) (joinK (some f44l3) K) =
  laws_eqIntS.Z5 N a0 b1 (K .nrm f44s3) (fun t4 => K .ret (f44s4 t4)) :=
  viaSeq (fun k => laws_eqIntS.Z6 N a0 b1 k) (by kernel_rfl) (by kernel_rfl) (f44t6 N a0 b1 (seqK (fun σ => f44i N f44c7 f44p7 σ (joinK (some f44l3) K)) (joinK (some f44l3) K))) (funext fun a0 => funext fun b1 => funext fun i5 => f44t7 N a0 b1 i5 K) (by kernel_rfl) (by kernel_rfl)
noncomputable def f44c10 := codeAt (bodyOf Try.f44) [1,1,1]
theorem f44t10 {ρ : Type} (N : Nat)  (K : KT ρ) : f44i N f44c10 .n f44s3 (joinK (some f44lE) K) =
  laws_eqIntS.Z10 N (fun t4 => K .ret (f44s4 t4)) := by kernel_rfl
noncomputable def f44c4 := codeAt (bodyOf Try.f44) [1,1]
noncomputable def f44p4 : Plan := .mk (some f44l3) none f44p5 .n
theorem f44t4 {ρ : Type} (N : Nat) (a0 : List Int) (b1 : List Int) (K : KT ρ) : f44i N f44c4 f44p4 (f44s1 a0 b1) (joinK (some f44lE) K) =
  laws_eqIntS.Z4 N a0 b1 (fun t4 => K .ret (f44s4 t4)) :=
  viaSeq (fun k => laws_eqIntS.Z5 N a0 b1 k (fun t4 => K .ret (f44s4 t4))) (by kernel_rfl) (by kernel_rfl) (f44t5 N a0 b1 (seqK (fun σ => f44i N f44c10 .n σ (joinK (some f44lE) K)) (joinK (some f44lE) K))) (f44t10 N K) (by kernel_rfl) (by kernel_rfl)
noncomputable def f44c2 := codeAt (bodyOf Try.f44) [1]
noncomputable def f44p2 : Plan := .mk (some f44l1) none .n f44p4
theorem f44t2 {ρ : Type} (N : Nat) (a0 : List Int) (b1 : List Int) (K : KT ρ) : f44i N f44c2 f44p2 (f44s1 a0 b1) (joinK (some f44lE) K) =
  laws_eqIntS.Z2 N a0 b1 (fun t4 => K .ret (f44s4 t4)) :=
  viaSeq (fun k => laws_eqIntS.Z3 N a0 b1 k (fun t4 => K .ret (f44s4 t4))) (by kernel_rfl) (by kernel_rfl) (f44t3 N a0 b1 (seqK (fun σ => f44i N f44c4 f44p4 σ (joinK (some f44lE) K)) (joinK (some f44lE) K))) (funext fun a0 => funext fun b1 => f44t4 N a0 b1 K) (by kernel_rfl) (by kernel_rfl)
noncomputable def f44c0 := codeAt (bodyOf Try.f44) []
noncomputable def f44p0 : Plan := .mk (some f44l1) none .n f44p2
theorem f44t0 {ρ : Type} (N : Nat) (a0 : List Int) (b1 : List Int) (K : KT ρ) : f44i N f44c0 f44p0 (f44s0 a0 b1) (joinK (some f44lE) K) =
  laws_eqIntS.Z0 N a0 b1 (fun t4 => K .ret (f44s4 t4)) :=
  viaSeq (fun k => laws_eqIntS.Z1 N a0 b1 k) (by kernel_rfl) (by kernel_rfl) (f44t1 N a0 b1 (seqK (fun σ => f44i N f44c2 f44p2 σ (joinK (some f44lE) K)) (joinK (some f44lE) K))) (funext fun a0 => funext fun b1 => f44t2 N a0 b1 K) (by kernel_rfl) (by kernel_rfl)
theorem f44m (N : Nat) (a0 : List Int) (b1 : List Int) : f44i N f44c0 f44p0 (f44s0 a0 b1) (joinK (some f44lE) (finK tab f44sig Try.f44.results.toList)) = laws_eqIntS.Z0 N a0 b1 (fun t4 => some ((), (t4, ()))) :=
  (f44t0 N a0 b1 (finK tab f44sig Try.f44.results.toList)).trans (by kernel_rfl)
theorem f44ok (h : laws_eqIntS.Spec) : EntryOk Try.prog 44 e44 :=
  entry_of_code (sig := f44sig) (c := f44c0) (pl := f44p0) (je := (some f44lE)) (B := f44B) Try.func44 (by kernel_rfl) (by kernel_rfl) (by kernel_rfl) tabOk f44GOk (by kernel_rfl) (by kernel_rfl) (by kernel_rfl) (by kernel_rfl) fun X hb hp => by
    obtain ⟨a0, b1, _⟩ := X
    obtain ⟨N, h⟩ := h a0 b1 hb.1 hb.2.1
    exact ⟨N, (f44m N a0 b1).trans (h N (Nat.le_refl N))⟩
theorem e44ok : EntryOk Try.prog 44 e44 := f44ok laws_eqIntS.ok
end Go.Fw
set_option linter.unusedVariables false
set_option linter.unusedSimpArgs false
set_option maxRecDepth 100000
namespace Go.Fw
open Go.Proofs
/-! ### loop.example/g03115/laws.eqMatrix -/
noncomputable def f31sig : Sig := ⟨[⟨.pair (.int .i64) (.pair (.int .i64) (.sl 3 (.int .i64))), true, false⟩, ⟨.pair (.int .i64) (.pair (.int .i64) (.sl 3 (.int .i64))), true, false⟩], [⟨.bool, false, false⟩]⟩
noncomputable def e31 : Entry := ⟨f31sig, none, fun X => ((), ((laws_eqMatrix.g X.1 X.2.1), ()))⟩
noncomputable def f31G : Nat → Option Entry := addG (fun _ => none) 44 e44
theorem f31GOk : GOk Try.prog f31G := (GOk.nil).add e44ok (by kernel_rfl)
noncomputable def f31lE : Clean := ⟨[], [], [], [], []⟩
noncomputable def f31s0 (a0 : Int × Int × List Int) (b1 : Int × Int × List Int) : St := initSt f31sig.ps (a0, (b1, ()))
noncomputable def f31s1 (t4 : Bool) : St := stOf [(4, .c (.bool t4))] [] []
noncomputable def f31l1 : Clean := ⟨[4], [], [], [], []⟩
noncomputable def f31B : Nat → Option Clean := lookL [(1000000, f31l1)]
noncomputable abbrev f31i {ρ : Type} (N : Nat) (c : Code) (p : Plan) (σ : St) (K : KT ρ) : Option ρ := iCode f31G tab f31B N c p σ K
noncomputable def f31c0 := codeAt (bodyOf Try.f31) []
theorem f31t0 {ρ : Type} (N : Nat) (a0 : Int × Int × List Int) (b1 : Int × Int × List Int) (K : KT ρ) : f31i N f31c0 .n (f31s0 a0 b1) (joinK (some f31lE) K) =
  laws_eqMatrix.Z0 N a0 b1 (fun t4 => K .ret (f31s1 t4)) := by kernel_rfl
theorem f31m (N : Nat) (a0 : Int × Int × List Int) (b1 : Int × Int × List Int) : f31i N f31c0 .n (f31s0 a0 b1) (joinK (some f31lE) (finK tab f31sig Try.f31.results.toList)) = laws_eqMatrix.Z0 N a0 b1 (fun t4 => some ((), (t4, ()))) :=
  (f31t0 N a0 b1 (finK tab f31sig Try.f31.results.toList)).trans (by kernel_rfl)
theorem f31ok (h : laws_eqMatrix.Spec) : EntryOk Try.prog 31 e31 :=
  entry_of_code (sig := f31sig) (c := f31c0) (pl := .n) (je := (some f31lE)) (B := f31B) Try.func31 (by kernel_rfl) (by kernel_rfl) (by kernel_rfl) tabOk f31GOk (by kernel_rfl) (by kernel_rfl) (by kernel_rfl) (by kernel_rfl) fun X hb hp => by
    obtain ⟨a0, b1, _⟩ := X
    obtain ⟨N, h⟩ := h a0 b1 hb.1 hb.2.1
    exact ⟨N, (f31m N a0 b1).trans (h N (Nat.le_refl N))⟩
theorem e31ok : EntryOk Try.prog 31 e31 := f31ok laws_eqMatrix.ok
end Go.Fw
set_option linter.unusedVariables false
set_option linter.unusedSimpArgs false
set_option maxRecDepth 100000
namespace Go.Fw
open Go.Proofs
/-! ### loop.example/g03115/laws.FnExactColourOf -/
noncomputable def f10sig : Sig := ⟨[⟨.pair (.int .i64) (.pair (.int .i64) (.sl 3 (.int .i64))), true, false⟩, ⟨.sl 3 (.int .i64), false, false⟩, ⟨.int .i64, false, false⟩], [⟨.bool, false, false⟩]⟩
noncomputable def e10 : Entry := ⟨f10sig, none, fun X => ((), ((laws_FnExactColourOf.g X.1 X.2.1 X.2.2.1), ()))⟩
noncomputable def f10G : Nat → Option Entry := addG (addG (addG (addG (addG (addG (addG (fun _ => none) 21 e21) 27 e27) 29 e29) 31 e31) 42 e42) 44 e44) 47 e47
theorem f10GOk : GOk Try.prog f10G := (((((((GOk.nil).add e21ok (by kernel_rfl)).add e27ok (by kernel_rfl)).add e29ok (by kernel_rfl)).add e31ok (by kernel_rfl)).add e42ok (by kernel_rfl)).add e44ok (by kernel_rfl)).add e47ok (by kernel_rfl)
noncomputable def f10lE : Clean := ⟨[], [], [], [], []⟩
noncomputable def f10s0 (aM0 : Int × Int × List Int) (aKs1 : List Int) (aK2 : Int) : St := initSt f10sig.ps (aM0, (aKs1, (aK2, ())))
noncomputable def f10s1 (t6 : Bool) : St := stOf [(6, .c (.bool t6))] [] []
noncomputable def f10l1 : Clean := ⟨[6], [], [], [], []⟩
noncomputable def f10B : Nat → Option Clean := lookL [(1000000, f10l1)]
noncomputable abbrev f10i {ρ : Type} (N : Nat) (c : Code) (p : Plan) (σ : St) (K : KT ρ) : Option ρ := iCode f10G tab f10B N c p σ K
noncomputable def f10c0 := codeAt (bodyOf Try.f10) []
theorem f10t0 {ρ : Type} (N : Nat) (aM0 : Int × Int × List Int) (aKs1 : List Int) (aK2 : Int) (K : KT ρ) : f10i N f10c0 .n (f10s0 aM0 aKs1 aK2) (joinK (some f10lE) K) =
  laws_FnExactColourOf.Z0 N aM0 aKs1 aK2 (fun t6 => K .ret (f10s1 t6)) := by kernel_rfl
theorem f10m (N : Nat) (aM0 : Int × Int × List Int) (aKs1 : List Int) (aK2 : Int) : f10i N f10c0 .n (f10s0 aM0 aKs1 aK2) (joinK (some f10lE) (finK tab f10sig Try.f10.results.toList)) = laws_FnExactColourOf.Z0 N aM0 aKs1 aK2 (fun t6 => some ((), (t6, ()))) :=
  (f10t0 N aM0 aKs1 aK2 (finK tab f10sig Try.f10.results.toList)).trans (by kernel_rfl)
theorem f10ok (h : laws_FnExactColourOf.Spec) : EntryOk Try.prog 10 e10 :=
  entry_of_code (sig := f10sig) (c := f10c0) (pl := .n) (je := (some f10lE)) (B := f10B) Try.func10 (by kernel_rfl) (by kernel_rfl) (by kernel_rfl) tabOk f10GOk (by kernel_rfl) (by kernel_rfl) (by kernel_rfl) (by kernel_rfl) fun X hb hp => by
    obtain ⟨aM0, aKs1, aK2, _⟩ := X
    obtain ⟨N, h⟩ := h aM0 aKs1 aK2 hb.1 hb.2.1
    exact ⟨N, (f10m N aM0 aKs1 aK2).trans (h N (Nat.le_refl N))⟩
theorem e10ok : EntryOk Try.prog 10 e10 := f10ok laws_FnExactColourOf.ok
end Go.Fw
