/- The ties: the program's text comes to the plain functions. Nothing is assumed. -/
import Derived.Test.YtakkbbpdfmkbnaaPuFnExactInitialSeedb
import Derived.Test.YtakkbbpdfmkbnaaTiFnExactInitialSeeda
import Derived.Test.YtakkbbpdfmkbnaaPuFnExactInitialSeeda
set_option linter.unusedVariables false
set_option linter.unusedSimpArgs false
set_option maxRecDepth 100000
namespace Go.Fw
open Go.Proofs
/-! ### loop.example/g03115/impl.factors -/
noncomputable def f64sig : Sig := ⟨[⟨.pair (.int .i64) (.pair (.int .i64) (.sl 3 (.int .i64))), true, false⟩], [⟨.sl 3 (.int .i64), false, true⟩]⟩
noncomputable def e64 : Entry := ⟨f64sig, (some fun X => impl_factors.P X.1), fun X => ((), ((impl_factors.g X.1), ()))⟩
noncomputable def f64G : Nat → Option Entry := addG (addG (fun _ => none) 60 e60) 97 e97
theorem f64GOk : GOk Try.prog f64G := ((GOk.nil).add e60ok (by kernel_rfl)).add e97ok (by kernel_rfl)
noncomputable def f64lE : Clean := ⟨[], [], [], [], []⟩
noncomputable def f64s0 (m0 : Int × Int × List Int) : St := initSt f64sig.ps (m0, ())
noncomputable def f64s1 (m1_0 : Int) (m1_1 : Int) (m1_2 : List Int) : St := stOf [(1, .c (.box 1 0))] [(1, (26, [.int .i64 m1_0, .int .i64 m1_1, .sn 3 (.int .i64) m1_2 none]))] []
noncomputable def f64l1 : Clean := ⟨[1], [1], [], [], []⟩
noncomputable def f64s2 (num3 : List Int) (den4 : List Int) (m1_0 : Int) (m1_1 : Int) (m1_2 : List Int) : St := stOf [(1, .c (.box 1 0)), (3, .c (.own 1000192)), (4, .c (.own 1000256))] [(1, (26, [.int .i64 m1_0, .int .i64 m1_1, .sn 3 (.int .i64) m1_2 none]))] [(1000192, (⟨3, .int .i64, num3, true, false⟩ : Row)), (1000256, (⟨3, .int .i64, den4, true, false⟩ : Row))]
noncomputable def f64l2 : Clean := ⟨[1, 3, 4], [1], [], [], [(⟨false, 3, 0⟩, 1000192), (⟨false, 4, 0⟩, 1000256)]⟩
noncomputable def f64s3 (num3 : List Int) (den4 : List Int) (out5 : List Int) (m1_0 : Int) (m1_1 : Int) (m1_2 : List Int) : St := stOf [(1, .c (.box 1 0)), (3, .c (.own 1000192)), (4, .c (.own 1000256)), (5, .c (.own 1000320))] [(1, (26, [.int .i64 m1_0, .int .i64 m1_1, .sn 3 (.int .i64) m1_2 none]))] [(1000192, (⟨3, .int .i64, num3, true, false⟩ : Row)), (1000256, (⟨3, .int .i64, den4, true, false⟩ : Row)), (1000320, (⟨3, .int .i64, out5, true, false⟩ : Row))]
noncomputable def f64l3 : Clean := ⟨[1, 3, 4, 5], [1], [], [], [(⟨false, 3, 0⟩, 1000192), (⟨false, 4, 0⟩, 1000256), (⟨false, 5, 0⟩, 1000320)]⟩
noncomputable def f64s4 (num3 : List Int) (den4 : List Int) (out5 : List Int) (t34 : Int) (t35 : Int) (m1_0 : Int) (m1_1 : Int) (m1_2 : List Int) : St := stOf [(1, .c (.box 1 0)), (3, .c (.own 1000192)), (4, .c (.own 1000256)), (5, .c (.own 1000320)), (34, .c (.int .i64 t34)), (35, .c (.int .i64 t35))] [(1, (26, [.int .i64 m1_0, .int .i64 m1_1, .sn 3 (.int .i64) m1_2 none]))] [(1000192, (⟨3, .int .i64, num3, true, false⟩ : Row)), (1000256, (⟨3, .int .i64, den4, true, false⟩ : Row)), (1000320, (⟨3, .int .i64, out5, true, false⟩ : Row))]
noncomputable def f64l4 : Clean := ⟨[1, 3, 4, 5, 34, 35], [1], [], [], [(⟨false, 3, 0⟩, 1000192), (⟨false, 4, 0⟩, 1000256), (⟨false, 5, 0⟩, 1000320)]⟩
noncomputable def f64s5 (num3 : List Int) (den4 : List Int) (out5 : List Int) (t34 : Int) (t35 : Int) (t36 : Bool) (m1_0 : Int) (m1_1 : Int) (m1_2 : List Int) : St := stOf [(1, .c (.box 1 0)), (3, .c (.own 1000192)), (4, .c (.own 1000256)), (5, .c (.own 1000320)), (34, .c (.int .i64 t34)), (35, .c (.int .i64 t35)), (36, .c (.bool t36))] [(1, (26, [.int .i64 m1_0, .int .i64 m1_1, .sn 3 (.int .i64) m1_2 none]))] [(1000192, (⟨3, .int .i64, num3, true, false⟩ : Row)), (1000256, (⟨3, .int .i64, den4, true, false⟩ : Row)), (1000320, (⟨3, .int .i64, out5, true, false⟩ : Row))]
noncomputable def f64l5 : Clean := ⟨[1, 3, 4, 5, 34, 35, 36], [1], [], [], [(⟨false, 3, 0⟩, 1000192), (⟨false, 4, 0⟩, 1000256), (⟨false, 5, 0⟩, 1000320)]⟩
noncomputable def f64s6 (num3 : List Int) (den4 : List Int) (out5 : List Int) (s6 : Int) (t34 : Int) (t35 : Int) (m1_0 : Int) (m1_1 : Int) (m1_2 : List Int) : St := stOf [(1, .c (.box 1 0)), (3, .c (.own 1000192)), (4, .c (.own 1000256)), (5, .c (.own 1000320)), (6, .c (.int .i64 s6)), (34, .c (.int .i64 t34)), (35, .c (.int .i64 t35))] [(1, (26, [.int .i64 m1_0, .int .i64 m1_1, .sn 3 (.int .i64) m1_2 none]))] [(1000192, (⟨3, .int .i64, num3, true, false⟩ : Row)), (1000256, (⟨3, .int .i64, den4, true, false⟩ : Row)), (1000320, (⟨3, .int .i64, out5, true, false⟩ : Row))]
noncomputable def f64l6 : Clean := ⟨[1, 3, 4, 5, 6, 34, 35], [1], [], [], [(⟨false, 3, 0⟩, 1000192), (⟨false, 4, 0⟩, 1000256), (⟨false, 5, 0⟩, 1000320)]⟩
noncomputable def f64s7 (num3 : List Int) (den4 : List Int) (out5 : List Int) (piece7 : List Int) (t34 : Int) (t35 : Int) (m1_0 : Int) (m1_1 : Int) (m1_2 : List Int) : St := stOf [(1, .c (.box 1 0)), (3, .c (.own 1000192)), (4, .c (.own 1000256)), (5, .c (.own 1000320)), (7, .c (.own 1000448)), (34, .c (.int .i64 t34)), (35, .c (.int .i64 t35))] [(1, (26, [.int .i64 m1_0, .int .i64 m1_1, .sn 3 (.int .i64) m1_2 none]))] [(1000192, (⟨3, .int .i64, num3, true, false⟩ : Row)), (1000256, (⟨3, .int .i64, den4, true, false⟩ : Row)), (1000320, (⟨3, .int .i64, out5, true, false⟩ : Row)), (1000448, (⟨3, .int .i64, piece7, true, false⟩ : Row))]
noncomputable def f64l7 : Clean := ⟨[1, 3, 4, 5, 7, 34, 35], [1], [], [], [(⟨false, 3, 0⟩, 1000192), (⟨false, 4, 0⟩, 1000256), (⟨false, 5, 0⟩, 1000320), (⟨false, 7, 0⟩, 1000448)]⟩
noncomputable def f64s8 (num3 : List Int) (den4 : List Int) (out5 : List Int) (piece7 : List Int) (at8 : Int) (t34 : Int) (t35 : Int) (m1_0 : Int) (m1_1 : Int) (m1_2 : List Int) : St := stOf [(1, .c (.box 1 0)), (3, .c (.own 1000192)), (4, .c (.own 1000256)), (5, .c (.own 1000320)), (7, .c (.own 1000448)), (8, .c (.int .i64 at8)), (34, .c (.int .i64 t34)), (35, .c (.int .i64 t35))] [(1, (26, [.int .i64 m1_0, .int .i64 m1_1, .sn 3 (.int .i64) m1_2 none]))] [(1000192, (⟨3, .int .i64, num3, true, false⟩ : Row)), (1000256, (⟨3, .int .i64, den4, true, false⟩ : Row)), (1000320, (⟨3, .int .i64, out5, true, false⟩ : Row)), (1000448, (⟨3, .int .i64, piece7, true, false⟩ : Row))]
noncomputable def f64l8 : Clean := ⟨[1, 3, 4, 5, 7, 8, 34, 35], [1], [], [], [(⟨false, 3, 0⟩, 1000192), (⟨false, 4, 0⟩, 1000256), (⟨false, 5, 0⟩, 1000320), (⟨false, 7, 0⟩, 1000448)]⟩
noncomputable def f64s9 (num3 : List Int) (den4 : List Int) (out5 : List Int) (piece7 : List Int) (at8 : Int) (i9 : Int) (t34 : Int) (t35 : Int) (m1_0 : Int) (m1_1 : Int) (m1_2 : List Int) : St := stOf [(1, .c (.box 1 0)), (3, .c (.own 1000192)), (4, .c (.own 1000256)), (5, .c (.own 1000320)), (7, .c (.own 1000448)), (8, .c (.int .i64 at8)), (9, .c (.int .i64 i9)), (34, .c (.int .i64 t34)), (35, .c (.int .i64 t35))] [(1, (26, [.int .i64 m1_0, .int .i64 m1_1, .sn 3 (.int .i64) m1_2 none]))] [(1000192, (⟨3, .int .i64, num3, true, false⟩ : Row)), (1000256, (⟨3, .int .i64, den4, true, false⟩ : Row)), (1000320, (⟨3, .int .i64, out5, true, false⟩ : Row)), (1000448, (⟨3, .int .i64, piece7, true, false⟩ : Row))]
noncomputable def f64l9 : Clean := ⟨[1, 3, 4, 5, 7, 8, 9, 34, 35], [1], [], [], [(⟨false, 3, 0⟩, 1000192), (⟨false, 4, 0⟩, 1000256), (⟨false, 5, 0⟩, 1000320), (⟨false, 7, 0⟩, 1000448)]⟩
noncomputable def f64s10 (num3 : List Int) (den4 : List Int) (out5 : List Int) (piece7 : List Int) (at8 : Int) (i9 : Int) (t34 : Int) (t35 : Int) (t62 : Int) (t63 : Int) (m1_0 : Int) (m1_1 : Int) (m1_2 : List Int) : St := stOf [(1, .c (.box 1 0)), (3, .c (.own 1000192)), (4, .c (.own 1000256)), (5, .c (.own 1000320)), (7, .c (.own 1000448)), (8, .c (.int .i64 at8)), (9, .c (.int .i64 i9)), (34, .c (.int .i64 t34)), (35, .c (.int .i64 t35)), (62, .c (.int .i64 t62)), (63, .c (.int .i64 t63))] [(1, (26, [.int .i64 m1_0, .int .i64 m1_1, .sn 3 (.int .i64) m1_2 none]))] [(1000192, (⟨3, .int .i64, num3, true, false⟩ : Row)), (1000256, (⟨3, .int .i64, den4, true, false⟩ : Row)), (1000320, (⟨3, .int .i64, out5, true, false⟩ : Row)), (1000448, (⟨3, .int .i64, piece7, true, false⟩ : Row))]
noncomputable def f64l10 : Clean := ⟨[1, 3, 4, 5, 7, 8, 9, 34, 35, 62, 63], [1], [], [], [(⟨false, 3, 0⟩, 1000192), (⟨false, 4, 0⟩, 1000256), (⟨false, 5, 0⟩, 1000320), (⟨false, 7, 0⟩, 1000448)]⟩
noncomputable def f64s11 (num3 : List Int) (den4 : List Int) (out5 : List Int) (piece7 : List Int) (at8 : Int) (i9 : Int) (t34 : Int) (t35 : Int) (t62 : Int) (t63 : Int) (t64 : Bool) (m1_0 : Int) (m1_1 : Int) (m1_2 : List Int) : St := stOf [(1, .c (.box 1 0)), (3, .c (.own 1000192)), (4, .c (.own 1000256)), (5, .c (.own 1000320)), (7, .c (.own 1000448)), (8, .c (.int .i64 at8)), (9, .c (.int .i64 i9)), (34, .c (.int .i64 t34)), (35, .c (.int .i64 t35)), (62, .c (.int .i64 t62)), (63, .c (.int .i64 t63)), (64, .c (.bool t64))] [(1, (26, [.int .i64 m1_0, .int .i64 m1_1, .sn 3 (.int .i64) m1_2 none]))] [(1000192, (⟨3, .int .i64, num3, true, false⟩ : Row)), (1000256, (⟨3, .int .i64, den4, true, false⟩ : Row)), (1000320, (⟨3, .int .i64, out5, true, false⟩ : Row)), (1000448, (⟨3, .int .i64, piece7, true, false⟩ : Row))]
noncomputable def f64l11 : Clean := ⟨[1, 3, 4, 5, 7, 8, 9, 34, 35, 62, 63, 64], [1], [], [], [(⟨false, 3, 0⟩, 1000192), (⟨false, 4, 0⟩, 1000256), (⟨false, 5, 0⟩, 1000320), (⟨false, 7, 0⟩, 1000448)]⟩
noncomputable def f64s12 (num3 : List Int) (den4 : List Int) (out5 : List Int) (piece7 : List Int) (at8 : Int) (i9 : Int) (j10 : Int) (t34 : Int) (t35 : Int) (t62 : Int) (t63 : Int) (m1_0 : Int) (m1_1 : Int) (m1_2 : List Int) : St := stOf [(1, .c (.box 1 0)), (3, .c (.own 1000192)), (4, .c (.own 1000256)), (5, .c (.own 1000320)), (7, .c (.own 1000448)), (8, .c (.int .i64 at8)), (9, .c (.int .i64 i9)), (10, .c (.int .i64 j10)), (34, .c (.int .i64 t34)), (35, .c (.int .i64 t35)), (62, .c (.int .i64 t62)), (63, .c (.int .i64 t63))] [(1, (26, [.int .i64 m1_0, .int .i64 m1_1, .sn 3 (.int .i64) m1_2 none]))] [(1000192, (⟨3, .int .i64, num3, true, false⟩ : Row)), (1000256, (⟨3, .int .i64, den4, true, false⟩ : Row)), (1000320, (⟨3, .int .i64, out5, true, false⟩ : Row)), (1000448, (⟨3, .int .i64, piece7, true, false⟩ : Row))]
noncomputable def f64l12 : Clean := ⟨[1, 3, 4, 5, 7, 8, 9, 10, 34, 35, 62, 63], [1], [], [], [(⟨false, 3, 0⟩, 1000192), (⟨false, 4, 0⟩, 1000256), (⟨false, 5, 0⟩, 1000320), (⟨false, 7, 0⟩, 1000448)]⟩
noncomputable def f64s13 (num3 : List Int) (den4 : List Int) (out5 : List Int) (piece7 : List Int) (at8 : Int) (i9 : Int) (j10 : Int) (p11 : Int) (q12 : Int) (t34 : Int) (t35 : Int) (t62 : Int) (t63 : Int) (m1_0 : Int) (m1_1 : Int) (m1_2 : List Int) : St := stOf [(1, .c (.box 1 0)), (3, .c (.own 1000192)), (4, .c (.own 1000256)), (5, .c (.own 1000320)), (7, .c (.own 1000448)), (8, .c (.int .i64 at8)), (9, .c (.int .i64 i9)), (10, .c (.int .i64 j10)), (11, .c (.int .i64 p11)), (12, .c (.int .i64 q12)), (34, .c (.int .i64 t34)), (35, .c (.int .i64 t35)), (62, .c (.int .i64 t62)), (63, .c (.int .i64 t63))] [(1, (26, [.int .i64 m1_0, .int .i64 m1_1, .sn 3 (.int .i64) m1_2 none]))] [(1000192, (⟨3, .int .i64, num3, true, false⟩ : Row)), (1000256, (⟨3, .int .i64, den4, true, false⟩ : Row)), (1000320, (⟨3, .int .i64, out5, true, false⟩ : Row)), (1000448, (⟨3, .int .i64, piece7, true, false⟩ : Row))]
noncomputable def f64l13 : Clean := ⟨[1, 3, 4, 5, 7, 8, 9, 10, 11, 12, 34, 35, 62, 63], [1], [], [], [(⟨false, 3, 0⟩, 1000192), (⟨false, 4, 0⟩, 1000256), (⟨false, 5, 0⟩, 1000320), (⟨false, 7, 0⟩, 1000448)]⟩
noncomputable def f64s14 (num3 : List Int) (den4 : List Int) (out5 : List Int) (piece7 : List Int) (common16 : Int) (t34 : Int) (t35 : Int) (m1_0 : Int) (m1_1 : Int) (m1_2 : List Int) : St := stOf [(1, .c (.box 1 0)), (3, .c (.own 1000192)), (4, .c (.own 1000256)), (5, .c (.own 1000320)), (7, .c (.own 1000448)), (16, .c (.int .i64 common16)), (34, .c (.int .i64 t34)), (35, .c (.int .i64 t35))] [(1, (26, [.int .i64 m1_0, .int .i64 m1_1, .sn 3 (.int .i64) m1_2 none]))] [(1000192, (⟨3, .int .i64, num3, true, false⟩ : Row)), (1000256, (⟨3, .int .i64, den4, true, false⟩ : Row)), (1000320, (⟨3, .int .i64, out5, true, false⟩ : Row)), (1000448, (⟨3, .int .i64, piece7, true, false⟩ : Row))]
noncomputable def f64l14 : Clean := ⟨[1, 3, 4, 5, 7, 16, 34, 35], [1], [], [], [(⟨false, 3, 0⟩, 1000192), (⟨false, 4, 0⟩, 1000256), (⟨false, 5, 0⟩, 1000320), (⟨false, 7, 0⟩, 1000448)]⟩
noncomputable def f64s15 (num3 : List Int) (den4 : List Int) (out5 : List Int) (piece7 : List Int) (common16 : Int) (t34 : Int) (t35 : Int) (t159 : Int) (t160 : Int) (m1_0 : Int) (m1_1 : Int) (m1_2 : List Int) : St := stOf [(1, .c (.box 1 0)), (3, .c (.own 1000192)), (4, .c (.own 1000256)), (5, .c (.own 1000320)), (7, .c (.own 1000448)), (16, .c (.int .i64 common16)), (34, .c (.int .i64 t34)), (35, .c (.int .i64 t35)), (158, .c (.own 1000448)), (159, .c (.int .i64 t159)), (160, .c (.int .i64 t160))] [(1, (26, [.int .i64 m1_0, .int .i64 m1_1, .sn 3 (.int .i64) m1_2 none]))] [(1000192, (⟨3, .int .i64, num3, true, false⟩ : Row)), (1000256, (⟨3, .int .i64, den4, true, false⟩ : Row)), (1000320, (⟨3, .int .i64, out5, true, false⟩ : Row)), (1000448, (⟨3, .int .i64, piece7, true, false⟩ : Row))]
noncomputable def f64l15 : Clean := ⟨[1, 3, 4, 5, 7, 16, 34, 35, 158, 159, 160], [1], [], [], [(⟨false, 3, 0⟩, 1000192), (⟨false, 4, 0⟩, 1000256), (⟨false, 5, 0⟩, 1000320), (⟨false, 7, 0⟩, 1000448)]⟩
noncomputable def f64s16 (num3 : List Int) (den4 : List Int) (out5 : List Int) (piece7 : List Int) (common16 : Int) (g19 : Int) (t34 : Int) (t35 : Int) (m1_0 : Int) (m1_1 : Int) (m1_2 : List Int) : St := stOf [(1, .c (.box 1 0)), (3, .c (.own 1000192)), (4, .c (.own 1000256)), (5, .c (.own 1000320)), (7, .c (.own 1000448)), (16, .c (.int .i64 common16)), (19, .c (.int .i64 g19)), (34, .c (.int .i64 t34)), (35, .c (.int .i64 t35))] [(1, (26, [.int .i64 m1_0, .int .i64 m1_1, .sn 3 (.int .i64) m1_2 none]))] [(1000192, (⟨3, .int .i64, num3, true, false⟩ : Row)), (1000256, (⟨3, .int .i64, den4, true, false⟩ : Row)), (1000320, (⟨3, .int .i64, out5, true, false⟩ : Row)), (1000448, (⟨3, .int .i64, piece7, true, false⟩ : Row))]
noncomputable def f64l16 : Clean := ⟨[1, 3, 4, 5, 7, 16, 19, 34, 35], [1], [], [], [(⟨false, 3, 0⟩, 1000192), (⟨false, 4, 0⟩, 1000256), (⟨false, 5, 0⟩, 1000320), (⟨false, 7, 0⟩, 1000448)]⟩
noncomputable def f64s17 (num3 : List Int) (den4 : List Int) (out5 : List Int) (piece7 : List Int) (common16 : Int) (g19 : Int) (t34 : Int) (t35 : Int) (t179 : Int) (t180 : Int) (m1_0 : Int) (m1_1 : Int) (m1_2 : List Int) : St := stOf [(1, .c (.box 1 0)), (3, .c (.own 1000192)), (4, .c (.own 1000256)), (5, .c (.own 1000320)), (7, .c (.own 1000448)), (16, .c (.int .i64 common16)), (19, .c (.int .i64 g19)), (34, .c (.int .i64 t34)), (35, .c (.int .i64 t35)), (178, .c (.own 1000448)), (179, .c (.int .i64 t179)), (180, .c (.int .i64 t180))] [(1, (26, [.int .i64 m1_0, .int .i64 m1_1, .sn 3 (.int .i64) m1_2 none]))] [(1000192, (⟨3, .int .i64, num3, true, false⟩ : Row)), (1000256, (⟨3, .int .i64, den4, true, false⟩ : Row)), (1000320, (⟨3, .int .i64, out5, true, false⟩ : Row)), (1000448, (⟨3, .int .i64, piece7, true, false⟩ : Row))]
noncomputable def f64l17 : Clean := ⟨[1, 3, 4, 5, 7, 16, 19, 34, 35, 178, 179, 180], [1], [], [], [(⟨false, 3, 0⟩, 1000192), (⟨false, 4, 0⟩, 1000256), (⟨false, 5, 0⟩, 1000320), (⟨false, 7, 0⟩, 1000448)]⟩
noncomputable def f64s18 (num3 : List Int) (den4 : List Int) (out5 : List Int) (piece7 : List Int) (g19 : Int) (t34 : Int) (t35 : Int) (m1_0 : Int) (m1_1 : Int) (m1_2 : List Int) : St := stOf [(1, .c (.box 1 0)), (3, .c (.own 1000192)), (4, .c (.own 1000256)), (5, .c (.own 1000320)), (7, .c (.own 1000448)), (19, .c (.int .i64 g19)), (34, .c (.int .i64 t34)), (35, .c (.int .i64 t35))] [(1, (26, [.int .i64 m1_0, .int .i64 m1_1, .sn 3 (.int .i64) m1_2 none]))] [(1000192, (⟨3, .int .i64, num3, true, false⟩ : Row)), (1000256, (⟨3, .int .i64, den4, true, false⟩ : Row)), (1000320, (⟨3, .int .i64, out5, true, false⟩ : Row)), (1000448, (⟨3, .int .i64, piece7, true, false⟩ : Row))]
noncomputable def f64l18 : Clean := ⟨[1, 3, 4, 5, 7, 19, 34, 35], [1], [], [], [(⟨false, 3, 0⟩, 1000192), (⟨false, 4, 0⟩, 1000256), (⟨false, 5, 0⟩, 1000320), (⟨false, 7, 0⟩, 1000448)]⟩
noncomputable def f64s19 (num3 : List Int) (den4 : List Int) (out5 : List Int) (t205 : List Int) (g19 : Int) (t34 : Int) (t35 : Int) (t206 : Int) (t207 : Int) (m1_0 : Int) (m1_1 : Int) (m1_2 : List Int) : St := stOf [(1, .c (.box 1 0)), (3, .c (.own 1000192)), (4, .c (.own 1000256)), (5, .c (.own 1000320)), (19, .c (.int .i64 g19)), (34, .c (.int .i64 t34)), (35, .c (.int .i64 t35)), (205, .c (.own 1013120)), (206, .c (.int .i64 t206)), (207, .c (.int .i64 t207))] [(1, (26, [.int .i64 m1_0, .int .i64 m1_1, .sn 3 (.int .i64) m1_2 none]))] [(1000192, (⟨3, .int .i64, num3, true, false⟩ : Row)), (1000256, (⟨3, .int .i64, den4, true, false⟩ : Row)), (1000320, (⟨3, .int .i64, out5, true, false⟩ : Row)), (1013120, (⟨3, .int .i64, t205, true, false⟩ : Row))]
noncomputable def f64l19 : Clean := ⟨[1, 3, 4, 5, 19, 34, 35, 205, 206, 207], [1], [], [], [(⟨false, 3, 0⟩, 1000192), (⟨false, 4, 0⟩, 1000256), (⟨false, 5, 0⟩, 1000320), (⟨false, 205, 0⟩, 1013120)]⟩
noncomputable def f64s20 (out5 : List Int) : St := stOf [(5, .c (.own 1000320))] [] [(1000320, (⟨3, .int .i64, out5, true, false⟩ : Row))]
noncomputable def f64l20 : Clean := ⟨[5], [], [], [], [(⟨false, 5, 0⟩, 1000320)]⟩
noncomputable def f64s21 (t2 : List Int) : St := stOf [(2, .c (.own 1001000128))] [] [(1001000128, (⟨3, .int .i64, t2, true, true⟩ : Row))]
noncomputable def f64l21 : Clean := ⟨[2], [], [⟨⟨false, 2, 0⟩, 30000000, 3, .int .i64, true⟩], [], [(⟨false, 2, 0⟩, 1001000128)]⟩
noncomputable def f64B : Nat → Option Clean := lookL [(5, f64l10), (4, f64l8), (3, f64l8), (2, f64l7), (6, f64l14), (8, f64l18), (10, f64l4), (1, f64l4), (0, f64l20), (1000000, f64l21)]
noncomputable abbrev f64i {ρ : Type} (N : Nat) (c : Code) (p : Plan) (σ : St) (K : KT ρ) : Option ρ := iCode f64G tab f64B N c p σ K
noncomputable def f64c1 := codeAt (bodyOf Try.f64) [0]
theorem f64t1 {ρ : Type} (N : Nat) (m0 : Int × Int × List Int) (K : KT ρ) : f64i N f64c1 .n (f64s0 m0) (joinK (some f64l1) K) =
  impl_factors.Z1 N m0 (fun m1_0 m1_1 m1_2 => K .nrm (f64s1 m1_0 m1_1 m1_2)) := by kernel_rfl
noncomputable def f64c3 := codeAt (bodyOf Try.f64) [1,0]
theorem f64t3 {ρ : Type} (N : Nat) (m1_0 : Int) (m1_1 : Int) (m1_2 : List Int) (K : KT ρ) : f64i N f64c3 .n (f64s1 m1_0 m1_1 m1_2) (joinK (some f64l2) K) =
  impl_factors.Z3 N m1_0 m1_1 m1_2 (fun num3 den4 m1_0 m1_1 m1_2 => K .nrm (f64s2 num3 den4 m1_0 m1_1 m1_2)) := by kernel_rfl
noncomputable def f64c5 := codeAt (bodyOf Try.f64) [1,1,0]
theorem f64t5 {ρ : Type} (N : Nat) (num3 : List Int) (den4 : List Int) (m1_0 : Int) (m1_1 : Int) (m1_2 : List Int) (K : KT ρ) : f64i N f64c5 .n (f64s2 num3 den4 m1_0 m1_1 m1_2) (joinK (some f64l3) K) =
  impl_factors.Z5 N num3 den4 m1_0 m1_1 m1_2 (fun num3 den4 out5 m1_0 m1_1 m1_2 => K .nrm (f64s3 num3 den4 out5 m1_0 m1_1 m1_2)) := by kernel_rfl
noncomputable def f64c8 := codeAt (bodyOf Try.f64) [1,1,1,0,0]
theorem f64t8 {ρ : Type} (N : Nat) (num3 : List Int) (den4 : List Int) (out5 : List Int) (m1_0 : Int) (m1_1 : Int) (m1_2 : List Int) (K : KT ρ) : f64i N f64c8 .n (f64s3 num3 den4 out5 m1_0 m1_1 m1_2) (joinK (some f64l4) K) =
  impl_factors.Z8 N num3 den4 out5 m1_0 m1_1 m1_2 (fun num3 den4 out5 t34 t35 m1_0 m1_1 m1_2 => K .nrm (f64s4 num3 den4 out5 t34 t35 m1_0 m1_1 m1_2)) := by kernel_rfl
noncomputable def f64c12 := codeAt (bodyOf Try.f64) [1,1,1,0,1,0,0,0]
theorem f64t12 {ρ : Type} (N : Nat) (num3 : List Int) (den4 : List Int) (out5 : List Int) (t34 : Int) (t35 : Int) (m1_0 : Int) (m1_1 : Int) (m1_2 : List Int) (K : KT ρ) : f64i N f64c12 .n (f64s4 num3 den4 out5 t34 t35 m1_0 m1_1 m1_2) (joinK (some f64l5) K) =
  impl_factors.Z12 N num3 den4 out5 t34 t35 m1_0 m1_1 m1_2 (fun num3 den4 out5 t34 t35 t36 m1_0 m1_1 m1_2 => K .nrm (f64s5 num3 den4 out5 t34 t35 t36 m1_0 m1_1 m1_2)) := by kernel_rfl
noncomputable def f64c14 := codeAt (bodyOf Try.f64) [1,1,1,0,1,0,0,1,0]
theorem f64t14 {ρ : Type} (N : Nat) (num3 : List Int) (den4 : List Int) (out5 : List Int) (t34 : Int) (t35 : Int) (t36 : Bool) (m1_0 : Int) (m1_1 : Int) (m1_2 : List Int) (K : KT ρ) : f64i N f64c14 .n (f64s5 num3 den4 out5 t34 t35 t36 m1_0 m1_1 m1_2) (joinK (some f64l4) K) =
  impl_factors.Z14 N num3 den4 out5 t34 t35 t36 m1_0 m1_1 m1_2 (fun num3 den4 out5 t34 t35 m1_0 m1_1 m1_2 => K .nrm (f64s4 num3 den4 out5 t34 t35 m1_0 m1_1 m1_2)) (fun out5 => K (.exit 0) (f64s20 out5)) := by kernel_rfl
noncomputable def f64c18 := codeAt (bodyOf Try.f64) [1,1,1,0,1,0,0,1,1,0,0,0]
theorem f64t18 {ρ : Type} (N : Nat) (num3 : List Int) (den4 : List Int) (out5 : List Int) (t34 : Int) (t35 : Int) (m1_0 : Int) (m1_1 : Int) (m1_2 : List Int) (K : KT ρ) : f64i N f64c18 .n (f64s4 num3 den4 out5 t34 t35 m1_0 m1_1 m1_2) (joinK (some f64l6) K) =
  impl_factors.Z18 N num3 den4 out5 t34 t35 m1_0 m1_1 m1_2 (fun num3 den4 out5 s6 t34 t35 m1_0 m1_1 m1_2 => K .nrm (f64s6 num3 den4 out5 s6 t34 t35 m1_0 m1_1 m1_2)) := by kernel_rfl
noncomputable def f64c20 := codeAt (bodyOf Try.f64) [1,1,1,0,1,0,0,1,1,0,0,1,0]
theorem f64t20 {ρ : Type} (N : Nat) (num3 : List Int) (den4 : List Int) (out5 : List Int) (s6 : Int) (t34 : Int) (t35 : Int) (m1_0 : Int) (m1_1 : Int) (m1_2 : List Int) (K : KT ρ) : f64i N f64c20 .n (f64s6 num3 den4 out5 s6 t34 t35 m1_0 m1_1 m1_2) (joinK (some f64l6) K) =
  impl_factors.Z20 N num3 den4 out5 s6 t34 t35 m1_0 m1_1 m1_2 (fun num3 den4 out5 s6 t34 t35 m1_0 m1_1 m1_2 => K .nrm (f64s6 num3 den4 out5 s6 t34 t35 m1_0 m1_1 m1_2)) (fun num3 den4 out5 t34 t35 m1_0 m1_1 m1_2 => K (.exit 1) (f64s4 num3 den4 out5 t34 t35 m1_0 m1_1 m1_2)) := by kernel_rfl
noncomputable def f64c22 := codeAt (bodyOf Try.f64) [1,1,1,0,1,0,0,1,1,0,0,1,1,0]
theorem f64t22 {ρ : Type} (N : Nat) (num3 : List Int) (den4 : List Int) (out5 : List Int) (s6 : Int) (t34 : Int) (t35 : Int) (m1_0 : Int) (m1_1 : Int) (m1_2 : List Int) (K : KT ρ) : f64i N f64c22 .n (f64s6 num3 den4 out5 s6 t34 t35 m1_0 m1_1 m1_2) (joinK (some f64l6) K) =
  impl_factors.Z22 N num3 den4 out5 s6 t34 t35 m1_0 m1_1 m1_2 (fun num3 den4 out5 s6 t34 t35 m1_0 m1_1 m1_2 => K .nrm (f64s6 num3 den4 out5 s6 t34 t35 m1_0 m1_1 m1_2)) := by kernel_rfl
noncomputable def f64c24 := codeAt (bodyOf Try.f64) [1,1,1,0,1,0,0,1,1,0,0,1,1,1,0]
theorem f64t24 {ρ : Type} (N : Nat) (num3 : List Int) (den4 : List Int) (out5 : List Int) (s6 : Int) (t34 : Int) (t35 : Int) (m1_0 : Int) (m1_1 : Int) (m1_2 : List Int) (K : KT ρ) : f64i N f64c24 .n (f64s6 num3 den4 out5 s6 t34 t35 m1_0 m1_1 m1_2) (joinK (some f64l7) K) =
  impl_factors.Z24 N num3 den4 out5 s6 t34 t35 m1_0 m1_1 m1_2 (fun num3 den4 out5 piece7 t34 t35 m1_0 m1_1 m1_2 => K .nrm (f64s7 num3 den4 out5 piece7 t34 t35 m1_0 m1_1 m1_2)) := by kernel_rfl
noncomputable def f64c27 := codeAt (bodyOf Try.f64) [1,1,1,0,1,0,0,1,1,0,0,1,1,1,1,0,0]
theorem f64t27 {ρ : Type} (N : Nat) (num3 : List Int) (den4 : List Int) (out5 : List Int) (piece7 : List Int) (t34 : Int) (t35 : Int) (m1_0 : Int) (m1_1 : Int) (m1_2 : List Int) (K : KT ρ) : f64i N f64c27 .n (f64s7 num3 den4 out5 piece7 t34 t35 m1_0 m1_1 m1_2) (joinK (some f64l8) K) =
  impl_factors.Z27 N num3 den4 out5 piece7 t34 t35 m1_0 m1_1 m1_2 (fun num3 den4 out5 piece7 at8 t34 t35 m1_0 m1_1 m1_2 => K .nrm (f64s8 num3 den4 out5 piece7 at8 t34 t35 m1_0 m1_1 m1_2)) := by kernel_rfl
noncomputable def f64c31 := codeAt (bodyOf Try.f64) [1,1,1,0,1,0,0,1,1,0,0,1,1,1,1,0,1,0,0,0]
theorem f64t31 {ρ : Type} (N : Nat) (num3 : List Int) (den4 : List Int) (out5 : List Int) (piece7 : List Int) (at8 : Int) (t34 : Int) (t35 : Int) (m1_0 : Int) (m1_1 : Int) (m1_2 : List Int) (K : KT ρ) : f64i N f64c31 .n (f64s8 num3 den4 out5 piece7 at8 t34 t35 m1_0 m1_1 m1_2) (joinK (some f64l8) K) =
  impl_factors.Z31 N num3 den4 out5 piece7 at8 t34 t35 m1_0 m1_1 m1_2 (fun num3 den4 out5 piece7 at8 t34 t35 m1_0 m1_1 m1_2 => K .nrm (f64s8 num3 den4 out5 piece7 at8 t34 t35 m1_0 m1_1 m1_2)) (fun num3 den4 out5 piece7 t34 t35 m1_0 m1_1 m1_2 => K (.exit 2) (f64s7 num3 den4 out5 piece7 t34 t35 m1_0 m1_1 m1_2)) := by kernel_rfl
noncomputable def f64c35 := codeAt (bodyOf Try.f64) [1,1,1,0,1,0,0,1,1,0,0,1,1,1,1,0,1,0,0,1,0,0,0]
theorem f64t35 {ρ : Type} (N : Nat) (num3 : List Int) (den4 : List Int) (out5 : List Int) (piece7 : List Int) (at8 : Int) (t34 : Int) (t35 : Int) (m1_0 : Int) (m1_1 : Int) (m1_2 : List Int) (K : KT ρ) : f64i N f64c35 .n (f64s8 num3 den4 out5 piece7 at8 t34 t35 m1_0 m1_1 m1_2) (joinK (some f64l9) K) =
  impl_factors.Z35 N num3 den4 out5 piece7 at8 t34 t35 m1_0 m1_1 m1_2 (fun num3 den4 out5 piece7 at8 i9 t34 t35 m1_0 m1_1 m1_2 => K .nrm (f64s9 num3 den4 out5 piece7 at8 i9 t34 t35 m1_0 m1_1 m1_2)) := by kernel_rfl
noncomputable def f64c37 := codeAt (bodyOf Try.f64) [1,1,1,0,1,0,0,1,1,0,0,1,1,1,1,0,1,0,0,1,0,0,1,0]
theorem f64t37 {ρ : Type} (N : Nat) (num3 : List Int) (den4 : List Int) (out5 : List Int) (piece7 : List Int) (at8 : Int) (i9 : Int) (t34 : Int) (t35 : Int) (m1_0 : Int) (m1_1 : Int) (m1_2 : List Int) (K : KT ρ) : f64i N f64c37 .n (f64s9 num3 den4 out5 piece7 at8 i9 t34 t35 m1_0 m1_1 m1_2) (joinK (some f64l10) K) =
  impl_factors.Z37 N num3 den4 out5 piece7 at8 i9 t34 t35 m1_0 m1_1 m1_2 (fun num3 den4 out5 piece7 at8 i9 t34 t35 t62 t63 m1_0 m1_1 m1_2 => K .nrm (f64s10 num3 den4 out5 piece7 at8 i9 t34 t35 t62 t63 m1_0 m1_1 m1_2)) := by kernel_rfl
noncomputable def f64c41 := codeAt (bodyOf Try.f64) [1,1,1,0,1,0,0,1,1,0,0,1,1,1,1,0,1,0,0,1,0,0,1,1,0,0,0]
theorem f64t41 {ρ : Type} (N : Nat) (num3 : List Int) (den4 : List Int) (out5 : List Int) (piece7 : List Int) (at8 : Int) (i9 : Int) (t34 : Int) (t35 : Int) (t62 : Int) (t63 : Int) (m1_0 : Int) (m1_1 : Int) (m1_2 : List Int) (K : KT ρ) : f64i N f64c41 .n (f64s10 num3 den4 out5 piece7 at8 i9 t34 t35 t62 t63 m1_0 m1_1 m1_2) (joinK (some f64l11) K) =
  impl_factors.Z41 N num3 den4 out5 piece7 at8 i9 t34 t35 t62 t63 m1_0 m1_1 m1_2 (fun num3 den4 out5 piece7 at8 i9 t34 t35 t62 t63 t64 m1_0 m1_1 m1_2 => K .nrm (f64s11 num3 den4 out5 piece7 at8 i9 t34 t35 t62 t63 t64 m1_0 m1_1 m1_2)) := by kernel_rfl
noncomputable def f64c43 := codeAt (bodyOf Try.f64) [1,1,1,0,1,0,0,1,1,0,0,1,1,1,1,0,1,0,0,1,0,0,1,1,0,0,1,0]
theorem f64t43 {ρ : Type} (N : Nat) (num3 : List Int) (den4 : List Int) (out5 : List Int) (piece7 : List Int) (at8 : Int) (i9 : Int) (t34 : Int) (t35 : Int) (t62 : Int) (t63 : Int) (t64 : Bool) (m1_0 : Int) (m1_1 : Int) (m1_2 : List Int) (K : KT ρ) : f64i N f64c43 .n (f64s11 num3 den4 out5 piece7 at8 i9 t34 t35 t62 t63 t64 m1_0 m1_1 m1_2) (joinK (some f64l10) K) =
  impl_factors.Z43 N num3 den4 out5 piece7 at8 i9 t34 t35 t62 t63 t64 m1_0 m1_1 m1_2 (fun num3 den4 out5 piece7 at8 i9 t34 t35 t62 t63 m1_0 m1_1 m1_2 => K .nrm (f64s10 num3 den4 out5 piece7 at8 i9 t34 t35 t62 t63 m1_0 m1_1 m1_2)) (fun num3 den4 out5 piece7 at8 t34 t35 m1_0 m1_1 m1_2 => K (.exit 4) (f64s8 num3 den4 out5 piece7 at8 t34 t35 m1_0 m1_1 m1_2)) := by kernel_rfl
noncomputable def f64c47 := codeAt (bodyOf Try.f64) [1,1,1,0,1,0,0,1,1,0,0,1,1,1,1,0,1,0,0,1,0,0,1,1,0,0,1,1,0,0,0]
theorem f64t47 {ρ : Type} (N : Nat) (num3 : List Int) (den4 : List Int) (out5 : List Int) (piece7 : List Int) (at8 : Int) (i9 : Int) (t34 : Int) (t35 : Int) (t62 : Int) (t63 : Int) (m1_0 : Int) (m1_1 : Int) (m1_2 : List Int) (K : KT ρ) : f64i N f64c47 .n (f64s10 num3 den4 out5 piece7 at8 i9 t34 t35 t62 t63 m1_0 m1_1 m1_2) (joinK (some f64l12) K) =
  impl_factors.Z47 N num3 den4 out5 piece7 at8 i9 t34 t35 t62 t63 m1_0 m1_1 m1_2 (fun num3 den4 out5 piece7 at8 i9 j10 t34 t35 t62 t63 m1_0 m1_1 m1_2 => K .nrm (f64s12 num3 den4 out5 piece7 at8 i9 j10 t34 t35 t62 t63 m1_0 m1_1 m1_2)) := by kernel_rfl
noncomputable def f64c49 := codeAt (bodyOf Try.f64) [1,1,1,0,1,0,0,1,1,0,0,1,1,1,1,0,1,0,0,1,0,0,1,1,0,0,1,1,0,0,1,0]
theorem f64t49 {ρ : Type} (N : Nat) (num3 : List Int) (den4 : List Int) (out5 : List Int) (piece7 : List Int) (at8 : Int) (i9 : Int) (j10 : Int) (t34 : Int) (t35 : Int) (t62 : Int) (t63 : Int) (m1_0 : Int) (m1_1 : Int) (m1_2 : List Int) (K : KT ρ) : f64i N f64c49 .n (f64s12 num3 den4 out5 piece7 at8 i9 j10 t34 t35 t62 t63 m1_0 m1_1 m1_2) (joinK (some f64l13) K) =
  impl_factors.Z49 N num3 den4 out5 piece7 at8 i9 j10 t34 t35 t62 t63 m1_0 m1_1 m1_2 (fun num3 den4 out5 piece7 at8 i9 j10 p11 q12 t34 t35 t62 t63 m1_0 m1_1 m1_2 => K .nrm (f64s13 num3 den4 out5 piece7 at8 i9 j10 p11 q12 t34 t35 t62 t63 m1_0 m1_1 m1_2)) := by kernel_rfl
noncomputable def f64c51 := codeAt (bodyOf Try.f64) [1,1,1,0,1,0,0,1,1,0,0,1,1,1,1,0,1,0,0,1,0,0,1,1,0,0,1,1,0,0,1,1,0]
theorem f64t51 {ρ : Type} (N : Nat) (num3 : List Int) (den4 : List Int) (out5 : List Int) (piece7 : List Int) (at8 : Int) (i9 : Int) (j10 : Int) (p11 : Int) (q12 : Int) (t34 : Int) (t35 : Int) (t62 : Int) (t63 : Int) (m1_0 : Int) (m1_1 : Int) (m1_2 : List Int) (K : KT ρ) : f64i N f64c51 .n (f64s13 num3 den4 out5 piece7 at8 i9 j10 p11 q12 t34 t35 t62 t63 m1_0 m1_1 m1_2) (joinK (some f64l13) K) =
  impl_factors.Z51 N num3 den4 out5 piece7 at8 i9 j10 p11 q12 t34 t35 t62 t63 m1_0 m1_1 m1_2 (fun num3 den4 out5 piece7 at8 i9 j10 p11 q12 t34 t35 t62 t63 m1_0 m1_1 m1_2 => K .nrm (f64s13 num3 den4 out5 piece7 at8 i9 j10 p11 q12 t34 t35 t62 t63 m1_0 m1_1 m1_2)) (fun num3 den4 out5 piece7 at8 i9 t34 t35 t62 t63 m1_0 m1_1 m1_2 => K (.exit 5) (f64s10 num3 den4 out5 piece7 at8 i9 t34 t35 t62 t63 m1_0 m1_1 m1_2)) := by kernel_rfl
noncomputable def f64c52 := codeAt (bodyOf Try.f64) [1,1,1,0,1,0,0,1,1,0,0,1,1,1,1,0,1,0,0,1,0,0,1,1,0,0,1,1,0,0,1,1,1]
theorem f64t52 {ρ : Type} (N : Nat) (num3 : List Int) (den4 : List Int) (out5 : List Int) (piece7 : List Int) (at8 : Int) (i9 : Int) (j10 : Int) (p11 : Int) (q12 : Int) (t34 : Int) (t35 : Int) (t62 : Int) (t63 : Int) (m1_0 : Int) (m1_1 : Int) (m1_2 : List Int) (K : KT ρ) : f64i N f64c52 .n (f64s13 num3 den4 out5 piece7 at8 i9 j10 p11 q12 t34 t35 t62 t63 m1_0 m1_1 m1_2) (joinK (some f64l10) K) =
  impl_factors.Z52 N num3 den4 out5 piece7 at8 i9 j10 p11 q12 t34 t35 t62 t63 m1_0 m1_1 m1_2 (fun num3 den4 out5 piece7 at8 i9 t34 t35 t62 t63 m1_0 m1_1 m1_2 => K .nrm (f64s10 num3 den4 out5 piece7 at8 i9 t34 t35 t62 t63 m1_0 m1_1 m1_2)) (fun t2 => K .ret (f64s21 t2)) := by kernel_rfl
noncomputable def f64c50 := codeAt (bodyOf Try.f64) [1,1,1,0,1,0,0,1,1,0,0,1,1,1,1,0,1,0,0,1,0,0,1,1,0,0,1,1,0,0,1,1]
noncomputable def f64p50 : Plan := .mk (some f64l13) none .n .n
theorem f64t50 {ρ : Type} (N : Nat) (num3 : List Int) (den4 : List Int) (out5 : List Int) (piece7 : List Int) (at8 : Int) (i9 : Int) (j10 : Int) (p11 : Int) (q12 : Int) (t34 : Int) (t35 : Int) (t62 : Int) (t63 : Int) (m1_0 : Int) (m1_1 : Int) (m1_2 : List Int) (K : KT ρ) : f64i N f64c50 f64p50 (f64s13 num3 den4 out5 piece7 at8 i9 j10 p11 q12 t34 t35 t62 t63 m1_0 m1_1 m1_2) (joinK (some f64l10) K) =
  impl_factors.Z50 N num3 den4 out5 piece7 at8 i9 j10 p11 q12 t34 t35 t62 t63 m1_0 m1_1 m1_2 (fun num3 den4 out5 piece7 at8 i9 t34 t35 t62 t63 m1_0 m1_1 m1_2 => K .nrm (f64s10 num3 den4 out5 piece7 at8 i9 t34 t35 t62 t63 m1_0 m1_1 m1_2)) (fun num3 den4 out5 piece7 at8 i9 t34 t35 t62 t63 m1_0 m1_1 m1_2 => K (.exit 5) (f64s10 num3 den4 out5 piece7 at8 i9 t34 t35 t62 t63 m1_0 m1_1 m1_2)) (fun t2 => K .ret (f64s21 t2)) :=
  viaSeq (fun k => impl_factors.Z51 N num3 den4 out5 piece7 at8 i9 j10 p11 q12 t34 t35 t62 t63 m1_0 m1_1 m1_2 k (fun num3 den4 out5 piece7 at8 i9 t34 t35 t62 t63 m1_0 m1_1 m1_2 => K (.exit 5) (f64s10 num3 den4 out5 piece7 at8 i9 t34 t35 t62 t63 m1_0 m1_1 m1_2))) (by kernel_rfl) (by kernel_rfl) (f64t51 N num3 den4 out5 piece7 at8 i9 j10 p11 q12 t34 t35 t62 t63 m1_0 m1_1 m1_2 (seqK (fun σ => f64i N f64c52 .n σ (joinK (some f64l10) K)) (joinK (some f64l10) K))) (funext fun num3 => funext fun den4 => funext fun out5 => funext fun piece7 => funext fun at8 => funext fun i9 => funext fun j10 => funext fun p11 => funext fun q12 => funext fun t34 => funext fun t35 => funext fun t62 => funext fun t63 => funext fun m1_0 => funext fun m1_1 => funext fun m1_2 => f64t52 N num3 den4 out5 piece7 at8 i9 j10 p11 q12 t34 t35 t62 t63 m1_0 m1_1 m1_2 K) (by kernel_rfl) (by kernel_rfl)
noncomputable def f64c48 := codeAt (bodyOf Try.f64) [1,1,1,0,1,0,0,1,1,0,0,1,1,1,1,0,1,0,0,1,0,0,1,1,0,0,1,1,0,0,1]
noncomputable def f64p48 : Plan := .mk (some f64l13) none .n f64p50
theorem f64t48 {ρ : Type} (N : Nat) (num3 : List Int) (den4 : List Int) (out5 : List Int) (piece7 : List Int) (at8 : Int) (i9 : Int) (j10 : Int) (t34 : Int) (t35 : Int) (t62 : Int) (t63 : Int) (m1_0 : Int) (m1_1 : Int) (m1_2 : List Int) (K : KT ρ) : f64i N f64c48 f64p48 (f64s12 num3 den4 out5 piece7 at8 i9 j10 t34 t35 t62 t63 m1_0 m1_1 m1_2) (joinK (some f64l10) K) =
  impl_factors.Z48 N num3 den4 out5 piece7 at8 i9 j10 t34 t35 t62 t63 m1_0 m1_1 m1_2 (fun num3 den4 out5 piece7 at8 i9 t34 t35 t62 t63 m1_0 m1_1 m1_2 => K .nrm (f64s10 num3 den4 out5 piece7 at8 i9 t34 t35 t62 t63 m1_0 m1_1 m1_2)) (fun num3 den4 out5 piece7 at8 i9 t34 t35 t62 t63 m1_0 m1_1 m1_2 => K (.exit 5) (f64s10 num3 den4 out5 piece7 at8 i9 t34 t35 t62 t63 m1_0 m1_1 m1_2)) (fun t2 => K .ret (f64s21 t2)) :=
  viaSeq (fun k => impl_factors.Z49 N num3 den4 out5 piece7 at8 i9 j10 t34 t35 t62 t63 m1_0 m1_1 m1_2 k) (by kernel_rfl) (by kernel_rfl) (f64t49 N num3 den4 out5 piece7 at8 i9 j10 t34 t35 t62 t63 m1_0 m1_1 m1_2 (seqK (fun σ => f64i N f64c50 f64p50 σ (joinK (some f64l10) K)) (joinK (some f64l10) K))) (funext fun num3 => funext fun den4 => funext fun out5 => funext fun piece7 => funext fun at8 => funext fun i9 => funext fun j10 => funext fun p11 => funext fun q12 => funext fun t34 => funext fun t35 => funext fun t62 => funext fun t63 => funext fun m1_0 => funext fun m1_1 => funext fun m1_2 => f64t50 N num3 den4 out5 piece7 at8 i9 j10 p11 q12 t34 t35 t62 t63 m1_0 m1_1 m1_2 K) (by kernel_rfl) (by kernel_rfl)
noncomputable def f64c46 := codeAt (bodyOf Try.f64) [1,1,1,0,1,0,0,1,1,0,0,1,1,1,1,0,1,0,0,1,0,0,1,1,0,0,1,1,0,0]
noncomputable def f64p46 : Plan := .mk (some f64l12) none .n f64p48
theorem f64t46 {ρ : Type} (N : Nat) (num3 : List Int) (den4 : List Int) (out5 : List Int) (piece7 : List Int) (at8 : Int) (i9 : Int) (t34 : Int) (t35 : Int) (t62 : Int) (t63 : Int) (m1_0 : Int) (m1_1 : Int) (m1_2 : List Int) (K : KT ρ) : f64i N f64c46 f64p46 (f64s10 num3 den4 out5 piece7 at8 i9 t34 t35 t62 t63 m1_0 m1_1 m1_2) (joinK (some f64l10) K) =
  impl_factors.Z46 N num3 den4 out5 piece7 at8 i9 t34 t35 t62 t63 m1_0 m1_1 m1_2 (fun num3 den4 out5 piece7 at8 i9 t34 t35 t62 t63 m1_0 m1_1 m1_2 => K .nrm (f64s10 num3 den4 out5 piece7 at8 i9 t34 t35 t62 t63 m1_0 m1_1 m1_2)) (fun num3 den4 out5 piece7 at8 i9 t34 t35 t62 t63 m1_0 m1_1 m1_2 => K (.exit 5) (f64s10 num3 den4 out5 piece7 at8 i9 t34 t35 t62 t63 m1_0 m1_1 m1_2)) (fun t2 => K .ret (f64s21 t2)) :=
  viaSeq (fun k => impl_factors.Z47 N num3 den4 out5 piece7 at8 i9 t34 t35 t62 t63 m1_0 m1_1 m1_2 k) (by kernel_rfl) (by kernel_rfl) (f64t47 N num3 den4 out5 piece7 at8 i9 t34 t35 t62 t63 m1_0 m1_1 m1_2 (seqK (fun σ => f64i N f64c48 f64p48 σ (joinK (some f64l10) K)) (joinK (some f64l10) K))) (funext fun num3 => funext fun den4 => funext fun out5 => funext fun piece7 => funext fun at8 => funext fun i9 => funext fun j10 => funext fun t34 => funext fun t35 => funext fun t62 => funext fun t63 => funext fun m1_0 => funext fun m1_1 => funext fun m1_2 => f64t48 N num3 den4 out5 piece7 at8 i9 j10 t34 t35 t62 t63 m1_0 m1_1 m1_2 K) (by kernel_rfl) (by kernel_rfl)
noncomputable def f64c45 := codeAt (bodyOf Try.f64) [1,1,1,0,1,0,0,1,1,0,0,1,1,1,1,0,1,0,0,1,0,0,1,1,0,0,1,1,0]
noncomputable def f64p45 : Plan := .mk (some f64l10) none f64p46 .n
theorem f64t45 {ρ : Type} (N : Nat) (num3 : List Int) (den4 : List Int) (out5 : List Int) (piece7 : List Int) (at8 : Int) (i9 : Int) (t34 : Int) (t35 : Int) (t62 : Int) (t63 : Int) (m1_0 : Int) (m1_1 : Int) (m1_2 : List Int) (K : KT ρ) : f64i N f64c45 f64p45 (f64s10 num3 den4 out5 piece7 at8 i9 t34 t35 t62 t63 m1_0 m1_1 m1_2) (joinK (some f64l10) K) =
  impl_factors.Z45 N num3 den4 out5 piece7 at8 i9 t34 t35 t62 t63 m1_0 m1_1 m1_2 (fun num3 den4 out5 piece7 at8 i9 t34 t35 t62 t63 m1_0 m1_1 m1_2 => K .nrm (f64s10 num3 den4 out5 piece7 at8 i9 t34 t35 t62 t63 m1_0 m1_1 m1_2)) (fun t2 => K .ret (f64s21 t2)) :=
  viaBlock (by kernel_rfl) (by kernel_rfl) (f64t46 N num3 den4 out5 piece7 at8 i9 t34 t35 t62 t63 m1_0 m1_1 m1_2 (blockK 5 (joinK (some f64l10) K))) (by kernel_rfl)
noncomputable def f64c53 := codeAt (bodyOf Try.f64) [1,1,1,0,1,0,0,1,1,0,0,1,1,1,1,0,1,0,0,1,0,0,1,1,0,0,1,1,1]
theorem f64t53 {ρ : Type} (N : Nat) (num3 : List Int) (den4 : List Int) (out5 : List Int) (piece7 : List Int) (at8 : Int) (i9 : Int) (t34 : Int) (t35 : Int) (t62 : Int) (t63 : Int) (m1_0 : Int) (m1_1 : Int) (m1_2 : List Int) (K : KT ρ) : f64i N f64c53 .n (f64s10 num3 den4 out5 piece7 at8 i9 t34 t35 t62 t63 m1_0 m1_1 m1_2) (joinK (some f64l10) K) =
  impl_factors.Z53 N num3 den4 out5 piece7 at8 i9 t34 t35 t62 t63 m1_0 m1_1 m1_2 (fun num3 den4 out5 piece7 at8 i9 t34 t35 t62 t63 m1_0 m1_1 m1_2 => K .nrm (f64s10 num3 den4 out5 piece7 at8 i9 t34 t35 t62 t63 m1_0 m1_1 m1_2)) := by kernel_rfl
noncomputable def f64c44 := codeAt (bodyOf Try.f64) [1,1,1,0,1,0,0,1,1,0,0,1,1,1,1,0,1,0,0,1,0,0,1,1,0,0,1,1]
noncomputable def f64p44 : Plan := .mk (some f64l10) none f64p45 .n
theorem f64t44 {ρ : Type} (N : Nat) (num3 : List Int) (den4 : List Int) (out5 : List Int) (piece7 : List Int) (at8 : Int) (i9 : Int) (t34 : Int) (t35 : Int) (t62 : Int) (t63 : Int) (m1_0 : Int) (m1_1 : Int) (m1_2 : List Int) (K : KT ρ) : f64i N f64c44 f64p44 (f64s10 num3 den4 out5 piece7 at8 i9 t34 t35 t62 t63 m1_0 m1_1 m1_2) (joinK (some f64l10) K) =
  impl_factors.Z44 N num3 den4 out5 piece7 at8 i9 t34 t35 t62 t63 m1_0 m1_1 m1_2 (fun num3 den4 out5 piece7 at8 i9 t34 t35 t62 t63 m1_0 m1_1 m1_2 => K .nrm (f64s10 num3 den4 out5 piece7 at8 i9 t34 t35 t62 t63 m1_0 m1_1 m1_2)) (fun t2 => K .ret (f64s21 t2)) :=
  viaSeq (fun k => impl_factors.Z45 N num3 den4 out5 piece7 at8 i9 t34 t35 t62 t63 m1_0 m1_1 m1_2 k (fun t2 => K .ret (f64s21 t2))) (by kernel_rfl) (by kernel_rfl) (f64t45 N num3 den4 out5 piece7 at8 i9 t34 t35 t62 t63 m1_0 m1_1 m1_2 (seqK (fun σ => f64i N f64c53 .n σ (joinK (some f64l10) K)) (joinK (some f64l10) K))) (funext fun num3 => funext fun den4 => funext fun out5 => funext fun piece7 => funext fun at8 => funext fun i9 => funext fun t34 => funext fun t35 => funext fun t62 => funext fun t63 => funext fun m1_0 => funext fun m1_1 => funext fun m1_2 => f64t53 N num3 den4 out5 piece7 at8 i9 t34 t35 t62 t63 m1_0 m1_1 m1_2 K) (by kernel_rfl) (by kernel_rfl)
noncomputable def f64c42 := codeAt (bodyOf Try.f64) [1,1,1,0,1,0,0,1,1,0,0,1,1,1,1,0,1,0,0,1,0,0,1,1,0,0,1]
noncomputable def f64p42 : Plan := .mk (some f64l10) none .n f64p44
theorem f64t42 {ρ : Type} (N : Nat) (num3 : List Int) (den4 : List Int) (out5 : List Int) (piece7 : List Int) (at8 : Int) (i9 : Int) (t34 : Int) (t35 : Int) (t62 : Int) (t63 : Int) (t64 : Bool) (m1_0 : Int) (m1_1 : Int) (m1_2 : List Int) (K : KT ρ) : f64i N f64c42 f64p42 (f64s11 num3 den4 out5 piece7 at8 i9 t34 t35 t62 t63 t64 m1_0 m1_1 m1_2) (joinK (some f64l10) K) =
  impl_factors.Z42 N num3 den4 out5 piece7 at8 i9 t34 t35 t62 t63 t64 m1_0 m1_1 m1_2 (fun num3 den4 out5 piece7 at8 i9 t34 t35 t62 t63 m1_0 m1_1 m1_2 => K .nrm (f64s10 num3 den4 out5 piece7 at8 i9 t34 t35 t62 t63 m1_0 m1_1 m1_2)) (fun num3 den4 out5 piece7 at8 t34 t35 m1_0 m1_1 m1_2 => K (.exit 4) (f64s8 num3 den4 out5 piece7 at8 t34 t35 m1_0 m1_1 m1_2)) (fun t2 => K .ret (f64s21 t2)) :=
  viaSeq (fun k => impl_factors.Z43 N num3 den4 out5 piece7 at8 i9 t34 t35 t62 t63 t64 m1_0 m1_1 m1_2 k (fun num3 den4 out5 piece7 at8 t34 t35 m1_0 m1_1 m1_2 => K (.exit 4) (f64s8 num3 den4 out5 piece7 at8 t34 t35 m1_0 m1_1 m1_2))) (by kernel_rfl) (by kernel_rfl) (f64t43 N num3 den4 out5 piece7 at8 i9 t34 t35 t62 t63 t64 m1_0 m1_1 m1_2 (seqK (fun σ => f64i N f64c44 f64p44 σ (joinK (some f64l10) K)) (joinK (some f64l10) K))) (funext fun num3 => funext fun den4 => funext fun out5 => funext fun piece7 => funext fun at8 => funext fun i9 => funext fun t34 => funext fun t35 => funext fun t62 => funext fun t63 => funext fun m1_0 => funext fun m1_1 => funext fun m1_2 => f64t44 N num3 den4 out5 piece7 at8 i9 t34 t35 t62 t63 m1_0 m1_1 m1_2 K) (by kernel_rfl) (by kernel_rfl)
noncomputable def f64c40 := codeAt (bodyOf Try.f64) [1,1,1,0,1,0,0,1,1,0,0,1,1,1,1,0,1,0,0,1,0,0,1,1,0,0]
noncomputable def f64p40 : Plan := .mk (some f64l11) none .n f64p42
theorem f64t40 {ρ : Type} (N : Nat) (num3 : List Int) (den4 : List Int) (out5 : List Int) (piece7 : List Int) (at8 : Int) (i9 : Int) (t34 : Int) (t35 : Int) (t62 : Int) (t63 : Int) (m1_0 : Int) (m1_1 : Int) (m1_2 : List Int) (K : KT ρ) : f64i N f64c40 f64p40 (f64s10 num3 den4 out5 piece7 at8 i9 t34 t35 t62 t63 m1_0 m1_1 m1_2) (joinK (some f64l10) K) =
  impl_factors.Z40 N num3 den4 out5 piece7 at8 i9 t34 t35 t62 t63 m1_0 m1_1 m1_2 (fun num3 den4 out5 piece7 at8 i9 t34 t35 t62 t63 m1_0 m1_1 m1_2 => K .nrm (f64s10 num3 den4 out5 piece7 at8 i9 t34 t35 t62 t63 m1_0 m1_1 m1_2)) (fun num3 den4 out5 piece7 at8 t34 t35 m1_0 m1_1 m1_2 => K (.exit 4) (f64s8 num3 den4 out5 piece7 at8 t34 t35 m1_0 m1_1 m1_2)) (fun t2 => K .ret (f64s21 t2)) :=
  viaSeq (fun k => impl_factors.Z41 N num3 den4 out5 piece7 at8 i9 t34 t35 t62 t63 m1_0 m1_1 m1_2 k) (by kernel_rfl) (by kernel_rfl) (f64t41 N num3 den4 out5 piece7 at8 i9 t34 t35 t62 t63 m1_0 m1_1 m1_2 (seqK (fun σ => f64i N f64c42 f64p42 σ (joinK (some f64l10) K)) (joinK (some f64l10) K))) (funext fun num3 => funext fun den4 => funext fun out5 => funext fun piece7 => funext fun at8 => funext fun i9 => funext fun t34 => funext fun t35 => funext fun t62 => funext fun t63 => funext fun t64 => funext fun m1_0 => funext fun m1_1 => funext fun m1_2 => f64t42 N num3 den4 out5 piece7 at8 i9 t34 t35 t62 t63 t64 m1_0 m1_1 m1_2 K) (by kernel_rfl) (by kernel_rfl)
noncomputable def f64c39 := codeAt (bodyOf Try.f64) [1,1,1,0,1,0,0,1,1,0,0,1,1,1,1,0,1,0,0,1,0,0,1,1,0]
noncomputable def f64p39 : Plan := .mk none (some f64l10) f64p40 .n
noncomputable abbrev f64w39 {ρ : Type} (N : Nat) (M : Nat) (σ : St) (K : KT ρ) : Option ρ := loopC (fun σ K => f64i N f64c40 f64p40 σ K) f64l10 M σ K
theorem f64t39L {ρ : Type} (N : Nat) (K : KT ρ) : ∀ (M : Nat) (num3 : List Int) (den4 : List Int) (out5 : List Int) (piece7 : List Int) (at8 : Int) (i9 : Int) (t34 : Int) (t35 : Int) (t62 : Int) (t63 : Int) (m1_0 : Int) (m1_1 : Int) (m1_2 : List Int), f64w39 N M (f64s10 num3 den4 out5 piece7 at8 i9 t34 t35 t62 t63 m1_0 m1_1 m1_2) K =
  impl_factors.Z39L N (fun num3 den4 out5 piece7 at8 t34 t35 m1_0 m1_1 m1_2 => K (.exit 4) (f64s8 num3 den4 out5 piece7 at8 t34 t35 m1_0 m1_1 m1_2)) (fun t2 => K .ret (f64s21 t2)) M num3 den4 out5 piece7 at8 i9 t34 t35 t62 t63 m1_0 m1_1 m1_2
  | 0, _, _, _, _, _, _, _, _, _, _, _, _, _ => rfl
  | M + 1, num3, den4, out5, piece7, at8, i9, t34, t35, t62, t63, m1_0, m1_1, m1_2 => viaRound (fun k => impl_factors.Z40 N num3 den4 out5 piece7 at8 i9 t34 t35 t62 t63 m1_0 m1_1 m1_2 k (fun num3 den4 out5 piece7 at8 t34 t35 m1_0 m1_1 m1_2 => K (.exit 4) (f64s8 num3 den4 out5 piece7 at8 t34 t35 m1_0 m1_1 m1_2)) (fun t2 => K .ret (f64s21 t2))) (f64t40 N num3 den4 out5 piece7 at8 i9 t34 t35 t62 t63 m1_0 m1_1 m1_2 (seqK (fun σ => f64w39 N M σ K) K)) (funext fun num3 => funext fun den4 => funext fun out5 => funext fun piece7 => funext fun at8 => funext fun i9 => funext fun t34 => funext fun t35 => funext fun t62 => funext fun t63 => funext fun m1_0 => funext fun m1_1 => funext fun m1_2 => f64t39L N K M num3 den4 out5 piece7 at8 i9 t34 t35 t62 t63 m1_0 m1_1 m1_2) (by kernel_rfl) (by kernel_rfl)
theorem f64t39 {ρ : Type} (N : Nat) (num3 : List Int) (den4 : List Int) (out5 : List Int) (piece7 : List Int) (at8 : Int) (i9 : Int) (t34 : Int) (t35 : Int) (t62 : Int) (t63 : Int) (m1_0 : Int) (m1_1 : Int) (m1_2 : List Int) (K : KT ρ) : f64i N f64c39 f64p39 (f64s10 num3 den4 out5 piece7 at8 i9 t34 t35 t62 t63 m1_0 m1_1 m1_2) (joinK (some f64l8) K) =
  impl_factors.Z39 N num3 den4 out5 piece7 at8 i9 t34 t35 t62 t63 m1_0 m1_1 m1_2 (fun num3 den4 out5 piece7 at8 t34 t35 m1_0 m1_1 m1_2 => K (.exit 4) (f64s8 num3 den4 out5 piece7 at8 t34 t35 m1_0 m1_1 m1_2)) (fun t2 => K .ret (f64s21 t2)) :=
  viaLoop (by kernel_rfl) (by kernel_rfl) (σ' := f64s10 num3 den4 out5 piece7 at8 i9 t34 t35 t62 t63 m1_0 m1_1 m1_2) (by kernel_rfl) (f64t39L N (joinK (some f64l8) K) N num3 den4 out5 piece7 at8 i9 t34 t35 t62 t63 m1_0 m1_1 m1_2) (by kernel_rfl)
noncomputable def f64c38 := codeAt (bodyOf Try.f64) [1,1,1,0,1,0,0,1,1,0,0,1,1,1,1,0,1,0,0,1,0,0,1,1]
noncomputable def f64p38 : Plan := .mk (some f64l8) none f64p39 .n
theorem f64t38 {ρ : Type} (N : Nat) (num3 : List Int) (den4 : List Int) (out5 : List Int) (piece7 : List Int) (at8 : Int) (i9 : Int) (t34 : Int) (t35 : Int) (t62 : Int) (t63 : Int) (m1_0 : Int) (m1_1 : Int) (m1_2 : List Int) (K : KT ρ) : f64i N f64c38 f64p38 (f64s10 num3 den4 out5 piece7 at8 i9 t34 t35 t62 t63 m1_0 m1_1 m1_2) (joinK (some f64l8) K) =
  impl_factors.Z38 N num3 den4 out5 piece7 at8 i9 t34 t35 t62 t63 m1_0 m1_1 m1_2 (fun num3 den4 out5 piece7 at8 t34 t35 m1_0 m1_1 m1_2 => K .nrm (f64s8 num3 den4 out5 piece7 at8 t34 t35 m1_0 m1_1 m1_2)) (fun t2 => K .ret (f64s21 t2)) :=
  viaBlock (by kernel_rfl) (by kernel_rfl) (f64t39 N num3 den4 out5 piece7 at8 i9 t34 t35 t62 t63 m1_0 m1_1 m1_2 (blockK 4 (joinK (some f64l8) K))) (by kernel_rfl)
noncomputable def f64c36 := codeAt (bodyOf Try.f64) [1,1,1,0,1,0,0,1,1,0,0,1,1,1,1,0,1,0,0,1,0,0,1]
noncomputable def f64p36 : Plan := .mk (some f64l10) none .n f64p38
theorem f64t36 {ρ : Type} (N : Nat) (num3 : List Int) (den4 : List Int) (out5 : List Int) (piece7 : List Int) (at8 : Int) (i9 : Int) (t34 : Int) (t35 : Int) (m1_0 : Int) (m1_1 : Int) (m1_2 : List Int) (K : KT ρ) : f64i N f64c36 f64p36 (f64s9 num3 den4 out5 piece7 at8 i9 t34 t35 m1_0 m1_1 m1_2) (joinK (some f64l8) K) =
  impl_factors.Z36 N num3 den4 out5 piece7 at8 i9 t34 t35 m1_0 m1_1 m1_2 (fun num3 den4 out5 piece7 at8 t34 t35 m1_0 m1_1 m1_2 => K .nrm (f64s8 num3 den4 out5 piece7 at8 t34 t35 m1_0 m1_1 m1_2)) (fun t2 => K .ret (f64s21 t2)) :=
  viaSeq (fun k => impl_factors.Z37 N num3 den4 out5 piece7 at8 i9 t34 t35 m1_0 m1_1 m1_2 k) (by kernel_rfl) (by kernel_rfl) (f64t37 N num3 den4 out5 piece7 at8 i9 t34 t35 m1_0 m1_1 m1_2 (seqK (fun σ => f64i N f64c38 f64p38 σ (joinK (some f64l8) K)) (joinK (some f64l8) K))) (funext fun num3 => funext fun den4 => funext fun out5 => funext fun piece7 => funext fun at8 => funext fun i9 => funext fun t34 => funext fun t35 => funext fun t62 => funext fun t63 => funext fun m1_0 => funext fun m1_1 => funext fun m1_2 => f64t38 N num3 den4 out5 piece7 at8 i9 t34 t35 t62 t63 m1_0 m1_1 m1_2 K) (by kernel_rfl) (by kernel_rfl)
noncomputable def f64c34 := codeAt (bodyOf Try.f64) [1,1,1,0,1,0,0,1,1,0,0,1,1,1,1,0,1,0,0,1,0,0]
noncomputable def f64p34 : Plan := .mk (some f64l9) none .n f64p36
theorem f64t34 {ρ : Type} (N : Nat) (num3 : List Int) (den4 : List Int) (out5 : List Int) (piece7 : List Int) (at8 : Int) (t34 : Int) (t35 : Int) (m1_0 : Int) (m1_1 : Int) (m1_2 : List Int) (K : KT ρ) : f64i N f64c34 f64p34 (f64s8 num3 den4 out5 piece7 at8 t34 t35 m1_0 m1_1 m1_2) (joinK (some f64l8) K) =
  impl_factors.Z34 N num3 den4 out5 piece7 at8 t34 t35 m1_0 m1_1 m1_2 (fun num3 den4 out5 piece7 at8 t34 t35 m1_0 m1_1 m1_2 => K .nrm (f64s8 num3 den4 out5 piece7 at8 t34 t35 m1_0 m1_1 m1_2)) (fun t2 => K .ret (f64s21 t2)) :=
  viaSeq (fun k => impl_factors.Z35 N num3 den4 out5 piece7 at8 t34 t35 m1_0 m1_1 m1_2 k) (by kernel_rfl) (by kernel_rfl) (f64t35 N num3 den4 out5 piece7 at8 t34 t35 m1_0 m1_1 m1_2 (seqK (fun σ => f64i N f64c36 f64p36 σ (joinK (some f64l8) K)) (joinK (some f64l8) K))) (funext fun num3 => funext fun den4 => funext fun out5 => funext fun piece7 => funext fun at8 => funext fun i9 => funext fun t34 => funext fun t35 => funext fun m1_0 => funext fun m1_1 => funext fun m1_2 => f64t36 N num3 den4 out5 piece7 at8 i9 t34 t35 m1_0 m1_1 m1_2 K) (by kernel_rfl) (by kernel_rfl)
noncomputable def f64c33 := codeAt (bodyOf Try.f64) [1,1,1,0,1,0,0,1,1,0,0,1,1,1,1,0,1,0,0,1,0]
noncomputable def f64p33 : Plan := .mk (some f64l8) none f64p34 .n
theorem f64t33 {ρ : Type} (N : Nat) (num3 : List Int) (den4 : List Int) (out5 : List Int) (piece7 : List Int) (at8 : Int) (t34 : Int) (t35 : Int) (m1_0 : Int) (m1_1 : Int) (m1_2 : List Int) (K : KT ρ) : f64i N f64c33 f64p33 (f64s8 num3 den4 out5 piece7 at8 t34 t35 m1_0 m1_1 m1_2) (joinK (some f64l8) K) =
  impl_factors.Z33 N num3 den4 out5 piece7 at8 t34 t35 m1_0 m1_1 m1_2 (fun num3 den4 out5 piece7 at8 t34 t35 m1_0 m1_1 m1_2 => K .nrm (f64s8 num3 den4 out5 piece7 at8 t34 t35 m1_0 m1_1 m1_2)) (fun t2 => K .ret (f64s21 t2)) :=
  viaBlock (by kernel_rfl) (by kernel_rfl) (f64t34 N num3 den4 out5 piece7 at8 t34 t35 m1_0 m1_1 m1_2 (blockK 3 (joinK (some f64l8) K))) (by kernel_rfl)
noncomputable def f64c54 := codeAt (bodyOf Try.f64) [1,1,1,0,1,0,0,1,1,0,0,1,1,1,1,0,1,0,0,1,1]
theorem f64t54 {ρ : Type} (N : Nat) (num3 : List Int) (den4 : List Int) (out5 : List Int) (piece7 : List Int) (at8 : Int) (t34 : Int) (t35 : Int) (m1_0 : Int) (m1_1 : Int) (m1_2 : List Int) (K : KT ρ) : f64i N f64c54 .n (f64s8 num3 den4 out5 piece7 at8 t34 t35 m1_0 m1_1 m1_2) (joinK (some f64l8) K) =
  impl_factors.Z54 N num3 den4 out5 piece7 at8 t34 t35 m1_0 m1_1 m1_2 (fun num3 den4 out5 piece7 at8 t34 t35 m1_0 m1_1 m1_2 => K .nrm (f64s8 num3 den4 out5 piece7 at8 t34 t35 m1_0 m1_1 m1_2)) := by kernel_rfl
noncomputable def f64c32 := codeAt (bodyOf Try.f64) [1,1,1,0,1,0,0,1,1,0,0,1,1,1,1,0,1,0,0,1]
noncomputable def f64p32 : Plan := .mk (some f64l8) none f64p33 .n
theorem f64t32 {ρ : Type} (N : Nat) (num3 : List Int) (den4 : List Int) (out5 : List Int) (piece7 : List Int) (at8 : Int) (t34 : Int) (t35 : Int) (m1_0 : Int) (m1_1 : Int) (m1_2 : List Int) (K : KT ρ) : f64i N f64c32 f64p32 (f64s8 num3 den4 out5 piece7 at8 t34 t35 m1_0 m1_1 m1_2) (joinK (some f64l8) K) =
  impl_factors.Z32 N num3 den4 out5 piece7 at8 t34 t35 m1_0 m1_1 m1_2 (fun num3 den4 out5 piece7 at8 t34 t35 m1_0 m1_1 m1_2 => K .nrm (f64s8 num3 den4 out5 piece7 at8 t34 t35 m1_0 m1_1 m1_2)) (fun t2 => K .ret (f64s21 t2)) :=
  viaSeq (fun k => impl_factors.Z33 N num3 den4 out5 piece7 at8 t34 t35 m1_0 m1_1 m1_2 k (fun t2 => K .ret (f64s21 t2))) (by kernel_rfl) (by kernel_rfl) (f64t33 N num3 den4 out5 piece7 at8 t34 t35 m1_0 m1_1 m1_2 (seqK (fun σ => f64i N f64c54 .n σ (joinK (some f64l8) K)) (joinK (some f64l8) K))) (funext fun num3 => funext fun den4 => funext fun out5 => funext fun piece7 => funext fun at8 => funext fun t34 => funext fun t35 => funext fun m1_0 => funext fun m1_1 => funext fun m1_2 => f64t54 N num3 den4 out5 piece7 at8 t34 t35 m1_0 m1_1 m1_2 K) (by kernel_rfl) (by kernel_rfl)
noncomputable def f64c30 := codeAt (bodyOf Try.f64) [1,1,1,0,1,0,0,1,1,0,0,1,1,1,1,0,1,0,0]
noncomputable def f64p30 : Plan := .mk (some f64l8) none .n f64p32
theorem f64t30 {ρ : Type} (N : Nat) (num3 : List Int) (den4 : List Int) (out5 : List Int) (piece7 : List Int) (at8 : Int) (t34 : Int) (t35 : Int) (m1_0 : Int) (m1_1 : Int) (m1_2 : List Int) (K : KT ρ) : f64i N f64c30 f64p30 (f64s8 num3 den4 out5 piece7 at8 t34 t35 m1_0 m1_1 m1_2) (joinK (some f64l8) K) =
  impl_factors.Z30 N num3 den4 out5 piece7 at8 t34 t35 m1_0 m1_1 m1_2 (fun num3 den4 out5 piece7 at8 t34 t35 m1_0 m1_1 m1_2 => K .nrm (f64s8 num3 den4 out5 piece7 at8 t34 t35 m1_0 m1_1 m1_2)) (fun num3 den4 out5 piece7 t34 t35 m1_0 m1_1 m1_2 => K (.exit 2) (f64s7 num3 den4 out5 piece7 t34 t35 m1_0 m1_1 m1_2)) (fun t2 => K .ret (f64s21 t2)) :=
  viaSeq (fun k => impl_factors.Z31 N num3 den4 out5 piece7 at8 t34 t35 m1_0 m1_1 m1_2 k (fun num3 den4 out5 piece7 t34 t35 m1_0 m1_1 m1_2 => K (.exit 2) (f64s7 num3 den4 out5 piece7 t34 t35 m1_0 m1_1 m1_2))) (by kernel_rfl) (by kernel_rfl) (f64t31 N num3 den4 out5 piece7 at8 t34 t35 m1_0 m1_1 m1_2 (seqK (fun σ => f64i N f64c32 f64p32 σ (joinK (some f64l8) K)) (joinK (some f64l8) K))) (funext fun num3 => funext fun den4 => funext fun out5 => funext fun piece7 => funext fun at8 => funext fun t34 => funext fun t35 => funext fun m1_0 => funext fun m1_1 => funext fun m1_2 => f64t32 N num3 den4 out5 piece7 at8 t34 t35 m1_0 m1_1 m1_2 K) (by kernel_rfl) (by kernel_rfl)
noncomputable def f64c29 := codeAt (bodyOf Try.f64) [1,1,1,0,1,0,0,1,1,0,0,1,1,1,1,0,1,0]
noncomputable def f64p29 : Plan := .mk none (some f64l8) f64p30 .n
noncomputable abbrev f64w29 {ρ : Type} (N : Nat) (M : Nat) (σ : St) (K : KT ρ) : Option ρ := loopC (fun σ K => f64i N f64c30 f64p30 σ K) f64l8 M σ K
theorem f64t29L {ρ : Type} (N : Nat) (K : KT ρ) : ∀ (M : Nat) (num3 : List Int) (den4 : List Int) (out5 : List Int) (piece7 : List Int) (at8 : Int) (t34 : Int) (t35 : Int) (m1_0 : Int) (m1_1 : Int) (m1_2 : List Int), f64w29 N M (f64s8 num3 den4 out5 piece7 at8 t34 t35 m1_0 m1_1 m1_2) K =
  impl_factors.Z29L N (fun num3 den4 out5 piece7 t34 t35 m1_0 m1_1 m1_2 => K (.exit 2) (f64s7 num3 den4 out5 piece7 t34 t35 m1_0 m1_1 m1_2)) (fun t2 => K .ret (f64s21 t2)) M num3 den4 out5 piece7 at8 t34 t35 m1_0 m1_1 m1_2
  | 0, _, _, _, _, _, _, _, _, _, _ => rfl
  | M + 1, num3, den4, out5, piece7, at8, t34, t35, m1_0, m1_1, m1_2 => viaRound (fun k => impl_factors.Z30 N num3 den4 out5 piece7 at8 t34 t35 m1_0 m1_1 m1_2 k (fun num3 den4 out5 piece7 t34 t35 m1_0 m1_1 m1_2 => K (.exit 2) (f64s7 num3 den4 out5 piece7 t34 t35 m1_0 m1_1 m1_2)) (fun t2 => K .ret (f64s21 t2))) (f64t30 N num3 den4 out5 piece7 at8 t34 t35 m1_0 m1_1 m1_2 (seqK (fun σ => f64w29 N M σ K) K)) (funext fun num3 => funext fun den4 => funext fun out5 => funext fun piece7 => funext fun at8 => funext fun t34 => funext fun t35 => funext fun m1_0 => funext fun m1_1 => funext fun m1_2 => f64t29L N K M num3 den4 out5 piece7 at8 t34 t35 m1_0 m1_1 m1_2) (by kernel_rfl) (by kernel_rfl)
theorem f64t29 {ρ : Type} (N : Nat) (num3 : List Int) (den4 : List Int) (out5 : List Int) (piece7 : List Int) (at8 : Int) (t34 : Int) (t35 : Int) (m1_0 : Int) (m1_1 : Int) (m1_2 : List Int) (K : KT ρ) : f64i N f64c29 f64p29 (f64s8 num3 den4 out5 piece7 at8 t34 t35 m1_0 m1_1 m1_2) (joinK (some f64l7) K) =
  impl_factors.Z29 N num3 den4 out5 piece7 at8 t34 t35 m1_0 m1_1 m1_2 (fun num3 den4 out5 piece7 t34 t35 m1_0 m1_1 m1_2 => K (.exit 2) (f64s7 num3 den4 out5 piece7 t34 t35 m1_0 m1_1 m1_2)) (fun t2 => K .ret (f64s21 t2)) :=
  viaLoop (by kernel_rfl) (by kernel_rfl) (σ' := f64s8 num3 den4 out5 piece7 at8 t34 t35 m1_0 m1_1 m1_2) (by kernel_rfl) (f64t29L N (joinK (some f64l7) K) N num3 den4 out5 piece7 at8 t34 t35 m1_0 m1_1 m1_2) (by kernel_rfl)
noncomputable def f64c28 := codeAt (bodyOf Try.f64) [1,1,1,0,1,0,0,1,1,0,0,1,1,1,1,0,1]
noncomputable def f64p28 : Plan := .mk (some f64l7) none f64p29 .n
theorem f64t28 {ρ : Type} (N : Nat) (num3 : List Int) (den4 : List Int) (out5 : List Int) (piece7 : List Int) (at8 : Int) (t34 : Int) (t35 : Int) (m1_0 : Int) (m1_1 : Int) (m1_2 : List Int) (K : KT ρ) : f64i N f64c28 f64p28 (f64s8 num3 den4 out5 piece7 at8 t34 t35 m1_0 m1_1 m1_2) (joinK (some f64l7) K) =
  impl_factors.Z28 N num3 den4 out5 piece7 at8 t34 t35 m1_0 m1_1 m1_2 (fun num3 den4 out5 piece7 t34 t35 m1_0 m1_1 m1_2 => K .nrm (f64s7 num3 den4 out5 piece7 t34 t35 m1_0 m1_1 m1_2)) (fun t2 => K .ret (f64s21 t2)) :=
  viaBlock (by kernel_rfl) (by kernel_rfl) (f64t29 N num3 den4 out5 piece7 at8 t34 t35 m1_0 m1_1 m1_2 (blockK 2 (joinK (some f64l7) K))) (by kernel_rfl)
noncomputable def f64c26 := codeAt (bodyOf Try.f64) [1,1,1,0,1,0,0,1,1,0,0,1,1,1,1,0]
noncomputable def f64p26 : Plan := .mk (some f64l8) none .n f64p28
theorem f64t26 {ρ : Type} (N : Nat) (num3 : List Int) (den4 : List Int) (out5 : List Int) (piece7 : List Int) (t34 : Int) (t35 : Int) (m1_0 : Int) (m1_1 : Int) (m1_2 : List Int) (K : KT ρ) : f64i N f64c26 f64p26 (f64s7 num3 den4 out5 piece7 t34 t35 m1_0 m1_1 m1_2) (joinK (some f64l7) K) =
  impl_factors.Z26 N num3 den4 out5 piece7 t34 t35 m1_0 m1_1 m1_2 (fun num3 den4 out5 piece7 t34 t35 m1_0 m1_1 m1_2 => K .nrm (f64s7 num3 den4 out5 piece7 t34 t35 m1_0 m1_1 m1_2)) (fun t2 => K .ret (f64s21 t2)) :=
  viaSeq (fun k => impl_factors.Z27 N num3 den4 out5 piece7 t34 t35 m1_0 m1_1 m1_2 k) (by kernel_rfl) (by kernel_rfl) (f64t27 N num3 den4 out5 piece7 t34 t35 m1_0 m1_1 m1_2 (seqK (fun σ => f64i N f64c28 f64p28 σ (joinK (some f64l7) K)) (joinK (some f64l7) K))) (funext fun num3 => funext fun den4 => funext fun out5 => funext fun piece7 => funext fun at8 => funext fun t34 => funext fun t35 => funext fun m1_0 => funext fun m1_1 => funext fun m1_2 => f64t28 N num3 den4 out5 piece7 at8 t34 t35 m1_0 m1_1 m1_2 K) (by kernel_rfl) (by kernel_rfl)
noncomputable def f64c56 := codeAt (bodyOf Try.f64) [1,1,1,0,1,0,0,1,1,0,0,1,1,1,1,1,0]
theorem f64t56 {ρ : Type} (N : Nat) (num3 : List Int) (den4 : List Int) (out5 : List Int) (piece7 : List Int) (t34 : Int) (t35 : Int) (m1_0 : Int) (m1_1 : Int) (m1_2 : List Int) (K : KT ρ) : f64i N f64c56 .n (f64s7 num3 den4 out5 piece7 t34 t35 m1_0 m1_1 m1_2) (joinK (some f64l14) K) =
  impl_factors.Z56 N num3 den4 out5 piece7 t34 t35 m1_0 m1_1 m1_2 (fun num3 den4 out5 piece7 common16 t34 t35 m1_0 m1_1 m1_2 => K .nrm (f64s14 num3 den4 out5 piece7 common16 t34 t35 m1_0 m1_1 m1_2)) := by kernel_rfl
noncomputable def f64c59 := codeAt (bodyOf Try.f64) [1,1,1,0,1,0,0,1,1,0,0,1,1,1,1,1,1,0,0]
theorem f64t59 {ρ : Type} (N : Nat) (num3 : List Int) (den4 : List Int) (out5 : List Int) (piece7 : List Int) (common16 : Int) (t34 : Int) (t35 : Int) (m1_0 : Int) (m1_1 : Int) (m1_2 : List Int) (K : KT ρ) : f64i N f64c59 .n (f64s14 num3 den4 out5 piece7 common16 t34 t35 m1_0 m1_1 m1_2) (joinK (some f64l15) K) =
  impl_factors.Z59 N num3 den4 out5 piece7 common16 t34 t35 m1_0 m1_1 m1_2 (fun num3 den4 out5 piece7 common16 t34 t35 t159 t160 m1_0 m1_1 m1_2 => K .nrm (f64s15 num3 den4 out5 piece7 common16 t34 t35 t159 t160 m1_0 m1_1 m1_2)) := by kernel_rfl
noncomputable def f64c62 := codeAt (bodyOf Try.f64) [1,1,1,0,1,0,0,1,1,0,0,1,1,1,1,1,1,0,1,0,0]
theorem f64t62 {ρ : Type} (N : Nat) (num3 : List Int) (den4 : List Int) (out5 : List Int) (piece7 : List Int) (common16 : Int) (t34 : Int) (t35 : Int) (t159 : Int) (t160 : Int) (m1_0 : Int) (m1_1 : Int) (m1_2 : List Int) (K : KT ρ) : f64i N f64c62 .n (f64s15 num3 den4 out5 piece7 common16 t34 t35 t159 t160 m1_0 m1_1 m1_2) (joinK (some f64l15) K) =
  impl_factors.Z62 N num3 den4 out5 piece7 common16 t34 t35 t159 t160 m1_0 m1_1 m1_2 (fun num3 den4 out5 piece7 common16 t34 t35 t159 t160 m1_0 m1_1 m1_2 => K .nrm (f64s15 num3 den4 out5 piece7 common16 t34 t35 t159 t160 m1_0 m1_1 m1_2)) (fun num3 den4 out5 piece7 common16 t34 t35 m1_0 m1_1 m1_2 => K (.exit 6) (f64s14 num3 den4 out5 piece7 common16 t34 t35 m1_0 m1_1 m1_2)) := by kernel_rfl
noncomputable def f64c61 := codeAt (bodyOf Try.f64) [1,1,1,0,1,0,0,1,1,0,0,1,1,1,1,1,1,0,1,0]
noncomputable def f64p61 : Plan := .mk none (some f64l15) .n .n
noncomputable abbrev f64w61 {ρ : Type} (N : Nat) (M : Nat) (σ : St) (K : KT ρ) : Option ρ := loopC (fun σ K => f64i N f64c62 .n σ K) f64l15 M σ K
theorem f64t61L {ρ : Type} (N : Nat) (K : KT ρ) : ∀ (M : Nat) (num3 : List Int) (den4 : List Int) (out5 : List Int) (piece7 : List Int) (common16 : Int) (t34 : Int) (t35 : Int) (t159 : Int) (t160 : Int) (m1_0 : Int) (m1_1 : Int) (m1_2 : List Int), f64w61 N M (f64s15 num3 den4 out5 piece7 common16 t34 t35 t159 t160 m1_0 m1_1 m1_2) K =
  impl_factors.Z61L N (fun num3 den4 out5 piece7 common16 t34 t35 m1_0 m1_1 m1_2 => K (.exit 6) (f64s14 num3 den4 out5 piece7 common16 t34 t35 m1_0 m1_1 m1_2)) M num3 den4 out5 piece7 common16 t34 t35 t159 t160 m1_0 m1_1 m1_2
  | 0, _, _, _, _, _, _, _, _, _, _, _, _ => rfl
  | M + 1, num3, den4, out5, piece7, common16, t34, t35, t159, t160, m1_0, m1_1, m1_2 => viaRound (fun k => impl_factors.Z62 N num3 den4 out5 piece7 common16 t34 t35 t159 t160 m1_0 m1_1 m1_2 k (fun num3 den4 out5 piece7 common16 t34 t35 m1_0 m1_1 m1_2 => K (.exit 6) (f64s14 num3 den4 out5 piece7 common16 t34 t35 m1_0 m1_1 m1_2))) (f64t62 N num3 den4 out5 piece7 common16 t34 t35 t159 t160 m1_0 m1_1 m1_2 (seqK (fun σ => f64w61 N M σ K) K)) (funext fun num3 => funext fun den4 => funext fun out5 => funext fun piece7 => funext fun common16 => funext fun t34 => funext fun t35 => funext fun t159 => funext fun t160 => funext fun m1_0 => funext fun m1_1 => funext fun m1_2 => f64t61L N K M num3 den4 out5 piece7 common16 t34 t35 t159 t160 m1_0 m1_1 m1_2) (by kernel_rfl) (by kernel_rfl)
theorem f64t61 {ρ : Type} (N : Nat) (num3 : List Int) (den4 : List Int) (out5 : List Int) (piece7 : List Int) (common16 : Int) (t34 : Int) (t35 : Int) (t159 : Int) (t160 : Int) (m1_0 : Int) (m1_1 : Int) (m1_2 : List Int) (K : KT ρ) : f64i N f64c61 f64p61 (f64s15 num3 den4 out5 piece7 common16 t34 t35 t159 t160 m1_0 m1_1 m1_2) (joinK (some f64l14) K) =
  impl_factors.Z61 N num3 den4 out5 piece7 common16 t34 t35 t159 t160 m1_0 m1_1 m1_2 (fun num3 den4 out5 piece7 common16 t34 t35 m1_0 m1_1 m1_2 => K (.exit 6) (f64s14 num3 den4 out5 piece7 common16 t34 t35 m1_0 m1_1 m1_2)) :=
  viaLoop (by kernel_rfl) (by kernel_rfl) (σ' := f64s15 num3 den4 out5 piece7 common16 t34 t35 t159 t160 m1_0 m1_1 m1_2) (by kernel_rfl) (f64t61L N (joinK (some f64l14) K) N num3 den4 out5 piece7 common16 t34 t35 t159 t160 m1_0 m1_1 m1_2) (by kernel_rfl)
noncomputable def f64c60 := codeAt (bodyOf Try.f64) [1,1,1,0,1,0,0,1,1,0,0,1,1,1,1,1,1,0,1]
noncomputable def f64p60 : Plan := .mk (some f64l14) none f64p61 .n
theorem f64t60 {ρ : Type} (N : Nat) (num3 : List Int) (den4 : List Int) (out5 : List Int) (piece7 : List Int) (common16 : Int) (t34 : Int) (t35 : Int) (t159 : Int) (t160 : Int) (m1_0 : Int) (m1_1 : Int) (m1_2 : List Int) (K : KT ρ) : f64i N f64c60 f64p60 (f64s15 num3 den4 out5 piece7 common16 t34 t35 t159 t160 m1_0 m1_1 m1_2) (joinK (some f64l14) K) =
  impl_factors.Z60 N num3 den4 out5 piece7 common16 t34 t35 t159 t160 m1_0 m1_1 m1_2 (fun num3 den4 out5 piece7 common16 t34 t35 m1_0 m1_1 m1_2 => K .nrm (f64s14 num3 den4 out5 piece7 common16 t34 t35 m1_0 m1_1 m1_2)) :=
  viaBlock (by kernel_rfl) (by kernel_rfl) (f64t61 N num3 den4 out5 piece7 common16 t34 t35 t159 t160 m1_0 m1_1 m1_2 (blockK 6 (joinK (some f64l14) K))) (by kernel_rfl)
noncomputable def f64c58 := codeAt (bodyOf Try.f64) [1,1,1,0,1,0,0,1,1,0,0,1,1,1,1,1,1,0]
noncomputable def f64p58 : Plan := .mk (some f64l15) none .n f64p60
theorem f64t58 {ρ : Type} (N : Nat) (num3 : List Int) (den4 : List Int) (out5 : List Int) (piece7 : List Int) (common16 : Int) (t34 : Int) (t35 : Int) (m1_0 : Int) (m1_1 : Int) (m1_2 : List Int) (K : KT ρ) : f64i N f64c58 f64p58 (f64s14 num3 den4 out5 piece7 common16 t34 t35 m1_0 m1_1 m1_2) (joinK (some f64l14) K) =
  impl_factors.Z58 N num3 den4 out5 piece7 common16 t34 t35 m1_0 m1_1 m1_2 (fun num3 den4 out5 piece7 common16 t34 t35 m1_0 m1_1 m1_2 => K .nrm (f64s14 num3 den4 out5 piece7 common16 t34 t35 m1_0 m1_1 m1_2)) :=
  viaSeq (fun k => impl_factors.Z59 N num3 den4 out5 piece7 common16 t34 t35 m1_0 m1_1 m1_2 k) (by kernel_rfl) (by kernel_rfl) (f64t59 N num3 den4 out5 piece7 common16 t34 t35 m1_0 m1_1 m1_2 (seqK (fun σ => f64i N f64c60 f64p60 σ (joinK (some f64l14) K)) (joinK (some f64l14) K))) (funext fun num3 => funext fun den4 => funext fun out5 => funext fun piece7 => funext fun common16 => funext fun t34 => funext fun t35 => funext fun t159 => funext fun t160 => funext fun m1_0 => funext fun m1_1 => funext fun m1_2 => f64t60 N num3 den4 out5 piece7 common16 t34 t35 t159 t160 m1_0 m1_1 m1_2 K) (by kernel_rfl) (by kernel_rfl)
noncomputable def f64c64 := codeAt (bodyOf Try.f64) [1,1,1,0,1,0,0,1,1,0,0,1,1,1,1,1,1,1,0]
theorem f64t64 {ρ : Type} (N : Nat) (num3 : List Int) (den4 : List Int) (out5 : List Int) (piece7 : List Int) (common16 : Int) (t34 : Int) (t35 : Int) (m1_0 : Int) (m1_1 : Int) (m1_2 : List Int) (K : KT ρ) : f64i N f64c64 .n (f64s14 num3 den4 out5 piece7 common16 t34 t35 m1_0 m1_1 m1_2) (joinK (some f64l16) K) =
  impl_factors.Z64 N num3 den4 out5 piece7 common16 t34 t35 m1_0 m1_1 m1_2 (fun num3 den4 out5 piece7 common16 g19 t34 t35 m1_0 m1_1 m1_2 => K .nrm (f64s16 num3 den4 out5 piece7 common16 g19 t34 t35 m1_0 m1_1 m1_2)) := by kernel_rfl
noncomputable def f64c67 := codeAt (bodyOf Try.f64) [1,1,1,0,1,0,0,1,1,0,0,1,1,1,1,1,1,1,1,0,0]
theorem f64t67 {ρ : Type} (N : Nat) (num3 : List Int) (den4 : List Int) (out5 : List Int) (piece7 : List Int) (common16 : Int) (g19 : Int) (t34 : Int) (t35 : Int) (m1_0 : Int) (m1_1 : Int) (m1_2 : List Int) (K : KT ρ) : f64i N f64c67 .n (f64s16 num3 den4 out5 piece7 common16 g19 t34 t35 m1_0 m1_1 m1_2) (joinK (some f64l17) K) =
  impl_factors.Z67 N num3 den4 out5 piece7 common16 g19 t34 t35 m1_0 m1_1 m1_2 (fun num3 den4 out5 piece7 common16 g19 t34 t35 t179 t180 m1_0 m1_1 m1_2 => K .nrm (f64s17 num3 den4 out5 piece7 common16 g19 t34 t35 t179 t180 m1_0 m1_1 m1_2)) := by kernel_rfl
noncomputable def f64c70 := codeAt (bodyOf Try.f64) [1,1,1,0,1,0,0,1,1,0,0,1,1,1,1,1,1,1,1,0,1,0,0]
theorem f64t70 {ρ : Type} (N : Nat) (num3 : List Int) (den4 : List Int) (out5 : List Int) (piece7 : List Int) (common16 : Int) (g19 : Int) (t34 : Int) (t35 : Int) (t179 : Int) (t180 : Int) (m1_0 : Int) (m1_1 : Int) (m1_2 : List Int) (K : KT ρ) : f64i N f64c70 .n (f64s17 num3 den4 out5 piece7 common16 g19 t34 t35 t179 t180 m1_0 m1_1 m1_2) (joinK (some f64l17) K) =
  impl_factors.Z70 N num3 den4 out5 piece7 common16 g19 t34 t35 t179 t180 m1_0 m1_1 m1_2 (fun num3 den4 out5 piece7 common16 g19 t34 t35 t179 t180 m1_0 m1_1 m1_2 => K .nrm (f64s17 num3 den4 out5 piece7 common16 g19 t34 t35 t179 t180 m1_0 m1_1 m1_2)) (fun num3 den4 out5 piece7 g19 t34 t35 m1_0 m1_1 m1_2 => K (.exit 8) (f64s18 num3 den4 out5 piece7 g19 t34 t35 m1_0 m1_1 m1_2)) := by kernel_rfl
noncomputable def f64c69 := codeAt (bodyOf Try.f64) [1,1,1,0,1,0,0,1,1,0,0,1,1,1,1,1,1,1,1,0,1,0]
noncomputable def f64p69 : Plan := .mk none (some f64l17) .n .n
noncomputable abbrev f64w69 {ρ : Type} (N : Nat) (M : Nat) (σ : St) (K : KT ρ) : Option ρ := loopC (fun σ K => f64i N f64c70 .n σ K) f64l17 M σ K
theorem f64t69L {ρ : Type} (N : Nat) (K : KT ρ) : ∀ (M : Nat) (num3 : List Int) (den4 : List Int) (out5 : List Int) (piece7 : List Int) (common16 : Int) (g19 : Int) (t34 : Int) (t35 : Int) (t179 : Int) (t180 : Int) (m1_0 : Int) (m1_1 : Int) (m1_2 : List Int), f64w69 N M (f64s17 num3 den4 out5 piece7 common16 g19 t34 t35 t179 t180 m1_0 m1_1 m1_2) K =
  impl_factors.Z69L N (fun num3 den4 out5 piece7 g19 t34 t35 m1_0 m1_1 m1_2 => K (.exit 8) (f64s18 num3 den4 out5 piece7 g19 t34 t35 m1_0 m1_1 m1_2)) M num3 den4 out5 piece7 common16 g19 t34 t35 t179 t180 m1_0 m1_1 m1_2
  | 0, _, _, _, _, _, _, _, _, _, _, _, _, _ => rfl
  | M + 1, num3, den4, out5, piece7, common16, g19, t34, t35, t179, t180, m1_0, m1_1, m1_2 => viaRound (fun k => impl_factors.Z70 N num3 den4 out5 piece7 common16 g19 t34 t35 t179 t180 m1_0 m1_1 m1_2 k (fun num3 den4 out5 piece7 g19 t34 t35 m1_0 m1_1 m1_2 => K (.exit 8) (f64s18 num3 den4 out5 piece7 g19 t34 t35 m1_0 m1_1 m1_2))) (f64t70 N num3 den4 out5 piece7 common16 g19 t34 t35 t179 t180 m1_0 m1_1 m1_2 (seqK (fun σ => f64w69 N M σ K) K)) (funext fun num3 => funext fun den4 => funext fun out5 => funext fun piece7 => funext fun common16 => funext fun g19 => funext fun t34 => funext fun t35 => funext fun t179 => funext fun t180 => funext fun m1_0 => funext fun m1_1 => funext fun m1_2 => f64t69L N K M num3 den4 out5 piece7 common16 g19 t34 t35 t179 t180 m1_0 m1_1 m1_2) (by kernel_rfl) (by kernel_rfl)
theorem f64t69 {ρ : Type} (N : Nat) (num3 : List Int) (den4 : List Int) (out5 : List Int) (piece7 : List Int) (common16 : Int) (g19 : Int) (t34 : Int) (t35 : Int) (t179 : Int) (t180 : Int) (m1_0 : Int) (m1_1 : Int) (m1_2 : List Int) (K : KT ρ) : f64i N f64c69 f64p69 (f64s17 num3 den4 out5 piece7 common16 g19 t34 t35 t179 t180 m1_0 m1_1 m1_2) (joinK (some f64l18) K) =
  impl_factors.Z69 N num3 den4 out5 piece7 common16 g19 t34 t35 t179 t180 m1_0 m1_1 m1_2 (fun num3 den4 out5 piece7 g19 t34 t35 m1_0 m1_1 m1_2 => K (.exit 8) (f64s18 num3 den4 out5 piece7 g19 t34 t35 m1_0 m1_1 m1_2)) :=
  viaLoop (by kernel_rfl) (by kernel_rfl) (σ' := f64s17 num3 den4 out5 piece7 common16 g19 t34 t35 t179 t180 m1_0 m1_1 m1_2) (by kernel_rfl) (f64t69L N (joinK (some f64l18) K) N num3 den4 out5 piece7 common16 g19 t34 t35 t179 t180 m1_0 m1_1 m1_2) (by kernel_rfl)
noncomputable def f64c68 := codeAt (bodyOf Try.f64) [1,1,1,0,1,0,0,1,1,0,0,1,1,1,1,1,1,1,1,0,1]
noncomputable def f64p68 : Plan := .mk (some f64l18) none f64p69 .n
theorem f64t68 {ρ : Type} (N : Nat) (num3 : List Int) (den4 : List Int) (out5 : List Int) (piece7 : List Int) (common16 : Int) (g19 : Int) (t34 : Int) (t35 : Int) (t179 : Int) (t180 : Int) (m1_0 : Int) (m1_1 : Int) (m1_2 : List Int) (K : KT ρ) : f64i N f64c68 f64p68 (f64s17 num3 den4 out5 piece7 common16 g19 t34 t35 t179 t180 m1_0 m1_1 m1_2) (joinK (some f64l18) K) =
  impl_factors.Z68 N num3 den4 out5 piece7 common16 g19 t34 t35 t179 t180 m1_0 m1_1 m1_2 (fun num3 den4 out5 piece7 g19 t34 t35 m1_0 m1_1 m1_2 => K .nrm (f64s18 num3 den4 out5 piece7 g19 t34 t35 m1_0 m1_1 m1_2)) :=
  viaBlock (by kernel_rfl) (by kernel_rfl) (f64t69 N num3 den4 out5 piece7 common16 g19 t34 t35 t179 t180 m1_0 m1_1 m1_2 (blockK 8 (joinK (some f64l18) K))) (by kernel_rfl)
noncomputable def f64c66 := codeAt (bodyOf Try.f64) [1,1,1,0,1,0,0,1,1,0,0,1,1,1,1,1,1,1,1,0]
noncomputable def f64p66 : Plan := .mk (some f64l17) none .n f64p68
theorem f64t66 {ρ : Type} (N : Nat) (num3 : List Int) (den4 : List Int) (out5 : List Int) (piece7 : List Int) (common16 : Int) (g19 : Int) (t34 : Int) (t35 : Int) (m1_0 : Int) (m1_1 : Int) (m1_2 : List Int) (K : KT ρ) : f64i N f64c66 f64p66 (f64s16 num3 den4 out5 piece7 common16 g19 t34 t35 m1_0 m1_1 m1_2) (joinK (some f64l18) K) =
  impl_factors.Z66 N num3 den4 out5 piece7 common16 g19 t34 t35 m1_0 m1_1 m1_2 (fun num3 den4 out5 piece7 g19 t34 t35 m1_0 m1_1 m1_2 => K .nrm (f64s18 num3 den4 out5 piece7 g19 t34 t35 m1_0 m1_1 m1_2)) :=
  viaSeq (fun k => impl_factors.Z67 N num3 den4 out5 piece7 common16 g19 t34 t35 m1_0 m1_1 m1_2 k) (by kernel_rfl) (by kernel_rfl) (f64t67 N num3 den4 out5 piece7 common16 g19 t34 t35 m1_0 m1_1 m1_2 (seqK (fun σ => f64i N f64c68 f64p68 σ (joinK (some f64l18) K)) (joinK (some f64l18) K))) (funext fun num3 => funext fun den4 => funext fun out5 => funext fun piece7 => funext fun common16 => funext fun g19 => funext fun t34 => funext fun t35 => funext fun t179 => funext fun t180 => funext fun m1_0 => funext fun m1_1 => funext fun m1_2 => f64t68 N num3 den4 out5 piece7 common16 g19 t34 t35 t179 t180 m1_0 m1_1 m1_2 K) (by kernel_rfl) (by kernel_rfl)
noncomputable def f64c72 := codeAt (bodyOf Try.f64) [1,1,1,0,1,0,0,1,1,0,0,1,1,1,1,1,1,1,1,1,0]
theorem f64t72 {ρ : Type} (N : Nat) (num3 : List Int) (den4 : List Int) (out5 : List Int) (piece7 : List Int) (g19 : Int) (t34 : Int) (t35 : Int) (m1_0 : Int) (m1_1 : Int) (m1_2 : List Int) (K : KT ρ) : f64i N f64c72 .n (f64s18 num3 den4 out5 piece7 g19 t34 t35 m1_0 m1_1 m1_2) (joinK (some f64l19) K) =
  impl_factors.Z72 N num3 den4 out5 piece7 g19 t34 t35 m1_0 m1_1 m1_2 (fun num3 den4 out5 t205 g19 t34 t35 t206 t207 m1_0 m1_1 m1_2 => K .nrm (f64s19 num3 den4 out5 t205 g19 t34 t35 t206 t207 m1_0 m1_1 m1_2)) := by kernel_rfl
noncomputable def f64c75 := codeAt (bodyOf Try.f64) [1,1,1,0,1,0,0,1,1,0,0,1,1,1,1,1,1,1,1,1,1,0,0]
theorem f64t75 {ρ : Type} (N : Nat) (num3 : List Int) (den4 : List Int) (out5 : List Int) (t205 : List Int) (g19 : Int) (t34 : Int) (t35 : Int) (t206 : Int) (t207 : Int) (m1_0 : Int) (m1_1 : Int) (m1_2 : List Int) (K : KT ρ) : f64i N f64c75 .n (f64s19 num3 den4 out5 t205 g19 t34 t35 t206 t207 m1_0 m1_1 m1_2) (joinK (some f64l19) K) =
  impl_factors.Z75 N num3 den4 out5 t205 g19 t34 t35 t206 t207 m1_0 m1_1 m1_2 (fun num3 den4 out5 t205 g19 t34 t35 t206 t207 m1_0 m1_1 m1_2 => K .nrm (f64s19 num3 den4 out5 t205 g19 t34 t35 t206 t207 m1_0 m1_1 m1_2)) (fun num3 den4 out5 t34 t35 m1_0 m1_1 m1_2 => K (.exit 10) (f64s4 num3 den4 out5 t34 t35 m1_0 m1_1 m1_2)) := by kernel_rfl
noncomputable def f64c74 := codeAt (bodyOf Try.f64) [1,1,1,0,1,0,0,1,1,0,0,1,1,1,1,1,1,1,1,1,1,0]
noncomputable def f64p74 : Plan := .mk none (some f64l19) .n .n
noncomputable abbrev f64w74 {ρ : Type} (N : Nat) (M : Nat) (σ : St) (K : KT ρ) : Option ρ := loopC (fun σ K => f64i N f64c75 .n σ K) f64l19 M σ K
theorem f64t74L {ρ : Type} (N : Nat) (K : KT ρ) : ∀ (M : Nat) (num3 : List Int) (den4 : List Int) (out5 : List Int) (t205 : List Int) (g19 : Int) (t34 : Int) (t35 : Int) (t206 : Int) (t207 : Int) (m1_0 : Int) (m1_1 : Int) (m1_2 : List Int), f64w74 N M (f64s19 num3 den4 out5 t205 g19 t34 t35 t206 t207 m1_0 m1_1 m1_2) K =
  impl_factors.Z74L N (fun num3 den4 out5 t34 t35 m1_0 m1_1 m1_2 => K (.exit 10) (f64s4 num3 den4 out5 t34 t35 m1_0 m1_1 m1_2)) M num3 den4 out5 t205 g19 t34 t35 t206 t207 m1_0 m1_1 m1_2
  | 0, _, _, _, _, _, _, _, _, _, _, _, _ => rfl
  | M + 1, num3, den4, out5, t205, g19, t34, t35, t206, t207, m1_0, m1_1, m1_2 => viaRound (fun k => impl_factors.Z75 N num3 den4 out5 t205 g19 t34 t35 t206 t207 m1_0 m1_1 m1_2 k (fun num3 den4 out5 t34 t35 m1_0 m1_1 m1_2 => K (.exit 10) (f64s4 num3 den4 out5 t34 t35 m1_0 m1_1 m1_2))) (f64t75 N num3 den4 out5 t205 g19 t34 t35 t206 t207 m1_0 m1_1 m1_2 (seqK (fun σ => f64w74 N M σ K) K)) (funext fun num3 => funext fun den4 => funext fun out5 => funext fun t205 => funext fun g19 => funext fun t34 => funext fun t35 => funext fun t206 => funext fun t207 => funext fun m1_0 => funext fun m1_1 => funext fun m1_2 => f64t74L N K M num3 den4 out5 t205 g19 t34 t35 t206 t207 m1_0 m1_1 m1_2) (by kernel_rfl) (by kernel_rfl)
theorem f64t74 {ρ : Type} (N : Nat) (num3 : List Int) (den4 : List Int) (out5 : List Int) (t205 : List Int) (g19 : Int) (t34 : Int) (t35 : Int) (t206 : Int) (t207 : Int) (m1_0 : Int) (m1_1 : Int) (m1_2 : List Int) (K : KT ρ) : f64i N f64c74 f64p74 (f64s19 num3 den4 out5 t205 g19 t34 t35 t206 t207 m1_0 m1_1 m1_2) (joinK (some f64l4) K) =
  impl_factors.Z74 N num3 den4 out5 t205 g19 t34 t35 t206 t207 m1_0 m1_1 m1_2 (fun num3 den4 out5 t34 t35 m1_0 m1_1 m1_2 => K (.exit 10) (f64s4 num3 den4 out5 t34 t35 m1_0 m1_1 m1_2)) :=
  viaLoop (by kernel_rfl) (by kernel_rfl) (σ' := f64s19 num3 den4 out5 t205 g19 t34 t35 t206 t207 m1_0 m1_1 m1_2) (by kernel_rfl) (f64t74L N (joinK (some f64l4) K) N num3 den4 out5 t205 g19 t34 t35 t206 t207 m1_0 m1_1 m1_2) (by kernel_rfl)
noncomputable def f64c73 := codeAt (bodyOf Try.f64) [1,1,1,0,1,0,0,1,1,0,0,1,1,1,1,1,1,1,1,1,1]
noncomputable def f64p73 : Plan := .mk (some f64l4) none f64p74 .n
theorem f64t73 {ρ : Type} (N : Nat) (num3 : List Int) (den4 : List Int) (out5 : List Int) (t205 : List Int) (g19 : Int) (t34 : Int) (t35 : Int) (t206 : Int) (t207 : Int) (m1_0 : Int) (m1_1 : Int) (m1_2 : List Int) (K : KT ρ) : f64i N f64c73 f64p73 (f64s19 num3 den4 out5 t205 g19 t34 t35 t206 t207 m1_0 m1_1 m1_2) (joinK (some f64l4) K) =
  impl_factors.Z73 N num3 den4 out5 t205 g19 t34 t35 t206 t207 m1_0 m1_1 m1_2 (fun num3 den4 out5 t34 t35 m1_0 m1_1 m1_2 => K .nrm (f64s4 num3 den4 out5 t34 t35 m1_0 m1_1 m1_2)) :=
  viaBlock (by kernel_rfl) (by kernel_rfl) (f64t74 N num3 den4 out5 t205 g19 t34 t35 t206 t207 m1_0 m1_1 m1_2 (blockK 10 (joinK (some f64l4) K))) (by kernel_rfl)
noncomputable def f64c71 := codeAt (bodyOf Try.f64) [1,1,1,0,1,0,0,1,1,0,0,1,1,1,1,1,1,1,1,1]
noncomputable def f64p71 : Plan := .mk (some f64l19) none .n f64p73
theorem f64t71 {ρ : Type} (N : Nat) (num3 : List Int) (den4 : List Int) (out5 : List Int) (piece7 : List Int) (g19 : Int) (t34 : Int) (t35 : Int) (m1_0 : Int) (m1_1 : Int) (m1_2 : List Int) (K : KT ρ) : f64i N f64c71 f64p71 (f64s18 num3 den4 out5 piece7 g19 t34 t35 m1_0 m1_1 m1_2) (joinK (some f64l4) K) =
  impl_factors.Z71 N num3 den4 out5 piece7 g19 t34 t35 m1_0 m1_1 m1_2 (fun num3 den4 out5 t34 t35 m1_0 m1_1 m1_2 => K .nrm (f64s4 num3 den4 out5 t34 t35 m1_0 m1_1 m1_2)) :=
  viaSeq (fun k => impl_factors.Z72 N num3 den4 out5 piece7 g19 t34 t35 m1_0 m1_1 m1_2 k) (by kernel_rfl) (by kernel_rfl) (f64t72 N num3 den4 out5 piece7 g19 t34 t35 m1_0 m1_1 m1_2 (seqK (fun σ => f64i N f64c73 f64p73 σ (joinK (some f64l4) K)) (joinK (some f64l4) K))) (funext fun num3 => funext fun den4 => funext fun out5 => funext fun t205 => funext fun g19 => funext fun t34 => funext fun t35 => funext fun t206 => funext fun t207 => funext fun m1_0 => funext fun m1_1 => funext fun m1_2 => f64t73 N num3 den4 out5 t205 g19 t34 t35 t206 t207 m1_0 m1_1 m1_2 K) (by kernel_rfl) (by kernel_rfl)
noncomputable def f64c65 := codeAt (bodyOf Try.f64) [1,1,1,0,1,0,0,1,1,0,0,1,1,1,1,1,1,1,1]
noncomputable def f64p65 : Plan := .mk (some f64l18) none f64p66 f64p71
theorem f64t65 {ρ : Type} (N : Nat) (num3 : List Int) (den4 : List Int) (out5 : List Int) (piece7 : List Int) (common16 : Int) (g19 : Int) (t34 : Int) (t35 : Int) (m1_0 : Int) (m1_1 : Int) (m1_2 : List Int) (K : KT ρ) : f64i N f64c65 f64p65 (f64s16 num3 den4 out5 piece7 common16 g19 t34 t35 m1_0 m1_1 m1_2) (joinK (some f64l4) K) =
  impl_factors.Z65 N num3 den4 out5 piece7 common16 g19 t34 t35 m1_0 m1_1 m1_2 (fun num3 den4 out5 t34 t35 m1_0 m1_1 m1_2 => K .nrm (f64s4 num3 den4 out5 t34 t35 m1_0 m1_1 m1_2)) :=
  viaSeq (fun k => impl_factors.Z66 N num3 den4 out5 piece7 common16 g19 t34 t35 m1_0 m1_1 m1_2 k) (by kernel_rfl) (by kernel_rfl) (f64t66 N num3 den4 out5 piece7 common16 g19 t34 t35 m1_0 m1_1 m1_2 (seqK (fun σ => f64i N f64c71 f64p71 σ (joinK (some f64l4) K)) (joinK (some f64l4) K))) (funext fun num3 => funext fun den4 => funext fun out5 => funext fun piece7 => funext fun g19 => funext fun t34 => funext fun t35 => funext fun m1_0 => funext fun m1_1 => funext fun m1_2 => f64t71 N num3 den4 out5 piece7 g19 t34 t35 m1_0 m1_1 m1_2 K) (by kernel_rfl) (by kernel_rfl)
noncomputable def f64c63 := codeAt (bodyOf Try.f64) [1,1,1,0,1,0,0,1,1,0,0,1,1,1,1,1,1,1]
noncomputable def f64p63 : Plan := .mk (some f64l16) none .n f64p65
theorem f64t63 {ρ : Type} (N : Nat) (num3 : List Int) (den4 : List Int) (out5 : List Int) (piece7 : List Int) (common16 : Int) (t34 : Int) (t35 : Int) (m1_0 : Int) (m1_1 : Int) (m1_2 : List Int) (K : KT ρ) : f64i N f64c63 f64p63 (f64s14 num3 den4 out5 piece7 common16 t34 t35 m1_0 m1_1 m1_2) (joinK (some f64l4) K) =
  impl_factors.Z63 N num3 den4 out5 piece7 common16 t34 t35 m1_0 m1_1 m1_2 (fun num3 den4 out5 t34 t35 m1_0 m1_1 m1_2 => K .nrm (f64s4 num3 den4 out5 t34 t35 m1_0 m1_1 m1_2)) :=
  viaSeq (fun k => impl_factors.Z64 N num3 den4 out5 piece7 common16 t34 t35 m1_0 m1_1 m1_2 k) (by kernel_rfl) (by kernel_rfl) (f64t64 N num3 den4 out5 piece7 common16 t34 t35 m1_0 m1_1 m1_2 (seqK (fun σ => f64i N f64c65 f64p65 σ (joinK (some f64l4) K)) (joinK (some f64l4) K))) (funext fun num3 => funext fun den4 => funext fun out5 => funext fun piece7 => funext fun common16 => funext fun g19 => funext fun t34 => funext fun t35 => funext fun m1_0 => funext fun m1_1 => funext fun m1_2 => f64t65 N num3 den4 out5 piece7 common16 g19 t34 t35 m1_0 m1_1 m1_2 K) (by kernel_rfl) (by kernel_rfl)
noncomputable def f64c57 := codeAt (bodyOf Try.f64) [1,1,1,0,1,0,0,1,1,0,0,1,1,1,1,1,1]
noncomputable def f64p57 : Plan := .mk (some f64l14) none f64p58 f64p63
theorem f64t57 {ρ : Type} (N : Nat) (num3 : List Int) (den4 : List Int) (out5 : List Int) (piece7 : List Int) (common16 : Int) (t34 : Int) (t35 : Int) (m1_0 : Int) (m1_1 : Int) (m1_2 : List Int) (K : KT ρ) : f64i N f64c57 f64p57 (f64s14 num3 den4 out5 piece7 common16 t34 t35 m1_0 m1_1 m1_2) (joinK (some f64l4) K) =
  impl_factors.Z57 N num3 den4 out5 piece7 common16 t34 t35 m1_0 m1_1 m1_2 (fun num3 den4 out5 t34 t35 m1_0 m1_1 m1_2 => K .nrm (f64s4 num3 den4 out5 t34 t35 m1_0 m1_1 m1_2)) :=
  viaSeq (fun k => impl_factors.Z58 N num3 den4 out5 piece7 common16 t34 t35 m1_0 m1_1 m1_2 k) (by kernel_rfl) (by kernel_rfl) (f64t58 N num3 den4 out5 piece7 common16 t34 t35 m1_0 m1_1 m1_2 (seqK (fun σ => f64i N f64c63 f64p63 σ (joinK (some f64l4) K)) (joinK (some f64l4) K))) (funext fun num3 => funext fun den4 => funext fun out5 => funext fun piece7 => funext fun common16 => funext fun t34 => funext fun t35 => funext fun m1_0 => funext fun m1_1 => funext fun m1_2 => f64t63 N num3 den4 out5 piece7 common16 t34 t35 m1_0 m1_1 m1_2 K) (by kernel_rfl) (by kernel_rfl)
noncomputable def f64c55 := codeAt (bodyOf Try.f64) [1,1,1,0,1,0,0,1,1,0,0,1,1,1,1,1]
noncomputable def f64p55 : Plan := .mk (some f64l14) none .n f64p57
theorem f64t55 {ρ : Type} (N : Nat) (num3 : List Int) (den4 : List Int) (out5 : List Int) (piece7 : List Int) (t34 : Int) (t35 : Int) (m1_0 : Int) (m1_1 : Int) (m1_2 : List Int) (K : KT ρ) : f64i N f64c55 f64p55 (f64s7 num3 den4 out5 piece7 t34 t35 m1_0 m1_1 m1_2) (joinK (some f64l4) K) =
  impl_factors.Z55 N num3 den4 out5 piece7 t34 t35 m1_0 m1_1 m1_2 (fun num3 den4 out5 t34 t35 m1_0 m1_1 m1_2 => K .nrm (f64s4 num3 den4 out5 t34 t35 m1_0 m1_1 m1_2)) :=
  viaSeq (fun k => impl_factors.Z56 N num3 den4 out5 piece7 t34 t35 m1_0 m1_1 m1_2 k) (by kernel_rfl) (by kernel_rfl) (f64t56 N num3 den4 out5 piece7 t34 t35 m1_0 m1_1 m1_2 (seqK (fun σ => f64i N f64c57 f64p57 σ (joinK (some f64l4) K)) (joinK (some f64l4) K))) (funext fun num3 => funext fun den4 => funext fun out5 => funext fun piece7 => funext fun common16 => funext fun t34 => funext fun t35 => funext fun m1_0 => funext fun m1_1 => funext fun m1_2 => f64t57 N num3 den4 out5 piece7 common16 t34 t35 m1_0 m1_1 m1_2 K) (by kernel_rfl) (by kernel_rfl)
noncomputable def f64c25 := codeAt (bodyOf Try.f64) [1,1,1,0,1,0,0,1,1,0,0,1,1,1,1]
noncomputable def f64p25 : Plan := .mk (some f64l7) none f64p26 f64p55
theorem f64t25 {ρ : Type} (N : Nat) (num3 : List Int) (den4 : List Int) (out5 : List Int) (piece7 : List Int) (t34 : Int) (t35 : Int) (m1_0 : Int) (m1_1 : Int) (m1_2 : List Int) (K : KT ρ) : f64i N f64c25 f64p25 (f64s7 num3 den4 out5 piece7 t34 t35 m1_0 m1_1 m1_2) (joinK (some f64l4) K) =
  impl_factors.Z25 N num3 den4 out5 piece7 t34 t35 m1_0 m1_1 m1_2 (fun num3 den4 out5 t34 t35 m1_0 m1_1 m1_2 => K .nrm (f64s4 num3 den4 out5 t34 t35 m1_0 m1_1 m1_2)) (fun t2 => K .ret (f64s21 t2)) :=
  viaSeq (fun k => impl_factors.Z26 N num3 den4 out5 piece7 t34 t35 m1_0 m1_1 m1_2 k (fun t2 => K .ret (f64s21 t2))) (by kernel_rfl) (by kernel_rfl) (f64t26 N num3 den4 out5 piece7 t34 t35 m1_0 m1_1 m1_2 (seqK (fun σ => f64i N f64c55 f64p55 σ (joinK (some f64l4) K)) (joinK (some f64l4) K))) (funext fun num3 => funext fun den4 => funext fun out5 => funext fun piece7 => funext fun t34 => funext fun t35 => funext fun m1_0 => funext fun m1_1 => funext fun m1_2 => f64t55 N num3 den4 out5 piece7 t34 t35 m1_0 m1_1 m1_2 K) (by kernel_rfl) (by kernel_rfl)
noncomputable def f64c23 := codeAt (bodyOf Try.f64) [1,1,1,0,1,0,0,1,1,0,0,1,1,1]
noncomputable def f64p23 : Plan := .mk (some f64l7) none .n f64p25
theorem f64t23 {ρ : Type} (N : Nat) (num3 : List Int) (den4 : List Int) (out5 : List Int) (s6 : Int) (t34 : Int) (t35 : Int) (m1_0 : Int) (m1_1 : Int) (m1_2 : List Int) (K : KT ρ) : f64i N f64c23 f64p23 (f64s6 num3 den4 out5 s6 t34 t35 m1_0 m1_1 m1_2) (joinK (some f64l4) K) =
  impl_factors.Z23 N num3 den4 out5 s6 t34 t35 m1_0 m1_1 m1_2 (fun num3 den4 out5 t34 t35 m1_0 m1_1 m1_2 => K .nrm (f64s4 num3 den4 out5 t34 t35 m1_0 m1_1 m1_2)) (fun t2 => K .ret (f64s21 t2)) :=
  viaSeq (fun k => impl_factors.Z24 N num3 den4 out5 s6 t34 t35 m1_0 m1_1 m1_2 k) (by kernel_rfl) (by kernel_rfl) (f64t24 N num3 den4 out5 s6 t34 t35 m1_0 m1_1 m1_2 (seqK (fun σ => f64i N f64c25 f64p25 σ (joinK (some f64l4) K)) (joinK (some f64l4) K))) (funext fun num3 => funext fun den4 => funext fun out5 => funext fun piece7 => funext fun t34 => funext fun t35 => funext fun m1_0 => funext fun m1_1 => funext fun m1_2 => f64t25 N num3 den4 out5 piece7 t34 t35 m1_0 m1_1 m1_2 K) (by kernel_rfl) (by kernel_rfl)
noncomputable def f64c21 := codeAt (bodyOf Try.f64) [1,1,1,0,1,0,0,1,1,0,0,1,1]
noncomputable def f64p21 : Plan := .mk (some f64l6) none .n f64p23
theorem f64t21 {ρ : Type} (N : Nat) (num3 : List Int) (den4 : List Int) (out5 : List Int) (s6 : Int) (t34 : Int) (t35 : Int) (m1_0 : Int) (m1_1 : Int) (m1_2 : List Int) (K : KT ρ) : f64i N f64c21 f64p21 (f64s6 num3 den4 out5 s6 t34 t35 m1_0 m1_1 m1_2) (joinK (some f64l4) K) =
  impl_factors.Z21 N num3 den4 out5 s6 t34 t35 m1_0 m1_1 m1_2 (fun num3 den4 out5 t34 t35 m1_0 m1_1 m1_2 => K .nrm (f64s4 num3 den4 out5 t34 t35 m1_0 m1_1 m1_2)) (fun t2 => K .ret (f64s21 t2)) :=
  viaSeq (fun k => impl_factors.Z22 N num3 den4 out5 s6 t34 t35 m1_0 m1_1 m1_2 k) (by kernel_rfl) (by kernel_rfl) (f64t22 N num3 den4 out5 s6 t34 t35 m1_0 m1_1 m1_2 (seqK (fun σ => f64i N f64c23 f64p23 σ (joinK (some f64l4) K)) (joinK (some f64l4) K))) (funext fun num3 => funext fun den4 => funext fun out5 => funext fun s6 => funext fun t34 => funext fun t35 => funext fun m1_0 => funext fun m1_1 => funext fun m1_2 => f64t23 N num3 den4 out5 s6 t34 t35 m1_0 m1_1 m1_2 K) (by kernel_rfl) (by kernel_rfl)
noncomputable def f64c19 := codeAt (bodyOf Try.f64) [1,1,1,0,1,0,0,1,1,0,0,1]
noncomputable def f64p19 : Plan := .mk (some f64l6) none .n f64p21
theorem f64t19 {ρ : Type} (N : Nat) (num3 : List Int) (den4 : List Int) (out5 : List Int) (s6 : Int) (t34 : Int) (t35 : Int) (m1_0 : Int) (m1_1 : Int) (m1_2 : List Int) (K : KT ρ) : f64i N f64c19 f64p19 (f64s6 num3 den4 out5 s6 t34 t35 m1_0 m1_1 m1_2) (joinK (some f64l4) K) =
  impl_factors.Z19 N num3 den4 out5 s6 t34 t35 m1_0 m1_1 m1_2 (fun num3 den4 out5 t34 t35 m1_0 m1_1 m1_2 => K .nrm (f64s4 num3 den4 out5 t34 t35 m1_0 m1_1 m1_2)) (fun num3 den4 out5 t34 t35 m1_0 m1_1 m1_2 => K (.exit 1) (f64s4 num3 den4 out5 t34 t35 m1_0 m1_1 m1_2)) (fun t2 => K .ret (f64s21 t2)) :=
  viaSeq (fun k => impl_factors.Z20 N num3 den4 out5 s6 t34 t35 m1_0 m1_1 m1_2 k (fun num3 den4 out5 t34 t35 m1_0 m1_1 m1_2 => K (.exit 1) (f64s4 num3 den4 out5 t34 t35 m1_0 m1_1 m1_2))) (by kernel_rfl) (by kernel_rfl) (f64t20 N num3 den4 out5 s6 t34 t35 m1_0 m1_1 m1_2 (seqK (fun σ => f64i N f64c21 f64p21 σ (joinK (some f64l4) K)) (joinK (some f64l4) K))) (funext fun num3 => funext fun den4 => funext fun out5 => funext fun s6 => funext fun t34 => funext fun t35 => funext fun m1_0 => funext fun m1_1 => funext fun m1_2 => f64t21 N num3 den4 out5 s6 t34 t35 m1_0 m1_1 m1_2 K) (by kernel_rfl) (by kernel_rfl)
noncomputable def f64c17 := codeAt (bodyOf Try.f64) [1,1,1,0,1,0,0,1,1,0,0]
noncomputable def f64p17 : Plan := .mk (some f64l6) none .n f64p19
theorem f64t17 {ρ : Type} (N : Nat) (num3 : List Int) (den4 : List Int) (out5 : List Int) (t34 : Int) (t35 : Int) (m1_0 : Int) (m1_1 : Int) (m1_2 : List Int) (K : KT ρ) : f64i N f64c17 f64p17 (f64s4 num3 den4 out5 t34 t35 m1_0 m1_1 m1_2) (joinK (some f64l4) K) =
  impl_factors.Z17 N num3 den4 out5 t34 t35 m1_0 m1_1 m1_2 (fun num3 den4 out5 t34 t35 m1_0 m1_1 m1_2 => K .nrm (f64s4 num3 den4 out5 t34 t35 m1_0 m1_1 m1_2)) (fun num3 den4 out5 t34 t35 m1_0 m1_1 m1_2 => K (.exit 1) (f64s4 num3 den4 out5 t34 t35 m1_0 m1_1 m1_2)) (fun t2 => K .ret (f64s21 t2)) :=
  viaSeq (fun k => impl_factors.Z18 N num3 den4 out5 t34 t35 m1_0 m1_1 m1_2 k) (by kernel_rfl) (by kernel_rfl) (f64t18 N num3 den4 out5 t34 t35 m1_0 m1_1 m1_2 (seqK (fun σ => f64i N f64c19 f64p19 σ (joinK (some f64l4) K)) (joinK (some f64l4) K))) (funext fun num3 => funext fun den4 => funext fun out5 => funext fun s6 => funext fun t34 => funext fun t35 => funext fun m1_0 => funext fun m1_1 => funext fun m1_2 => f64t19 N num3 den4 out5 s6 t34 t35 m1_0 m1_1 m1_2 K) (by kernel_rfl) (by kernel_rfl)
noncomputable def f64c16 := codeAt (bodyOf Try.f64) [1,1,1,0,1,0,0,1,1,0]
noncomputable def f64p16 : Plan := .mk (some f64l4) none f64p17 .n
theorem f64t16 {ρ : Type} (N : Nat) (num3 : List Int) (den4 : List Int) (out5 : List Int) (t34 : Int) (t35 : Int) (m1_0 : Int) (m1_1 : Int) (m1_2 : List Int) (K : KT ρ) : f64i N f64c16 f64p16 (f64s4 num3 den4 out5 t34 t35 m1_0 m1_1 m1_2) (joinK (some f64l4) K) =
  impl_factors.Z16 N num3 den4 out5 t34 t35 m1_0 m1_1 m1_2 (fun num3 den4 out5 t34 t35 m1_0 m1_1 m1_2 => K .nrm (f64s4 num3 den4 out5 t34 t35 m1_0 m1_1 m1_2)) (fun t2 => K .ret (f64s21 t2)) :=
  viaBlock (by kernel_rfl) (by kernel_rfl) (f64t17 N num3 den4 out5 t34 t35 m1_0 m1_1 m1_2 (blockK 1 (joinK (some f64l4) K))) (by kernel_rfl)
noncomputable def f64c76 := codeAt (bodyOf Try.f64) [1,1,1,0,1,0,0,1,1,1]
theorem f64t76 {ρ : Type} (N : Nat) (num3 : List Int) (den4 : List Int) (out5 : List Int) (t34 : Int) (t35 : Int) (m1_0 : Int) (m1_1 : Int) (m1_2 : List Int) (K : KT ρ) : f64i N f64c76 .n (f64s4 num3 den4 out5 t34 t35 m1_0 m1_1 m1_2) (joinK (some f64l4) K) =
  impl_factors.Z76 N num3 den4 out5 t34 t35 m1_0 m1_1 m1_2 (fun num3 den4 out5 t34 t35 m1_0 m1_1 m1_2 => K .nrm (f64s4 num3 den4 out5 t34 t35 m1_0 m1_1 m1_2)) := by kernel_rfl
noncomputable def f64c15 := codeAt (bodyOf Try.f64) [1,1,1,0,1,0,0,1,1]
noncomputable def f64p15 : Plan := .mk (some f64l4) none f64p16 .n
theorem f64t15 {ρ : Type} (N : Nat) (num3 : List Int) (den4 : List Int) (out5 : List Int) (t34 : Int) (t35 : Int) (m1_0 : Int) (m1_1 : Int) (m1_2 : List Int) (K : KT ρ) : f64i N f64c15 f64p15 (f64s4 num3 den4 out5 t34 t35 m1_0 m1_1 m1_2) (joinK (some f64l4) K) =
  impl_factors.Z15 N num3 den4 out5 t34 t35 m1_0 m1_1 m1_2 (fun num3 den4 out5 t34 t35 m1_0 m1_1 m1_2 => K .nrm (f64s4 num3 den4 out5 t34 t35 m1_0 m1_1 m1_2)) (fun t2 => K .ret (f64s21 t2)) :=
  viaSeq (fun k => impl_factors.Z16 N num3 den4 out5 t34 t35 m1_0 m1_1 m1_2 k (fun t2 => K .ret (f64s21 t2))) (by kernel_rfl) (by kernel_rfl) (f64t16 N num3 den4 out5 t34 t35 m1_0 m1_1 m1_2 (seqK (fun σ => f64i N f64c76 .n σ (joinK (some f64l4) K)) (joinK (some f64l4) K))) (funext fun num3 => funext fun den4 => funext fun out5 => funext fun t34 => funext fun t35 => funext fun m1_0 => funext fun m1_1 => funext fun m1_2 => f64t76 N num3 den4 out5 t34 t35 m1_0 m1_1 m1_2 K) (by kernel_rfl) (by kernel_rfl)
noncomputable def f64c13 := codeAt (bodyOf Try.f64) [1,1,1,0,1,0,0,1]
noncomputable def f64p13 : Plan := .mk (some f64l4) none .n f64p15
theorem f64t13 {ρ : Type} (N : Nat) (num3 : List Int) (den4 : List Int) (out5 : List Int) (t34 : Int) (t35 : Int) (t36 : Bool) (m1_0 : Int) (m1_1 : Int) (m1_2 : List Int) (K : KT ρ) : f64i N f64c13 f64p13 (f64s5 num3 den4 out5 t34 t35 t36 m1_0 m1_1 m1_2) (joinK (some f64l4) K) =
  impl_factors.Z13 N num3 den4 out5 t34 t35 t36 m1_0 m1_1 m1_2 (fun num3 den4 out5 t34 t35 m1_0 m1_1 m1_2 => K .nrm (f64s4 num3 den4 out5 t34 t35 m1_0 m1_1 m1_2)) (fun out5 => K (.exit 0) (f64s20 out5)) (fun t2 => K .ret (f64s21 t2)) :=
  viaSeq (fun k => impl_factors.Z14 N num3 den4 out5 t34 t35 t36 m1_0 m1_1 m1_2 k (fun out5 => K (.exit 0) (f64s20 out5))) (by kernel_rfl) (by kernel_rfl) (f64t14 N num3 den4 out5 t34 t35 t36 m1_0 m1_1 m1_2 (seqK (fun σ => f64i N f64c15 f64p15 σ (joinK (some f64l4) K)) (joinK (some f64l4) K))) (funext fun num3 => funext fun den4 => funext fun out5 => funext fun t34 => funext fun t35 => funext fun m1_0 => funext fun m1_1 => funext fun m1_2 => f64t15 N num3 den4 out5 t34 t35 m1_0 m1_1 m1_2 K) (by kernel_rfl) (by kernel_rfl)
noncomputable def f64c11 := codeAt (bodyOf Try.f64) [1,1,1,0,1,0,0]
noncomputable def f64p11 : Plan := .mk (some f64l5) none .n f64p13
theorem f64t11 {ρ : Type} (N : Nat) (num3 : List Int) (den4 : List Int) (out5 : List Int) (t34 : Int) (t35 : Int) (m1_0 : Int) (m1_1 : Int) (m1_2 : List Int) (K : KT ρ) : f64i N f64c11 f64p11 (f64s4 num3 den4 out5 t34 t35 m1_0 m1_1 m1_2) (joinK (some f64l4) K) =
  impl_factors.Z11 N num3 den4 out5 t34 t35 m1_0 m1_1 m1_2 (fun num3 den4 out5 t34 t35 m1_0 m1_1 m1_2 => K .nrm (f64s4 num3 den4 out5 t34 t35 m1_0 m1_1 m1_2)) (fun out5 => K (.exit 0) (f64s20 out5)) (fun t2 => K .ret (f64s21 t2)) :=
  viaSeq (fun k => impl_factors.Z12 N num3 den4 out5 t34 t35 m1_0 m1_1 m1_2 k) (by kernel_rfl) (by kernel_rfl) (f64t12 N num3 den4 out5 t34 t35 m1_0 m1_1 m1_2 (seqK (fun σ => f64i N f64c13 f64p13 σ (joinK (some f64l4) K)) (joinK (some f64l4) K))) (funext fun num3 => funext fun den4 => funext fun out5 => funext fun t34 => funext fun t35 => funext fun t36 => funext fun m1_0 => funext fun m1_1 => funext fun m1_2 => f64t13 N num3 den4 out5 t34 t35 t36 m1_0 m1_1 m1_2 K) (by kernel_rfl) (by kernel_rfl)
noncomputable def f64c10 := codeAt (bodyOf Try.f64) [1,1,1,0,1,0]
noncomputable def f64p10 : Plan := .mk none (some f64l4) f64p11 .n
noncomputable abbrev f64w10 {ρ : Type} (N : Nat) (M : Nat) (σ : St) (K : KT ρ) : Option ρ := loopC (fun σ K => f64i N f64c11 f64p11 σ K) f64l4 M σ K
theorem f64t10L {ρ : Type} (N : Nat) (K : KT ρ) : ∀ (M : Nat) (num3 : List Int) (den4 : List Int) (out5 : List Int) (t34 : Int) (t35 : Int) (m1_0 : Int) (m1_1 : Int) (m1_2 : List Int), f64w10 N M (f64s4 num3 den4 out5 t34 t35 m1_0 m1_1 m1_2) K =
  impl_factors.Z10L N (fun out5 => K (.exit 0) (f64s20 out5)) (fun t2 => K .ret (f64s21 t2)) M num3 den4 out5 t34 t35 m1_0 m1_1 m1_2
  | 0, _, _, _, _, _, _, _, _ => rfl
  | M + 1, num3, den4, out5, t34, t35, m1_0, m1_1, m1_2 => viaRound (fun k => impl_factors.Z11 N num3 den4 out5 t34 t35 m1_0 m1_1 m1_2 k (fun out5 => K (.exit 0) (f64s20 out5)) (fun t2 => K .ret (f64s21 t2))) (f64t11 N num3 den4 out5 t34 t35 m1_0 m1_1 m1_2 (seqK (fun σ => f64w10 N M σ K) K)) (funext fun num3 => funext fun den4 => funext fun out5 => funext fun t34 => funext fun t35 => funext fun m1_0 => funext fun m1_1 => funext fun m1_2 => f64t10L N K M num3 den4 out5 t34 t35 m1_0 m1_1 m1_2) (by kernel_rfl) (by kernel_rfl)
theorem f64t10 {ρ : Type} (N : Nat) (num3 : List Int) (den4 : List Int) (out5 : List Int) (t34 : Int) (t35 : Int) (m1_0 : Int) (m1_1 : Int) (m1_2 : List Int) (K : KT ρ) : f64i N f64c10 f64p10 (f64s4 num3 den4 out5 t34 t35 m1_0 m1_1 m1_2) (joinK (some f64l20) K) =
  impl_factors.Z10 N num3 den4 out5 t34 t35 m1_0 m1_1 m1_2 (fun out5 => K (.exit 0) (f64s20 out5)) (fun t2 => K .ret (f64s21 t2)) :=
  viaLoop (by kernel_rfl) (by kernel_rfl) (σ' := f64s4 num3 den4 out5 t34 t35 m1_0 m1_1 m1_2) (by kernel_rfl) (f64t10L N (joinK (some f64l20) K) N num3 den4 out5 t34 t35 m1_0 m1_1 m1_2) (by kernel_rfl)
noncomputable def f64c9 := codeAt (bodyOf Try.f64) [1,1,1,0,1]
noncomputable def f64p9 : Plan := .mk (some f64l20) none f64p10 .n
theorem f64t9 {ρ : Type} (N : Nat) (num3 : List Int) (den4 : List Int) (out5 : List Int) (t34 : Int) (t35 : Int) (m1_0 : Int) (m1_1 : Int) (m1_2 : List Int) (K : KT ρ) : f64i N f64c9 f64p9 (f64s4 num3 den4 out5 t34 t35 m1_0 m1_1 m1_2) (joinK (some f64l20) K) =
  impl_factors.Z9 N num3 den4 out5 t34 t35 m1_0 m1_1 m1_2 (fun out5 => K .nrm (f64s20 out5)) (fun t2 => K .ret (f64s21 t2)) :=
  viaBlock (by kernel_rfl) (by kernel_rfl) (f64t10 N num3 den4 out5 t34 t35 m1_0 m1_1 m1_2 (blockK 0 (joinK (some f64l20) K))) (by kernel_rfl)
noncomputable def f64c7 := codeAt (bodyOf Try.f64) [1,1,1,0]
noncomputable def f64p7 : Plan := .mk (some f64l4) none .n f64p9
theorem f64t7 {ρ : Type} (N : Nat) (num3 : List Int) (den4 : List Int) (out5 : List Int) (m1_0 : Int) (m1_1 : Int) (m1_2 : List Int) (K : KT ρ) : f64i N f64c7 f64p7 (f64s3 num3 den4 out5 m1_0 m1_1 m1_2) (joinK (some f64l20) K) =
  impl_factors.Z7 N num3 den4 out5 m1_0 m1_1 m1_2 (fun out5 => K .nrm (f64s20 out5)) (fun t2 => K .ret (f64s21 t2)) :=
  viaSeq (fun k => impl_factors.Z8 N num3 den4 out5 m1_0 m1_1 m1_2 k) (by kernel_rfl) (by kernel_rfl) (f64t8 N num3 den4 out5 m1_0 m1_1 m1_2 (seqK (fun σ => f64i N f64c9 f64p9 σ (joinK (some f64l20) K)) (joinK (some f64l20) K))) (funext fun num3 => funext fun den4 => funext fun out5 => funext fun t34 => funext fun t35 => funext fun m1_0 => funext fun m1_1 => funext fun m1_2 => f64t9 N num3 den4 out5 t34 t35 m1_0 m1_1 m1_2 K) (by kernel_rfl) (by kernel_rfl)
noncomputable def f64c77 := codeAt (bodyOf Try.f64) [1,1,1,1]
theorem f64t77 {ρ : Type} (N : Nat) (out5 : List Int) (K : KT ρ) : f64i N f64c77 .n (f64s20 out5) (joinK (some f64lE) K) =
  impl_factors.Z77 N out5 (fun t2 => K .ret (f64s21 t2)) := by kernel_rfl
noncomputable def f64c6 := codeAt (bodyOf Try.f64) [1,1,1]
noncomputable def f64p6 : Plan := .mk (some f64l20) none f64p7 .n
theorem f64t6 {ρ : Type} (N : Nat) (num3 : List Int) (den4 : List Int) (out5 : List Int) (m1_0 : Int) (m1_1 : Int) (m1_2 : List Int) (K : KT ρ) : f64i N f64c6 f64p6 (f64s3 num3 den4 out5 m1_0 m1_1 m1_2) (joinK (some f64lE) K) =
  impl_factors.Z6 N num3 den4 out5 m1_0 m1_1 m1_2 (fun t2 => K .ret (f64s21 t2)) :=
  viaSeq (fun k => impl_factors.Z7 N num3 den4 out5 m1_0 m1_1 m1_2 k (fun t2 => K .ret (f64s21 t2))) (by kernel_rfl) (by kernel_rfl) (f64t7 N num3 den4 out5 m1_0 m1_1 m1_2 (seqK (fun σ => f64i N f64c77 .n σ (joinK (some f64lE) K)) (joinK (some f64lE) K))) (funext fun out5 => f64t77 N out5 K) (by kernel_rfl) (by kernel_rfl)
noncomputable def f64c4 := codeAt (bodyOf Try.f64) [1,1]
noncomputable def f64p4 : Plan := .mk (some f64l3) none .n f64p6
theorem f64t4 {ρ : Type} (N : Nat) (num3 : List Int) (den4 : List Int) (m1_0 : Int) (m1_1 : Int) (m1_2 : List Int) (K : KT ρ) : f64i N f64c4 f64p4 (f64s2 num3 den4 m1_0 m1_1 m1_2) (joinK (some f64lE) K) =
  impl_factors.Z4 N num3 den4 m1_0 m1_1 m1_2 (fun t2 => K .ret (f64s21 t2)) :=
  viaSeq (fun k => impl_factors.Z5 N num3 den4 m1_0 m1_1 m1_2 k) (by kernel_rfl) (by kernel_rfl) (f64t5 N num3 den4 m1_0 m1_1 m1_2 (seqK (fun σ => f64i N f64c6 f64p6 σ (joinK (some f64lE) K)) (joinK (some f64lE) K))) (funext fun num3 => funext fun den4 => funext fun out5 => funext fun m1_0 => funext fun m1_1 => funext fun m1_2 => f64t6 N num3 den4 out5 m1_0 m1_1 m1_2 K) (by kernel_rfl) (by kernel_rfl)
noncomputable def f64c2 := codeAt (bodyOf Try.f64) [1]
noncomputable def f64p2 : Plan := .mk (some f64l2) none .n f64p4
theorem f64t2 {ρ : Type} (N : Nat) (m1_0 : Int) (m1_1 : Int) (m1_2 : List Int) (K : KT ρ) : f64i N f64c2 f64p2 (f64s1 m1_0 m1_1 m1_2) (joinK (some f64lE) K) =
  impl_factors.Z2 N m1_0 m1_1 m1_2 (fun t2 => K .ret (f64s21 t2)) :=
  viaSeq (fun k => impl_factors.Z3 N m1_0 m1_1 m1_2 k) (by kernel_rfl) (by kernel_rfl) (f64t3 N m1_0 m1_1 m1_2 (seqK (fun σ => f64i N f64c4 f64p4 σ (joinK (some f64lE) K)) (joinK (some f64lE) K))) (funext fun num3 => funext fun den4 => funext fun m1_0 => funext fun m1_1 => funext fun m1_2 => f64t4 N num3 den4 m1_0 m1_1 m1_2 K) (by kernel_rfl) (by kernel_rfl)
noncomputable def f64c0 := codeAt (bodyOf Try.f64) []
noncomputable def f64p0 : Plan := .mk (some f64l1) none .n f64p2
theorem f64t0 {ρ : Type} (N : Nat) (m0 : Int × Int × List Int) (K : KT ρ) : f64i N f64c0 f64p0 (f64s0 m0) (joinK (some f64lE) K) =
  impl_factors.Z0 N m0 (fun t2 => K .ret (f64s21 t2)) :=
  viaSeq (fun k => impl_factors.Z1 N m0 k) (by kernel_rfl) (by kernel_rfl) (f64t1 N m0 (seqK (fun σ => f64i N f64c2 f64p2 σ (joinK (some f64lE) K)) (joinK (some f64lE) K))) (funext fun m1_0 => funext fun m1_1 => funext fun m1_2 => f64t2 N m1_0 m1_1 m1_2 K) (by kernel_rfl) (by kernel_rfl)
theorem f64m (N : Nat) (m0 : Int × Int × List Int) : f64i N f64c0 f64p0 (f64s0 m0) (joinK (some f64lE) (finK tab f64sig Try.f64.results.toList)) = impl_factors.Z0 N m0 (fun t2 => some ((), (t2, ()))) :=
  (f64t0 N m0 (finK tab f64sig Try.f64.results.toList)).trans (by kernel_rfl)
theorem f64ok (h : impl_factors.Spec) : EntryOk Try.prog 64 e64 :=
  entry_of_code (sig := f64sig) (c := f64c0) (pl := f64p0) (je := (some f64lE)) (B := f64B) Try.func64 (by kernel_rfl) (by kernel_rfl) (by kernel_rfl) tabOk f64GOk (by kernel_rfl) (by kernel_rfl) (by kernel_rfl) (by kernel_rfl) fun X hb hp => by
    obtain ⟨m0, _⟩ := X
    obtain ⟨N, h⟩ := h m0 hb.1 hp
    exact ⟨N, (f64m N m0).trans (h N (Nat.le_refl N))⟩
theorem e64ok : EntryOk Try.prog 64 e64 := f64ok impl_factors.ok
end Go.Fw
set_option linter.unusedVariables false
set_option linter.unusedSimpArgs false
set_option maxRecDepth 100000
namespace Go.Fw
open Go.Proofs
/-! ### loop.example/g03115/impl.MatrixOk -/
noncomputable def f61sig : Sig := ⟨[⟨.pair (.int .i64) (.pair (.int .i64) (.sl 3 (.int .i64))), true, false⟩], [⟨.bool, false, false⟩]⟩
noncomputable def e61 : Entry := ⟨f61sig, none, fun X => ((), ((impl_MatrixOk.g X.1), ()))⟩
noncomputable def f61G : Nat → Option Entry := addG (addG (fun _ => none) 63 e63) 64 e64
theorem f61GOk : GOk Try.prog f61G := ((GOk.nil).add e63ok (by kernel_rfl)).add e64ok (by kernel_rfl)
noncomputable def f61lE : Clean := ⟨[], [], [], [], []⟩
noncomputable def f61s0 (m0 : Int × Int × List Int) : St := initSt f61sig.ps (m0, ())
noncomputable def f61s1 (t2 : Bool) : St := stOf [(2, .c (.bool t2))] [] []
noncomputable def f61l1 : Clean := ⟨[2], [], [], [], []⟩
noncomputable def f61B : Nat → Option Clean := lookL [(1000000, f61l1)]
noncomputable abbrev f61i {ρ : Type} (N : Nat) (c : Code) (p : Plan) (σ : St) (K : KT ρ) : Option ρ := iCode f61G tab f61B N c p σ K
noncomputable def f61c0 := codeAt (bodyOf Try.f61) []
theorem f61t0 {ρ : Type} (N : Nat) (m0 : Int × Int × List Int) (K : KT ρ) : f61i N f61c0 .n (f61s0 m0) (joinK (some f61lE) K) =
  impl_MatrixOk.Z0 N m0 (fun t2 => K .ret (f61s1 t2)) := by kernel_rfl
theorem f61m (N : Nat) (m0 : Int × Int × List Int) : f61i N f61c0 .n (f61s0 m0) (joinK (some f61lE) (finK tab f61sig Try.f61.results.toList)) = impl_MatrixOk.Z0 N m0 (fun t2 => some ((), (t2, ()))) :=
  (f61t0 N m0 (finK tab f61sig Try.f61.results.toList)).trans (by kernel_rfl)
theorem f61ok (h : impl_MatrixOk.Spec) : EntryOk Try.prog 61 e61 :=
  entry_of_code (sig := f61sig) (c := f61c0) (pl := .n) (je := (some f61lE)) (B := f61B) Try.func61 (by kernel_rfl) (by kernel_rfl) (by kernel_rfl) tabOk f61GOk (by kernel_rfl) (by kernel_rfl) (by kernel_rfl) (by kernel_rfl) fun X hb hp => by
    obtain ⟨m0, _⟩ := X
    obtain ⟨N, h⟩ := h m0 hb.1
    exact ⟨N, (f61m N m0).trans (h N (Nat.le_refl N))⟩
theorem e61ok : EntryOk Try.prog 61 e61 := f61ok impl_MatrixOk.ok
end Go.Fw
set_option linter.unusedVariables false
set_option linter.unusedSimpArgs false
set_option maxRecDepth 100000
namespace Go.Fw
open Go.Proofs
/-! ### slices.Clone[[]int,int] -/
noncomputable def f62sig : Sig := ⟨[⟨.sl 3 (.int .i64), false, false⟩], [⟨.sl 3 (.int .i64), false, false⟩]⟩
noncomputable def e62 : Entry := ⟨f62sig, (some fun X => slices_Clone_int_int.P X.1), fun X => ((), ((slices_Clone_int_int.g X.1), ()))⟩
noncomputable def f62G : Nat → Option Entry := (fun _ => none)
theorem f62GOk : GOk Try.prog f62G := GOk.nil
noncomputable def f62lE : Clean := ⟨[], [], [], [], []⟩
noncomputable def f62s0 (s0 : List Int) : St := initSt f62sig.ps (s0, ())
noncomputable def f62s1 (t2 : List Int) : St := stOf [(2, .c (.own 1000128))] [] [(1000128, (⟨3, .int .i64, t2, true, false⟩ : Row))]
noncomputable def f62l1 : Clean := ⟨[2], [], [⟨⟨false, 2, 0⟩, 30000000, 3, .int .i64, true⟩], [], [(⟨false, 2, 0⟩, 1000128)]⟩
noncomputable def f62B : Nat → Option Clean := lookL [(1000000, f62l1)]
noncomputable abbrev f62i {ρ : Type} (N : Nat) (c : Code) (p : Plan) (σ : St) (K : KT ρ) : Option ρ := iCode f62G tab f62B N c p σ K
noncomputable def f62c0 := codeAt (bodyOf Try.f62) []
theorem f62t0 {ρ : Type} (N : Nat) (s0 : List Int) (K : KT ρ) : f62i N f62c0 .n (f62s0 s0) (joinK (some f62lE) K) =
  slices_Clone_int_int.Z0 N s0 (fun t2 => K .ret (f62s1 t2)) := by kernel_rfl
theorem f62m (N : Nat) (s0 : List Int) : f62i N f62c0 .n (f62s0 s0) (joinK (some f62lE) (finK tab f62sig Try.f62.results.toList)) = slices_Clone_int_int.Z0 N s0 (fun t2 => some ((), (t2, ()))) :=
  (f62t0 N s0 (finK tab f62sig Try.f62.results.toList)).trans (by kernel_rfl)
theorem f62ok (h : slices_Clone_int_int.Spec) : EntryOk Try.prog 62 e62 :=
  entry_of_code (sig := f62sig) (c := f62c0) (pl := .n) (je := (some f62lE)) (B := f62B) Try.func62 (by kernel_rfl) (by kernel_rfl) (by kernel_rfl) tabOk f62GOk (by kernel_rfl) (by kernel_rfl) (by kernel_rfl) (by kernel_rfl) fun X hb hp => by
    obtain ⟨s0, _⟩ := X
    obtain ⟨N, h⟩ := h s0 hb.1 hp
    exact ⟨N, (f62m N s0).trans (h N (Nat.le_refl N))⟩
theorem e62ok : EntryOk Try.prog 62 e62 := f62ok slices_Clone_int_int.ok
end Go.Fw
set_option linter.unusedVariables false
set_option linter.unusedSimpArgs false
set_option maxRecDepth 100000
namespace Go.Fw
open Go.Proofs
/-! ### loop.example/g03115/impl.unit -/
noncomputable def f59sig : Sig := ⟨[⟨.int .i64, false, false⟩, ⟨.int .i64, false, false⟩], [⟨.sl 3 (.int .i64), false, false⟩]⟩
noncomputable def e59 : Entry := ⟨f59sig, (some fun X => impl_unit.P X.1 X.2.1), fun X => ((), ((impl_unit.g X.1 X.2.1), ()))⟩
noncomputable def f59G : Nat → Option Entry := (fun _ => none)
theorem f59GOk : GOk Try.prog f59G := GOk.nil
noncomputable def f59lE : Clean := ⟨[], [], [], [], []⟩
noncomputable def f59s0 (n0 : Int) (k1 : Int) : St := initSt f59sig.ps (n0, (k1, ()))
noncomputable def f59s1 (t4 : List Int) : St := stOf [(4, .c (.own 1000256))] [] [(1000256, (⟨3, .int .i64, t4, true, false⟩ : Row))]
noncomputable def f59l1 : Clean := ⟨[4], [], [], [], [(⟨false, 4, 0⟩, 1000256)]⟩
noncomputable def f59B : Nat → Option Clean := lookL [(1000000, f59l1)]
noncomputable abbrev f59i {ρ : Type} (N : Nat) (c : Code) (p : Plan) (σ : St) (K : KT ρ) : Option ρ := iCode f59G tab f59B N c p σ K
noncomputable def f59c0 := codeAt (bodyOf Try.f59) []
theorem f59t0 {ρ : Type} (N : Nat) (n0 : Int) (k1 : Int) (K : KT ρ) : f59i N f59c0 .n (f59s0 n0 k1) (joinK (some f59lE) K) =
  impl_unit.Z0 N n0 k1 (fun t4 => K .ret (f59s1 t4)) := by kernel_rfl
theorem f59m (N : Nat) (n0 : Int) (k1 : Int) : f59i N f59c0 .n (f59s0 n0 k1) (joinK (some f59lE) (finK tab f59sig Try.f59.results.toList)) = impl_unit.Z0 N n0 k1 (fun t4 => some ((), (t4, ()))) :=
  (f59t0 N n0 k1 (finK tab f59sig Try.f59.results.toList)).trans (by kernel_rfl)
theorem f59ok (h : impl_unit.Spec) : EntryOk Try.prog 59 e59 :=
  entry_of_code (sig := f59sig) (c := f59c0) (pl := .n) (je := (some f59lE)) (B := f59B) Try.func59 (by kernel_rfl) (by kernel_rfl) (by kernel_rfl) tabOk f59GOk (by kernel_rfl) (by kernel_rfl) (by kernel_rfl) (by kernel_rfl) fun X hb hp => by
    obtain ⟨n0, k1, _⟩ := X
    obtain ⟨N, h⟩ := h n0 k1 hp
    exact ⟨N, (f59m N n0 k1).trans (h N (Nat.le_refl N))⟩
theorem e59ok : EntryOk Try.prog 59 e59 := f59ok impl_unit.ok
end Go.Fw
set_option linter.unusedVariables false
set_option linter.unusedSimpArgs false
set_option maxRecDepth 100000
namespace Go.Fw
open Go.Proofs
/-! ### loop.example/g03115/impl.expOk$1 -/
noncomputable def f118sig : Sig := ⟨[⟨.int .i64, false, false⟩], [⟨.bool, false, false⟩]⟩
noncomputable def e118 : Entry := ⟨f118sig, none, fun X => ((), ((impl_expOk_1.g X.1), ()))⟩
noncomputable def f118G : Nat → Option Entry := addG (fun _ => none) 65 e65
theorem f118GOk : GOk Try.prog f118G := (GOk.nil).add e65ok (by kernel_rfl)
noncomputable def f118lE : Clean := ⟨[], [], [], [], []⟩
noncomputable def f118s0 (e0 : Int) : St := initSt f118sig.ps (e0, ())
noncomputable def f118s1 (t2 : Bool) : St := stOf [(2, .c (.bool t2))] [] []
noncomputable def f118l1 : Clean := ⟨[2], [], [], [], []⟩
noncomputable def f118B : Nat → Option Clean := lookL [(1000000, f118l1)]
noncomputable abbrev f118i {ρ : Type} (N : Nat) (c : Code) (p : Plan) (σ : St) (K : KT ρ) : Option ρ := iCode f118G tab f118B N c p σ K
noncomputable def f118c0 := codeAt (bodyOf Try.f118) []
theorem f118t0 {ρ : Type} (N : Nat) (e0 : Int) (K : KT ρ) : f118i N f118c0 .n (f118s0 e0) (joinK (some f118lE) K) =
  impl_expOk_1.Z0 N e0 (fun t2 => K .ret (f118s1 t2)) := by kernel_rfl
theorem f118m (N : Nat) (e0 : Int) : f118i N f118c0 .n (f118s0 e0) (joinK (some f118lE) (finK tab f118sig Try.f118.results.toList)) = impl_expOk_1.Z0 N e0 (fun t2 => some ((), (t2, ()))) :=
  (f118t0 N e0 (finK tab f118sig Try.f118.results.toList)).trans (by kernel_rfl)
theorem f118ok (h : impl_expOk_1.Spec) : EntryOk Try.prog 118 e118 :=
  entry_of_code (sig := f118sig) (c := f118c0) (pl := .n) (je := (some f118lE)) (B := f118B) Try.func118 (by kernel_rfl) (by kernel_rfl) (by kernel_rfl) tabOk f118GOk (by kernel_rfl) (by kernel_rfl) (by kernel_rfl) (by kernel_rfl) fun X hb hp => by
    obtain ⟨e0, _⟩ := X
    obtain ⟨N, h⟩ := h e0
    exact ⟨N, (f118m N e0).trans (h N (Nat.le_refl N))⟩
theorem e118ok : EntryOk Try.prog 118 e118 := f118ok impl_expOk_1.ok
end Go.Fw
set_option linter.unusedVariables false
set_option linter.unusedSimpArgs false
set_option maxRecDepth 100000
namespace Go.Fw
open Go.Proofs
/-! ### slices.IndexFunc[[]int,int] -/
noncomputable def f113sig : Sig := ⟨[⟨.sl 3 (.int .i64), false, false⟩, ⟨.fnc 118, false, false⟩], [⟨.int .i64, false, false⟩]⟩
noncomputable def e113 : Entry := ⟨f113sig, none, fun X => ((), ((slices_IndexFunc_int_int_expOk.g X.1 X.2.1), ()))⟩
noncomputable def f113G : Nat → Option Entry := addG (fun _ => none) 118 e118
theorem f113GOk : GOk Try.prog f113G := (GOk.nil).add e118ok (by kernel_rfl)
noncomputable def f113lE : Clean := ⟨[], [], [], [], []⟩
noncomputable def f113s0 (s0 : List Int) (f1 : Unit) : St := initSt f113sig.ps (s0, (f1, ()))
noncomputable def f113s1 (s0 : List Int) : St := stOf [(0, .c (.sn 3 (.int .i64) s0 none)), (1, .c (.fn 118 []))] [] []
noncomputable def f113l1 : Clean := ⟨[0, 1], [], [], [], []⟩
noncomputable def f113s2 (s0 : List Int) (t7 : Int) (t8 : Int) : St := stOf [(0, .c (.sn 3 (.int .i64) s0 none)), (1, .c (.fn 118 [])), (7, .c (.int .i64 t7)), (8, .c (.int .i64 t8))] [] []
noncomputable def f113l2 : Clean := ⟨[0, 1, 7, 8], [], [], [], []⟩
noncomputable def f113s3  : St := stOf [] [] []
noncomputable def f113l3 : Clean := ⟨[], [], [], [], []⟩
noncomputable def f113s4 (t4 : Int) : St := stOf [(4, .c (.int .i64 t4))] [] []
noncomputable def f113l4 : Clean := ⟨[4], [], [], [], []⟩
noncomputable def f113B : Nat → Option Clean := lookL [(0, f113l3), (1000000, f113l4)]
noncomputable abbrev f113i {ρ : Type} (N : Nat) (c : Code) (p : Plan) (σ : St) (K : KT ρ) : Option ρ := iCode f113G tab f113B N c p σ K
noncomputable def f113c1 := codeAt (bodyOf Try.f113) [0]
theorem f113t1 {ρ : Type} (N : Nat) (s0 : List Int) (f1 : Unit) (K : KT ρ) : f113i N f113c1 .n (f113s0 s0 f1) (joinK (some f113l1) K) =
  slices_IndexFunc_int_int_expOk.Z1 N s0 f1 (fun s0 => K .nrm (f113s1 s0)) := by kernel_rfl
noncomputable def f113c4 := codeAt (bodyOf Try.f113) [1,0,0]
theorem f113t4 {ρ : Type} (N : Nat) (s0 : List Int) (K : KT ρ) : f113i N f113c4 .n (f113s1 s0) (joinK (some f113l2) K) =
  slices_IndexFunc_int_int_expOk.Z4 N s0 (fun s0 t7 t8 => K .nrm (f113s2 s0 t7 t8)) := by kernel_rfl
noncomputable def f113c7 := codeAt (bodyOf Try.f113) [1,0,1,0,0]
theorem f113t7 {ρ : Type} (N : Nat) (s0 : List Int) (t7 : Int) (t8 : Int) (K : KT ρ) : f113i N f113c7 .n (f113s2 s0 t7 t8) (joinK (some f113l2) K) =
  slices_IndexFunc_int_int_expOk.Z7 N s0 t7 t8 (fun s0 t7 t8 => K .nrm (f113s2 s0 t7 t8)) (K (.exit 0) f113s3) (fun t4 => K .ret (f113s4 t4)) := by kernel_rfl
noncomputable def f113c6 := codeAt (bodyOf Try.f113) [1,0,1,0]
noncomputable def f113p6 : Plan := .mk none (some f113l2) .n .n
noncomputable abbrev f113w6 {ρ : Type} (N : Nat) (M : Nat) (σ : St) (K : KT ρ) : Option ρ := loopC (fun σ K => f113i N f113c7 .n σ K) f113l2 M σ K
theorem f113t6L {ρ : Type} (N : Nat) (K : KT ρ) : ∀ (M : Nat) (s0 : List Int) (t7 : Int) (t8 : Int), f113w6 N M (f113s2 s0 t7 t8) K =
  slices_IndexFunc_int_int_expOk.Z6L N (K (.exit 0) f113s3) (fun t4 => K .ret (f113s4 t4)) M s0 t7 t8
  | 0, _, _, _ => rfl
  | M + 1, s0, t7, t8 => viaRound (fun k => slices_IndexFunc_int_int_expOk.Z7 N s0 t7 t8 k (K (.exit 0) f113s3) (fun t4 => K .ret (f113s4 t4))) (f113t7 N s0 t7 t8 (seqK (fun σ => f113w6 N M σ K) K)) (funext fun s0 => funext fun t7 => funext fun t8 => f113t6L N K M s0 t7 t8) (by kernel_rfl) (by kernel_rfl)
theorem f113t6 {ρ : Type} (N : Nat) (s0 : List Int) (t7 : Int) (t8 : Int) (K : KT ρ) : f113i N f113c6 f113p6 (f113s2 s0 t7 t8) (joinK (some f113l3) K) =
  slices_IndexFunc_int_int_expOk.Z6 N s0 t7 t8 (K (.exit 0) f113s3) (fun t4 => K .ret (f113s4 t4)) :=
  viaLoop (by kernel_rfl) (by kernel_rfl) (σ' := f113s2 s0 t7 t8) (by kernel_rfl) (f113t6L N (joinK (some f113l3) K) N s0 t7 t8) (by kernel_rfl)
noncomputable def f113c5 := codeAt (bodyOf Try.f113) [1,0,1]
noncomputable def f113p5 : Plan := .mk (some f113l3) none f113p6 .n
theorem f113t5 {ρ : Type} (N : Nat) (s0 : List Int) (t7 : Int) (t8 : Int) (K : KT ρ) : f113i N f113c5 f113p5 (f113s2 s0 t7 t8) (joinK (some f113l3) K) =
  slices_IndexFunc_int_int_expOk.Z5 N s0 t7 t8 (K .nrm f113s3) (fun t4 => K .ret (f113s4 t4)) :=
  viaBlock (by kernel_rfl) (by kernel_rfl) (f113t6 N s0 t7 t8 (blockK 0 (joinK (some f113l3) K))) (by kernel_rfl)
noncomputable def f113c3 := codeAt (bodyOf Try.f113) [1,0]
noncomputable def f113p3 : Plan := .mk (some f113l2) none .n f113p5
theorem f113t3 {ρ : Type} (N : Nat) (s0 : List Int) (K : KT ρ) : f113i N f113c3 f113p3 (f113s1 s0) (joinK (some f113l3) K) =
  slices_IndexFunc_int_int_expOk.Z3 N s0 (K .nrm f113s3) (fun t4 => K .ret (f113s4 t4)) :=
  viaSeq (fun k => slices_IndexFunc_int_int_expOk.Z4 N s0 k) (by kernel_rfl) (by kernel_rfl) (f113t4 N s0 (seqK (fun σ => f113i N f113c5 f113p5 σ (joinK (some f113l3) K)) (joinK (some f113l3) K))) (funext fun s0 => funext fun t7 => funext fun t8 => f113t5 N s0 t7 t8 K) (by kernel_rfl) (by kernel_rfl)
noncomputable def f113c8 := codeAt (bodyOf Try.f113) [1,1]
theorem f113t8 {ρ : Type} (N : Nat)  (K : KT ρ) : f113i N f113c8 .n f113s3 (joinK (some f113lE) K) =
  slices_IndexFunc_int_int_expOk.Z8 N (fun t4 => K .ret (f113s4 t4)) := by kernel_rfl
noncomputable def f113c2 := codeAt (bodyOf Try.f113) [1]
noncomputable def f113p2 : Plan := .mk (some f113l3) none f113p3 .n
theorem f113t2 {ρ : Type} (N : Nat) (s0 : List Int) (K : KT ρ) : f113i N f113c2 f113p2 (f113s1 s0) (joinK (some f113lE) K) =
  slices_IndexFunc_int_int_expOk.Z2 N s0 (fun t4 => K .ret (f113s4 t4)) :=
  viaSeq (fun k => slices_IndexFunc_int_int_expOk.Z3 N s0 k (fun t4 => K .ret (f113s4 t4))) (by kernel_rfl) (by kernel_rfl) (f113t3 N s0 (seqK (fun σ => f113i N f113c8 .n σ (joinK (some f113lE) K)) (joinK (some f113lE) K))) (f113t8 N K) (by kernel_rfl) (by kernel_rfl)
noncomputable def f113c0 := codeAt (bodyOf Try.f113) []
noncomputable def f113p0 : Plan := .mk (some f113l1) none .n f113p2
theorem f113t0 {ρ : Type} (N : Nat) (s0 : List Int) (f1 : Unit) (K : KT ρ) : f113i N f113c0 f113p0 (f113s0 s0 f1) (joinK (some f113lE) K) =
  slices_IndexFunc_int_int_expOk.Z0 N s0 f1 (fun t4 => K .ret (f113s4 t4)) :=
  viaSeq (fun k => slices_IndexFunc_int_int_expOk.Z1 N s0 f1 k) (by kernel_rfl) (by kernel_rfl) (f113t1 N s0 f1 (seqK (fun σ => f113i N f113c2 f113p2 σ (joinK (some f113lE) K)) (joinK (some f113lE) K))) (funext fun s0 => f113t2 N s0 K) (by kernel_rfl) (by kernel_rfl)
theorem f113m (N : Nat) (s0 : List Int) (f1 : Unit) : f113i N f113c0 f113p0 (f113s0 s0 f1) (joinK (some f113lE) (finK tab f113sig Try.f113.results.toList)) = slices_IndexFunc_int_int_expOk.Z0 N s0 f1 (fun t4 => some ((), (t4, ()))) :=
  (f113t0 N s0 f1 (finK tab f113sig Try.f113.results.toList)).trans (by kernel_rfl)
theorem f113ok (h : slices_IndexFunc_int_int_expOk.Spec) : EntryOk Try.prog 113 e113 :=
  entry_of_code (sig := f113sig) (c := f113c0) (pl := f113p0) (je := (some f113lE)) (B := f113B) Try.func113 (by kernel_rfl) (by kernel_rfl) (by kernel_rfl) tabOk f113GOk (by kernel_rfl) (by kernel_rfl) (by kernel_rfl) (by kernel_rfl) fun X hb hp => by
    obtain ⟨s0, f1, _⟩ := X
    obtain ⟨N, h⟩ := h s0 f1 hb.1
    exact ⟨N, (f113m N s0 f1).trans (h N (Nat.le_refl N))⟩
theorem e113ok : EntryOk Try.prog 113 e113 := f113ok slices_IndexFunc_int_int_expOk.ok
end Go.Fw
set_option linter.unusedVariables false
set_option linter.unusedSimpArgs false
set_option maxRecDepth 100000
namespace Go.Fw
open Go.Proofs
/-! ### slices.ContainsFunc[[]int,int] -/
noncomputable def f95sig : Sig := ⟨[⟨.sl 3 (.int .i64), false, false⟩, ⟨.fnc 118, false, false⟩], [⟨.bool, false, false⟩]⟩
noncomputable def e95 : Entry := ⟨f95sig, none, fun X => ((), ((slices_ContainsFunc_int_int_expOk.g X.1 X.2.1), ()))⟩
noncomputable def f95G : Nat → Option Entry := addG (fun _ => none) 113 e113
theorem f95GOk : GOk Try.prog f95G := (GOk.nil).add e113ok (by kernel_rfl)
noncomputable def f95lE : Clean := ⟨[], [], [], [], []⟩
noncomputable def f95s0 (s0 : List Int) (f1 : Unit) : St := initSt f95sig.ps (s0, (f1, ()))
noncomputable def f95s1 (t4 : Bool) : St := stOf [(4, .c (.bool t4))] [] []
noncomputable def f95l1 : Clean := ⟨[4], [], [], [], []⟩
noncomputable def f95B : Nat → Option Clean := lookL [(1000000, f95l1)]
noncomputable abbrev f95i {ρ : Type} (N : Nat) (c : Code) (p : Plan) (σ : St) (K : KT ρ) : Option ρ := iCode f95G tab f95B N c p σ K
noncomputable def f95c0 := codeAt (bodyOf Try.f95) []
theorem f95t0 {ρ : Type} (N : Nat) (s0 : List Int) (f1 : Unit) (K : KT ρ) : f95i N f95c0 .n (f95s0 s0 f1) (joinK (some f95lE) K) =
  slices_ContainsFunc_int_int_expOk.Z0 N s0 f1 (fun t4 => K .ret (f95s1 t4)) := by kernel_rfl
theorem f95m (N : Nat) (s0 : List Int) (f1 : Unit) : f95i N f95c0 .n (f95s0 s0 f1) (joinK (some f95lE) (finK tab f95sig Try.f95.results.toList)) = slices_ContainsFunc_int_int_expOk.Z0 N s0 f1 (fun t4 => some ((), (t4, ()))) :=
  (f95t0 N s0 f1 (finK tab f95sig Try.f95.results.toList)).trans (by kernel_rfl)
theorem f95ok (h : slices_ContainsFunc_int_int_expOk.Spec) : EntryOk Try.prog 95 e95 :=
  entry_of_code (sig := f95sig) (c := f95c0) (pl := .n) (je := (some f95lE)) (B := f95B) Try.func95 (by kernel_rfl) (by kernel_rfl) (by kernel_rfl) tabOk f95GOk (by kernel_rfl) (by kernel_rfl) (by kernel_rfl) (by kernel_rfl) fun X hb hp => by
    obtain ⟨s0, f1, _⟩ := X
    obtain ⟨N, h⟩ := h s0 f1 hb.1
    exact ⟨N, (f95m N s0 f1).trans (h N (Nat.le_refl N))⟩
theorem e95ok : EntryOk Try.prog 95 e95 := f95ok slices_ContainsFunc_int_int_expOk.ok
end Go.Fw
set_option linter.unusedVariables false
set_option linter.unusedSimpArgs false
set_option maxRecDepth 100000
namespace Go.Fw
open Go.Proofs
/-! ### loop.example/g03115/impl.expOk -/
noncomputable def f104sig : Sig := ⟨[⟨.sl 3 (.int .i64), false, false⟩, ⟨.int .i64, false, false⟩], [⟨.bool, false, false⟩]⟩
noncomputable def e104 : Entry := ⟨f104sig, none, fun X => ((), ((impl_expOk.g X.1 X.2.1), ()))⟩
noncomputable def f104G : Nat → Option Entry := addG (fun _ => none) 95 e95
theorem f104GOk : GOk Try.prog f104G := (GOk.nil).add e95ok (by kernel_rfl)
noncomputable def f104lE : Clean := ⟨[], [], [], [], []⟩
noncomputable def f104s0 (exp0 : List Int) (vars1 : Int) : St := initSt f104sig.ps (exp0, (vars1, ()))
noncomputable def f104s1 (t4 : Bool) : St := stOf [(4, .c (.bool t4))] [] []
noncomputable def f104l1 : Clean := ⟨[4], [], [], [], []⟩
noncomputable def f104B : Nat → Option Clean := lookL [(1000000, f104l1)]
noncomputable abbrev f104i {ρ : Type} (N : Nat) (c : Code) (p : Plan) (σ : St) (K : KT ρ) : Option ρ := iCode f104G tab f104B N c p σ K
noncomputable def f104c0 := codeAt (bodyOf Try.f104) []
theorem f104t0 {ρ : Type} (N : Nat) (exp0 : List Int) (vars1 : Int) (K : KT ρ) : f104i N f104c0 .n (f104s0 exp0 vars1) (joinK (some f104lE) K) =
  impl_expOk.Z0 N exp0 vars1 (fun t4 => K .ret (f104s1 t4)) := by kernel_rfl
theorem f104m (N : Nat) (exp0 : List Int) (vars1 : Int) : f104i N f104c0 .n (f104s0 exp0 vars1) (joinK (some f104lE) (finK tab f104sig Try.f104.results.toList)) = impl_expOk.Z0 N exp0 vars1 (fun t4 => some ((), (t4, ()))) :=
  (f104t0 N exp0 vars1 (finK tab f104sig Try.f104.results.toList)).trans (by kernel_rfl)
theorem f104ok (h : impl_expOk.Spec) : EntryOk Try.prog 104 e104 :=
  entry_of_code (sig := f104sig) (c := f104c0) (pl := .n) (je := (some f104lE)) (B := f104B) Try.func104 (by kernel_rfl) (by kernel_rfl) (by kernel_rfl) tabOk f104GOk (by kernel_rfl) (by kernel_rfl) (by kernel_rfl) (by kernel_rfl) fun X hb hp => by
    obtain ⟨exp0, vars1, _⟩ := X
    obtain ⟨N, h⟩ := h exp0 vars1 hb.1
    exact ⟨N, (f104m N exp0 vars1).trans (h N (Nat.le_refl N))⟩
theorem e104ok : EntryOk Try.prog 104 e104 := f104ok impl_expOk.ok
end Go.Fw
set_option linter.unusedVariables false
set_option linter.unusedSimpArgs false
set_option maxRecDepth 100000
namespace Go.Fw
open Go.Proofs
/-! ### loop.example/g03115/impl.MonomialLaurent -/
noncomputable def f88sig : Sig := ⟨[⟨.sl 3 (.int .i64), false, false⟩], [⟨.pair (.int .i64) (.sl 103 (.pair (.sl 3 (.int .i64)) (.int .i64))), true, false⟩]⟩
noncomputable def e88 : Entry := ⟨f88sig, none, fun X => ((), ((impl_MonomialLaurent.g X.1), ()))⟩
noncomputable def f88G : Nat → Option Entry := addG (addG (addG (fun _ => none) 62 e62) 65 e65) 104 e104
theorem f88GOk : GOk Try.prog f88G := (((GOk.nil).add e62ok (by kernel_rfl)).add e65ok (by kernel_rfl)).add e104ok (by kernel_rfl)
noncomputable def f88lE : Clean := ⟨[], [], [], [], []⟩
noncomputable def f88s0 (exp0 : List Int) : St := initSt f88sig.ps (exp0, ())
noncomputable def f88s1 (t2_1 : List (List Int × Int)) (t2_0 : Int) : St := stOf [(2, .c (.box 2 0))] [(2, (89, [.int .i64 t2_0, .own 20000129]))] [(20000129, (⟨103, .pair (.sl 3 (.int .i64)) (.int .i64), t2_1, true, false⟩ : Row))]
noncomputable def f88l1 : Clean := ⟨[2], [2], [⟨⟨true, 2, 1⟩, 30000000, 103, .pair (.sl 3 (.int .i64)) (.int .i64), true⟩], [], [(⟨true, 2, 1⟩, 20000129)]⟩
noncomputable def f88B : Nat → Option Clean := lookL [(1000000, f88l1)]
noncomputable abbrev f88i {ρ : Type} (N : Nat) (c : Code) (p : Plan) (σ : St) (K : KT ρ) : Option ρ := iCode f88G tab f88B N c p σ K
noncomputable def f88c0 := codeAt (bodyOf Try.f88) []
theorem f88t0 {ρ : Type} (N : Nat) (exp0 : List Int) (K : KT ρ) : f88i N f88c0 .n (f88s0 exp0) (joinK (some f88lE) K) =
  impl_MonomialLaurent.Z0 N exp0 (fun t2_1 t2_0 => K .ret (f88s1 t2_1 t2_0)) := by kernel_rfl
theorem f88m (N : Nat) (exp0 : List Int) : f88i N f88c0 .n (f88s0 exp0) (joinK (some f88lE) (finK tab f88sig Try.f88.results.toList)) = impl_MonomialLaurent.Z0 N exp0 (fun t2_1 t2_0 => some ((), ((t2_0, t2_1), ()))) :=
  (f88t0 N exp0 (finK tab f88sig Try.f88.results.toList)).trans (by kernel_rfl)
theorem f88ok (h : impl_MonomialLaurent.Spec) : EntryOk Try.prog 88 e88 :=
  entry_of_code (sig := f88sig) (c := f88c0) (pl := .n) (je := (some f88lE)) (B := f88B) Try.func88 (by kernel_rfl) (by kernel_rfl) (by kernel_rfl) tabOk f88GOk (by kernel_rfl) (by kernel_rfl) (by kernel_rfl) (by kernel_rfl) fun X hb hp => by
    obtain ⟨exp0, _⟩ := X
    obtain ⟨N, h⟩ := h exp0 hb.1
    exact ⟨N, (f88m N exp0).trans (h N (Nat.le_refl N))⟩
theorem e88ok : EntryOk Try.prog 88 e88 := f88ok impl_MonomialLaurent.ok
end Go.Fw
set_option linter.unusedVariables false
set_option linter.unusedSimpArgs false
set_option maxRecDepth 100000
namespace Go.Fw
open Go.Proofs
/-! ### loop.example/g03115/impl.InitialSeed -/
noncomputable def f50sig : Sig := ⟨[⟨.pair (.int .i64) (.pair (.int .i64) (.sl 3 (.int .i64))), true, false⟩], [⟨.pair (.pair (.int .i64) (.pair (.int .i64) (.sl 3 (.int .i64)))) (.sl 89 (.pair (.int .i64) (.sl 103 (.pair (.sl 3 (.int .i64)) (.int .i64))))), true, false⟩, ⟨.bool, false, false⟩]⟩
noncomputable def e50 : Entry := ⟨f50sig, none, fun X => ((), ((impl_InitialSeed.g X.1).1, ((impl_InitialSeed.g X.1).2, ())))⟩
noncomputable def f50G : Nat → Option Entry := addG (addG (addG (addG (fun _ => none) 59 e59) 61 e61) 62 e62) 88 e88
theorem f50GOk : GOk Try.prog f50G := ((((GOk.nil).add e59ok (by kernel_rfl)).add e61ok (by kernel_rfl)).add e62ok (by kernel_rfl)).add e88ok (by kernel_rfl)
noncomputable def f50lE : Clean := ⟨[], [], [], [], []⟩
noncomputable def f50s0 (m0 : Int × Int × List Int) : St := initSt f50sig.ps (m0, ())
noncomputable def f50s1 (m1_0 : Int) (m1_1 : Int) (m1_2 : List Int) (t2_0 : Int) (t2_1 : Int) : St := stOf [(1, .c (.box 1 0)), (2, .c (.box 2 0))] [(1, (26, [.int .i64 m1_0, .int .i64 m1_1, .sn 3 (.int .i64) m1_2 none])), (2, (59, [.int .i64 t2_0, .int .i64 t2_1, .nil, .nil]))] []
noncomputable def f50l1 : Clean := ⟨[1, 2], [1, 2], [], [], []⟩
noncomputable def f50s2 (s4_2 : List Int) (m1_0 : Int) (m1_1 : Int) (m1_2 : List Int) (t2_0 : Int) (t2_1 : Int) (s4_0 : Int) (s4_1 : Int) : St := stOf [(1, .c (.box 1 0)), (2, .c (.box 2 0)), (4, .c (.box 4 0))] [(1, (26, [.int .i64 m1_0, .int .i64 m1_1, .sn 3 (.int .i64) m1_2 none])), (2, (59, [.int .i64 t2_0, .int .i64 t2_1, .nil, .nil])), (4, (59, [.int .i64 s4_0, .int .i64 s4_1, .own 20000258, .nil]))] [(20000258, (⟨3, .int .i64, s4_2, true, false⟩ : Row))]
noncomputable def f50l2 : Clean := ⟨[1, 2, 4], [1, 2, 4], [], [], [(⟨true, 4, 2⟩, 20000258)]⟩
noncomputable def f50s3 (s4_2 : List Int) (i5 : Int) (m1_0 : Int) (m1_1 : Int) (m1_2 : List Int) (t2_0 : Int) (t2_1 : Int) (s4_0 : Int) (s4_1 : Int) : St := stOf [(1, .c (.box 1 0)), (2, .c (.box 2 0)), (4, .c (.box 4 0)), (5, .c (.int .i64 i5))] [(1, (26, [.int .i64 m1_0, .int .i64 m1_1, .sn 3 (.int .i64) m1_2 none])), (2, (59, [.int .i64 t2_0, .int .i64 t2_1, .nil, .nil])), (4, (59, [.int .i64 s4_0, .int .i64 s4_1, .own 20000258, .nil]))] [(20000258, (⟨3, .int .i64, s4_2, true, false⟩ : Row))]
noncomputable def f50l3 : Clean := ⟨[1, 2, 4, 5], [1, 2, 4], [], [], [(⟨true, 4, 2⟩, 20000258)]⟩
noncomputable def f50s4 (s4_2 : List Int) (s4_3 : List (Int × List (List Int × Int))) (i5 : Int) (m1_0 : Int) (m1_1 : Int) (m1_2 : List Int) (t2_0 : Int) (t2_1 : Int) (s4_0 : Int) (s4_1 : Int) : St := stOf [(1, .c (.box 1 0)), (2, .c (.box 2 0)), (4, .c (.box 4 0)), (5, .c (.int .i64 i5))] [(1, (26, [.int .i64 m1_0, .int .i64 m1_1, .sn 3 (.int .i64) m1_2 none])), (2, (59, [.int .i64 t2_0, .int .i64 t2_1, .nil, .nil])), (4, (59, [.int .i64 s4_0, .int .i64 s4_1, .own 20000258, .own 20000259]))] [(20000258, (⟨3, .int .i64, s4_2, true, false⟩ : Row)), (20000259, (⟨89, .pair (.int .i64) (.sl 103 (.pair (.sl 3 (.int .i64)) (.int .i64))), s4_3, true, false⟩ : Row))]
noncomputable def f50l4 : Clean := ⟨[1, 2, 4, 5], [1, 2, 4], [⟨⟨true, 4, 3⟩, 30000000, 89, .pair (.int .i64) (.sl 103 (.pair (.sl 3 (.int .i64)) (.int .i64))), true⟩], [], [(⟨true, 4, 2⟩, 20000258), (⟨true, 4, 3⟩, 20000259)]⟩
noncomputable def f50s5 (s4_2 : List Int) (s4_3 : List (Int × List (List Int × Int))) (t2_0 : Int) (t2_1 : Int) (s4_0 : Int) (s4_1 : Int) : St := stOf [(2, .c (.box 2 0)), (4, .c (.box 4 0))] [(2, (59, [.int .i64 t2_0, .int .i64 t2_1, .nil, .nil])), (4, (59, [.int .i64 s4_0, .int .i64 s4_1, .own 20000258, .own 20000259]))] [(20000258, (⟨3, .int .i64, s4_2, true, false⟩ : Row)), (20000259, (⟨89, .pair (.int .i64) (.sl 103 (.pair (.sl 3 (.int .i64)) (.int .i64))), s4_3, true, false⟩ : Row))]
noncomputable def f50l5 : Clean := ⟨[2, 4], [2, 4], [], [], [(⟨true, 4, 2⟩, 20000258), (⟨true, 4, 3⟩, 20000259)]⟩
noncomputable def f50s6 (t2_2 : List Int) (t2_3 : List (Int × List (List Int × Int))) (t3 : Bool) (t2_0 : Int) (t2_1 : Int) : St := stOf [(2, .c (.box 2 0)), (3, .c (.bool t3))] [(2, (59, [.int .i64 t2_0, .int .i64 t2_1, .own 20000130, .own 20000131]))] [(20000130, (⟨3, .int .i64, t2_2, true, false⟩ : Row)), (20000131, (⟨89, .pair (.int .i64) (.sl 103 (.pair (.sl 3 (.int .i64)) (.int .i64))), t2_3, true, false⟩ : Row))]
noncomputable def f50l6 : Clean := ⟨[2, 3], [2], [⟨⟨true, 2, 2⟩, 30000000, 3, .int .i64, true⟩, ⟨⟨true, 2, 3⟩, 30000001, 89, .pair (.int .i64) (.sl 103 (.pair (.sl 3 (.int .i64)) (.int .i64))), true⟩], [], [(⟨true, 2, 2⟩, 20000130), (⟨true, 2, 3⟩, 20000131)]⟩
noncomputable def f50B : Nat → Option Clean := lookL [(0, f50l5), (1000000, f50l6)]
noncomputable abbrev f50i {ρ : Type} (N : Nat) (c : Code) (p : Plan) (σ : St) (K : KT ρ) : Option ρ := iCode f50G tab f50B N c p σ K
noncomputable def f50c1 := codeAt (bodyOf Try.f50) [0]
theorem f50t1 {ρ : Type} (N : Nat) (m0 : Int × Int × List Int) (K : KT ρ) : f50i N f50c1 .n (f50s0 m0) (joinK (some f50l1) K) =
  impl_InitialSeed.Z1 N m0 (fun m1_0 m1_1 m1_2 t2_0 t2_1 => K .nrm (f50s1 m1_0 m1_1 m1_2 t2_0 t2_1)) := by kernel_rfl
noncomputable def f50c3 := codeAt (bodyOf Try.f50) [1,0]
theorem f50t3 {ρ : Type} (N : Nat) (m1_0 : Int) (m1_1 : Int) (m1_2 : List Int) (t2_0 : Int) (t2_1 : Int) (K : KT ρ) : f50i N f50c3 .n (f50s1 m1_0 m1_1 m1_2 t2_0 t2_1) (joinK (some f50l1) K) =
  impl_InitialSeed.Z3 N m1_0 m1_1 m1_2 t2_0 t2_1 (fun m1_0 m1_1 m1_2 t2_0 t2_1 => K .nrm (f50s1 m1_0 m1_1 m1_2 t2_0 t2_1)) (fun t2_2 t2_3 t3 t2_0 t2_1 => K .ret (f50s6 t2_2 t2_3 t3 t2_0 t2_1)) := by kernel_rfl
noncomputable def f50c5 := codeAt (bodyOf Try.f50) [1,1,0]
theorem f50t5 {ρ : Type} (N : Nat) (m1_0 : Int) (m1_1 : Int) (m1_2 : List Int) (t2_0 : Int) (t2_1 : Int) (K : KT ρ) : f50i N f50c5 .n (f50s1 m1_0 m1_1 m1_2 t2_0 t2_1) (joinK (some f50l2) K) =
  impl_InitialSeed.Z5 N m1_0 m1_1 m1_2 t2_0 t2_1 (fun s4_2 m1_0 m1_1 m1_2 t2_0 t2_1 s4_0 s4_1 => K .nrm (f50s2 s4_2 m1_0 m1_1 m1_2 t2_0 t2_1 s4_0 s4_1)) := by kernel_rfl
noncomputable def f50c8 := codeAt (bodyOf Try.f50) [1,1,1,0,0]
theorem f50t8 {ρ : Type} (N : Nat) (s4_2 : List Int) (m1_0 : Int) (m1_1 : Int) (m1_2 : List Int) (t2_0 : Int) (t2_1 : Int) (s4_0 : Int) (s4_1 : Int) (K : KT ρ) : f50i N f50c8 .n (f50s2 s4_2 m1_0 m1_1 m1_2 t2_0 t2_1 s4_0 s4_1) (joinK (some f50l3) K) =
  impl_InitialSeed.Z8 N s4_2 m1_0 m1_1 m1_2 t2_0 t2_1 s4_0 s4_1 (fun s4_2 i5 m1_0 m1_1 m1_2 t2_0 t2_1 s4_0 s4_1 => K .nrm (f50s3 s4_2 i5 m1_0 m1_1 m1_2 t2_0 t2_1 s4_0 s4_1)) := by kernel_rfl
noncomputable def f50c11 := codeAt (bodyOf Try.f50) [1,1,1,0,1,0,0]
theorem f50t11 {ρ : Type} (N : Nat) (s4_2 : List Int) (s4_3 : List (Int × List (List Int × Int))) (i5 : Int) (m1_0 : Int) (m1_1 : Int) (m1_2 : List Int) (t2_0 : Int) (t2_1 : Int) (s4_0 : Int) (s4_1 : Int) (K : KT ρ) : f50i N f50c11 .n (f50s4 s4_2 s4_3 i5 m1_0 m1_1 m1_2 t2_0 t2_1 s4_0 s4_1) (joinK (some f50l4) K) =
  impl_InitialSeed.Z11 N s4_2 s4_3 i5 m1_0 m1_1 m1_2 t2_0 t2_1 s4_0 s4_1 (fun s4_2 s4_3 i5 m1_0 m1_1 m1_2 t2_0 t2_1 s4_0 s4_1 => K .nrm (f50s4 s4_2 s4_3 i5 m1_0 m1_1 m1_2 t2_0 t2_1 s4_0 s4_1)) (fun s4_2 s4_3 t2_0 t2_1 s4_0 s4_1 => K (.exit 0) (f50s5 s4_2 s4_3 t2_0 t2_1 s4_0 s4_1)) := by kernel_rfl
noncomputable def f50c10 := codeAt (bodyOf Try.f50) [1,1,1,0,1,0]
noncomputable def f50p10 : Plan := .mk none (some f50l4) .n .n
noncomputable abbrev f50w10 {ρ : Type} (N : Nat) (M : Nat) (σ : St) (K : KT ρ) : Option ρ := loopC (fun σ K => f50i N f50c11 .n σ K) f50l4 M σ K
theorem f50t10L {ρ : Type} (N : Nat) (K : KT ρ) : ∀ (M : Nat) (s4_2 : List Int) (s4_3 : List (Int × List (List Int × Int))) (i5 : Int) (m1_0 : Int) (m1_1 : Int) (m1_2 : List Int) (t2_0 : Int) (t2_1 : Int) (s4_0 : Int) (s4_1 : Int), f50w10 N M (f50s4 s4_2 s4_3 i5 m1_0 m1_1 m1_2 t2_0 t2_1 s4_0 s4_1) K =
  impl_InitialSeed.Z10L N (fun s4_2 s4_3 t2_0 t2_1 s4_0 s4_1 => K (.exit 0) (f50s5 s4_2 s4_3 t2_0 t2_1 s4_0 s4_1)) M s4_2 s4_3 i5 m1_0 m1_1 m1_2 t2_0 t2_1 s4_0 s4_1
  | 0, _, _, _, _, _, _, _, _, _, _ => rfl
  | M + 1, s4_2, s4_3, i5, m1_0, m1_1, m1_2, t2_0, t2_1, s4_0, s4_1 => viaRound (fun k => impl_InitialSeed.Z11 N s4_2 s4_3 i5 m1_0 m1_1 m1_2 t2_0 t2_1 s4_0 s4_1 k (fun s4_2 s4_3 t2_0 t2_1 s4_0 s4_1 => K (.exit 0) (f50s5 s4_2 s4_3 t2_0 t2_1 s4_0 s4_1))) (f50t11 N s4_2 s4_3 i5 m1_0 m1_1 m1_2 t2_0 t2_1 s4_0 s4_1 (seqK (fun σ => f50w10 N M σ K) K)) (funext fun s4_2 => funext fun s4_3 => funext fun i5 => funext fun m1_0 => funext fun m1_1 => funext fun m1_2 => funext fun t2_0 => funext fun t2_1 => funext fun s4_0 => funext fun s4_1 => f50t10L N K M s4_2 s4_3 i5 m1_0 m1_1 m1_2 t2_0 t2_1 s4_0 s4_1) (by kernel_rfl) (by kernel_rfl)
theorem f50t10 {ρ : Type} (N : Nat) (s4_2 : List Int) (i5 : Int) (m1_0 : Int) (m1_1 : Int) (m1_2 : List Int) (t2_0 : Int) (t2_1 : Int) (s4_0 : Int) (s4_1 : Int) (K : KT ρ) : f50i N f50c10 f50p10 (f50s3 s4_2 i5 m1_0 m1_1 m1_2 t2_0 t2_1 s4_0 s4_1) (joinK (some f50l5) K) =
  impl_InitialSeed.Z10 N s4_2 i5 m1_0 m1_1 m1_2 t2_0 t2_1 s4_0 s4_1 (fun s4_2 s4_3 t2_0 t2_1 s4_0 s4_1 => K (.exit 0) (f50s5 s4_2 s4_3 t2_0 t2_1 s4_0 s4_1)) :=
  viaLoop (by kernel_rfl) (by kernel_rfl) (σ' := f50s4 s4_2 ([] : List (Int × List (List Int × Int))) i5 m1_0 m1_1 m1_2 t2_0 t2_1 s4_0 s4_1) (by kernel_rfl) (f50t10L N (joinK (some f50l5) K) N s4_2 ([] : List (Int × List (List Int × Int))) i5 m1_0 m1_1 m1_2 t2_0 t2_1 s4_0 s4_1) (by kernel_rfl)
noncomputable def f50c9 := codeAt (bodyOf Try.f50) [1,1,1,0,1]
noncomputable def f50p9 : Plan := .mk (some f50l5) none f50p10 .n
theorem f50t9 {ρ : Type} (N : Nat) (s4_2 : List Int) (i5 : Int) (m1_0 : Int) (m1_1 : Int) (m1_2 : List Int) (t2_0 : Int) (t2_1 : Int) (s4_0 : Int) (s4_1 : Int) (K : KT ρ) : f50i N f50c9 f50p9 (f50s3 s4_2 i5 m1_0 m1_1 m1_2 t2_0 t2_1 s4_0 s4_1) (joinK (some f50l5) K) =
  impl_InitialSeed.Z9 N s4_2 i5 m1_0 m1_1 m1_2 t2_0 t2_1 s4_0 s4_1 (fun s4_2 s4_3 t2_0 t2_1 s4_0 s4_1 => K .nrm (f50s5 s4_2 s4_3 t2_0 t2_1 s4_0 s4_1)) :=
  viaBlock (by kernel_rfl) (by kernel_rfl) (f50t10 N s4_2 i5 m1_0 m1_1 m1_2 t2_0 t2_1 s4_0 s4_1 (blockK 0 (joinK (some f50l5) K))) (by kernel_rfl)
noncomputable def f50c7 := codeAt (bodyOf Try.f50) [1,1,1,0]
noncomputable def f50p7 : Plan := .mk (some f50l3) none .n f50p9
theorem f50t7 {ρ : Type} (N : Nat) (s4_2 : List Int) (m1_0 : Int) (m1_1 : Int) (m1_2 : List Int) (t2_0 : Int) (t2_1 : Int) (s4_0 : Int) (s4_1 : Int) (K : KT ρ) : f50i N f50c7 f50p7 (f50s2 s4_2 m1_0 m1_1 m1_2 t2_0 t2_1 s4_0 s4_1) (joinK (some f50l5) K) =
  impl_InitialSeed.Z7 N s4_2 m1_0 m1_1 m1_2 t2_0 t2_1 s4_0 s4_1 (fun s4_2 s4_3 t2_0 t2_1 s4_0 s4_1 => K .nrm (f50s5 s4_2 s4_3 t2_0 t2_1 s4_0 s4_1)) :=
  viaSeq (fun k => impl_InitialSeed.Z8 N s4_2 m1_0 m1_1 m1_2 t2_0 t2_1 s4_0 s4_1 k) (by kernel_rfl) (by kernel_rfl) (f50t8 N s4_2 m1_0 m1_1 m1_2 t2_0 t2_1 s4_0 s4_1 (seqK (fun σ => f50i N f50c9 f50p9 σ (joinK (some f50l5) K)) (joinK (some f50l5) K))) (funext fun s4_2 => funext fun i5 => funext fun m1_0 => funext fun m1_1 => funext fun m1_2 => funext fun t2_0 => funext fun t2_1 => funext fun s4_0 => funext fun s4_1 => f50t9 N s4_2 i5 m1_0 m1_1 m1_2 t2_0 t2_1 s4_0 s4_1 K) (by kernel_rfl) (by kernel_rfl)
noncomputable def f50c12 := codeAt (bodyOf Try.f50) [1,1,1,1]
theorem f50t12 {ρ : Type} (N : Nat) (s4_2 : List Int) (s4_3 : List (Int × List (List Int × Int))) (t2_0 : Int) (t2_1 : Int) (s4_0 : Int) (s4_1 : Int) (K : KT ρ) : f50i N f50c12 .n (f50s5 s4_2 s4_3 t2_0 t2_1 s4_0 s4_1) (joinK (some f50lE) K) =
  impl_InitialSeed.Z12 N s4_2 s4_3 t2_0 t2_1 s4_0 s4_1 (fun t2_2 t2_3 t3 t2_0 t2_1 => K .ret (f50s6 t2_2 t2_3 t3 t2_0 t2_1)) := by kernel_rfl
noncomputable def f50c6 := codeAt (bodyOf Try.f50) [1,1,1]
noncomputable def f50p6 : Plan := .mk (some f50l5) none f50p7 .n
theorem f50t6 {ρ : Type} (N : Nat) (s4_2 : List Int) (m1_0 : Int) (m1_1 : Int) (m1_2 : List Int) (t2_0 : Int) (t2_1 : Int) (s4_0 : Int) (s4_1 : Int) (K : KT ρ) : f50i N f50c6 f50p6 (f50s2 s4_2 m1_0 m1_1 m1_2 t2_0 t2_1 s4_0 s4_1) (joinK (some f50lE) K) =
  impl_InitialSeed.Z6 N s4_2 m1_0 m1_1 m1_2 t2_0 t2_1 s4_0 s4_1 (fun t2_2 t2_3 t3 t2_0 t2_1 => K .ret (f50s6 t2_2 t2_3 t3 t2_0 t2_1)) :=
  viaSeq (fun k => impl_InitialSeed.Z7 N s4_2 m1_0 m1_1 m1_2 t2_0 t2_1 s4_0 s4_1 k) (by kernel_rfl) (by kernel_rfl) (f50t7 N s4_2 m1_0 m1_1 m1_2 t2_0 t2_1 s4_0 s4_1 (seqK (fun σ => f50i N f50c12 .n σ (joinK (some f50lE) K)) (joinK (some f50lE) K))) (funext fun s4_2 => funext fun s4_3 => funext fun t2_0 => funext fun t2_1 => funext fun s4_0 => funext fun s4_1 => f50t12 N s4_2 s4_3 t2_0 t2_1 s4_0 s4_1 K) (by kernel_rfl) (by kernel_rfl)
noncomputable def f50c4 := codeAt (bodyOf Try.f50) [1,1]
noncomputable def f50p4 : Plan := .mk (some f50l2) none .n f50p6
theorem f50t4 {ρ : Type} (N : Nat) (m1_0 : Int) (m1_1 : Int) (m1_2 : List Int) (t2_0 : Int) (t2_1 : Int) (K : KT ρ) : f50i N f50c4 f50p4 (f50s1 m1_0 m1_1 m1_2 t2_0 t2_1) (joinK (some f50lE) K) =
  impl_InitialSeed.Z4 N m1_0 m1_1 m1_2 t2_0 t2_1 (fun t2_2 t2_3 t3 t2_0 t2_1 => K .ret (f50s6 t2_2 t2_3 t3 t2_0 t2_1)) :=
  viaSeq (fun k => impl_InitialSeed.Z5 N m1_0 m1_1 m1_2 t2_0 t2_1 k) (by kernel_rfl) (by kernel_rfl) (f50t5 N m1_0 m1_1 m1_2 t2_0 t2_1 (seqK (fun σ => f50i N f50c6 f50p6 σ (joinK (some f50lE) K)) (joinK (some f50lE) K))) (funext fun s4_2 => funext fun m1_0 => funext fun m1_1 => funext fun m1_2 => funext fun t2_0 => funext fun t2_1 => funext fun s4_0 => funext fun s4_1 => f50t6 N s4_2 m1_0 m1_1 m1_2 t2_0 t2_1 s4_0 s4_1 K) (by kernel_rfl) (by kernel_rfl)
noncomputable def f50c2 := codeAt (bodyOf Try.f50) [1]
noncomputable def f50p2 : Plan := .mk (some f50l1) none .n f50p4
theorem f50t2 {ρ : Type} (N : Nat) (m1_0 : Int) (m1_1 : Int) (m1_2 : List Int) (t2_0 : Int) (t2_1 : Int) (K : KT ρ) : f50i N f50c2 f50p2 (f50s1 m1_0 m1_1 m1_2 t2_0 t2_1) (joinK (some f50lE) K) =
  impl_InitialSeed.Z2 N m1_0 m1_1 m1_2 t2_0 t2_1 (fun t2_2 t2_3 t3 t2_0 t2_1 => K .ret (f50s6 t2_2 t2_3 t3 t2_0 t2_1)) :=
  viaSeq (fun k => impl_InitialSeed.Z3 N m1_0 m1_1 m1_2 t2_0 t2_1 k (fun t2_2 t2_3 t3 t2_0 t2_1 => K .ret (f50s6 t2_2 t2_3 t3 t2_0 t2_1))) (by kernel_rfl) (by kernel_rfl) (f50t3 N m1_0 m1_1 m1_2 t2_0 t2_1 (seqK (fun σ => f50i N f50c4 f50p4 σ (joinK (some f50lE) K)) (joinK (some f50lE) K))) (funext fun m1_0 => funext fun m1_1 => funext fun m1_2 => funext fun t2_0 => funext fun t2_1 => f50t4 N m1_0 m1_1 m1_2 t2_0 t2_1 K) (by kernel_rfl) (by kernel_rfl)
noncomputable def f50c0 := codeAt (bodyOf Try.f50) []
noncomputable def f50p0 : Plan := .mk (some f50l1) none .n f50p2
theorem f50t0 {ρ : Type} (N : Nat) (m0 : Int × Int × List Int) (K : KT ρ) : f50i N f50c0 f50p0 (f50s0 m0) (joinK (some f50lE) K) =
  impl_InitialSeed.Z0 N m0 (fun t2_2 t2_3 t3 t2_0 t2_1 => K .ret (f50s6 t2_2 t2_3 t3 t2_0 t2_1)) :=
  viaSeq (fun k => impl_InitialSeed.Z1 N m0 k) (by kernel_rfl) (by kernel_rfl) (f50t1 N m0 (seqK (fun σ => f50i N f50c2 f50p2 σ (joinK (some f50lE) K)) (joinK (some f50lE) K))) (funext fun m1_0 => funext fun m1_1 => funext fun m1_2 => funext fun t2_0 => funext fun t2_1 => f50t2 N m1_0 m1_1 m1_2 t2_0 t2_1 K) (by kernel_rfl) (by kernel_rfl)
theorem f50m (N : Nat) (m0 : Int × Int × List Int) : f50i N f50c0 f50p0 (f50s0 m0) (joinK (some f50lE) (finK tab f50sig Try.f50.results.toList)) = impl_InitialSeed.Z0 N m0 (fun t2_2 t2_3 t3 t2_0 t2_1 => some ((), (((t2_0, (t2_1, t2_2)), t2_3), (t3, ())))) :=
  (f50t0 N m0 (finK tab f50sig Try.f50.results.toList)).trans (by kernel_rfl)
theorem f50ok (h : impl_InitialSeed.Spec) : EntryOk Try.prog 50 e50 :=
  entry_of_code (sig := f50sig) (c := f50c0) (pl := f50p0) (je := (some f50lE)) (B := f50B) Try.func50 (by kernel_rfl) (by kernel_rfl) (by kernel_rfl) tabOk f50GOk (by kernel_rfl) (by kernel_rfl) (by kernel_rfl) (by kernel_rfl) fun X hb hp => by
    obtain ⟨m0, _⟩ := X
    obtain ⟨N, h⟩ := h m0 hb.1
    exact ⟨N, (f50m N m0).trans (h N (Nat.le_refl N))⟩
theorem e50ok : EntryOk Try.prog 50 e50 := f50ok impl_InitialSeed.ok
end Go.Fw
set_option linter.unusedVariables false
set_option linter.unusedSimpArgs false
set_option maxRecDepth 100000
namespace Go.Fw
open Go.Proofs
/-! ### loop.example/g03115/laws.eqIntS -/
noncomputable def f44sig : Sig := ⟨[⟨.sl 3 (.int .i64), false, false⟩, ⟨.sl 3 (.int .i64), false, false⟩], [⟨.bool, false, false⟩]⟩
noncomputable def e44 : Entry := ⟨f44sig, none, fun X => ((), ((laws_eqIntS.g X.1 X.2.1), ()))⟩
noncomputable def f44G : Nat → Option Entry := (fun _ => none)
theorem f44GOk : GOk Try.prog f44G := GOk.nil
noncomputable def f44lE : Clean := ⟨[], [], [], [], []⟩
noncomputable def f44s0 (a0 : List Int) (b1 : List Int) : St := initSt f44sig.ps (a0, (b1, ()))
noncomputable def f44s1 (a0 : List Int) (b1 : List Int) : St := stOf [(0, .c (.sn 3 (.int .i64) a0 none)), (1, .c (.sn 3 (.int .i64) b1 none))] [] []
noncomputable def f44l1 : Clean := ⟨[0, 1], [], [], [], []⟩
noncomputable def f44s2 (a0 : List Int) (b1 : List Int) (i5 : Int) : St := stOf [(0, .c (.sn 3 (.int .i64) a0 none)), (1, .c (.sn 3 (.int .i64) b1 none)), (5, .c (.int .i64 i5))] [] []
noncomputable def f44l2 : Clean := ⟨[0, 1, 5], [], [], [], []⟩
noncomputable def f44s3  : St := stOf [] [] []
noncomputable def f44l3 : Clean := ⟨[], [], [], [], []⟩
noncomputable def f44s4 (t4 : Bool) : St := stOf [(4, .c (.bool t4))] [] []
noncomputable def f44l4 : Clean := ⟨[4], [], [], [], []⟩
noncomputable def f44B : Nat → Option Clean := lookL [(0, f44l3), (1000000, f44l4)]
noncomputable abbrev f44i {ρ : Type} (N : Nat) (c : Code) (p : Plan) (σ : St) (K : KT ρ) : Option ρ := iCode f44G tab f44B N c p σ K
noncomputable def f44c1 := codeAt (bodyOf Try.f44) [0]
theorem f44t1 {ρ : Type} (N : Nat) (a0 : List Int) (b1 : List Int) (K : KT ρ) : f44i N f44c1 .n (f44s0 a0 b1) (joinK (some f44l1) K) =
  laws_eqIntS.Z1 N a0 b1 (fun a0 b1 => K .nrm (f44s1 a0 b1)) := by kernel_rfl
noncomputable def f44c3 := codeAt (bodyOf Try.f44) [1,0]
theorem f44t3 {ρ : Type} (N : Nat) (a0 : List Int) (b1 : List Int) (K : KT ρ) : f44i N f44c3 .n (f44s1 a0 b1) (joinK (some f44l1) K) =
  laws_eqIntS.Z3 N a0 b1 (fun a0 b1 => K .nrm (f44s1 a0 b1)) (fun t4 => K .ret (f44s4 t4)) := by kernel_rfl
noncomputable def f44c6 := codeAt (bodyOf Try.f44) [1,1,0,0]
theorem f44t6 {ρ : Type} (N : Nat) (a0 : List Int) (b1 : List Int) (K : KT ρ) : f44i N f44c6 .n (f44s1 a0 b1) (joinK (some f44l2) K) =
  laws_eqIntS.Z6 N a0 b1 (fun a0 b1 i5 => K .nrm (f44s2 a0 b1 i5)) := by kernel_rfl
noncomputable def f44c9 := codeAt (bodyOf Try.f44) [1,1,0,1,0,0]
theorem f44t9 {ρ : Type} (N : Nat) (a0 : List Int) (b1 : List Int) (i5 : Int) (K : KT ρ) : f44i N f44c9 .n (f44s2 a0 b1 i5) (joinK (some f44l2) K) =
  laws_eqIntS.Z9 N a0 b1 i5 (fun a0 b1 i5 => K .nrm (f44s2 a0 b1 i5)) (K (.exit 0) f44s3) (fun t4 => K .ret (f44s4 t4)) := by kernel_rfl
noncomputable def f44c8 := codeAt (bodyOf Try.f44) [1,1,0,1,0]
noncomputable def f44p8 : Plan := .mk none (some f44l2) .n .n
noncomputable abbrev f44w8 {ρ : Type} (N : Nat) (M : Nat) (σ : St) (K : KT ρ) : Option ρ := loopC (fun σ K => f44i N f44c9 .n σ K) f44l2 M σ K
theorem f44t8L {ρ : Type} (N : Nat) (K : KT ρ) : ∀ (M : Nat) (a0 : List Int) (b1 : List Int) (i5 : Int), f44w8 N M (f44s2 a0 b1 i5) K =
  laws_eqIntS.Z8L N (K (.exit 0) f44s3) (fun t4 => K .ret (f44s4 t4)) M a0 b1 i5
  | 0, _, _, _ => rfl
  | M + 1, a0, b1, i5 => viaRound (fun k => laws_eqIntS.Z9 N a0 b1 i5 k (K (.exit 0) f44s3) (fun t4 => K .ret (f44s4 t4))) (f44t9 N a0 b1 i5 (seqK (fun σ => f44w8 N M σ K) K)) (funext fun a0 => funext fun b1 => funext fun i5 => f44t8L N K M a0 b1 i5) (by kernel_rfl) (by kernel_rfl)
theorem f44t8 {ρ : Type} (N : Nat) (a0 : List Int) (b1 : List Int) (i5 : Int) (K : KT ρ) : f44i N f44c8 f44p8 (f44s2 a0 b1 i5) (joinK (some f44l3) K) =
  laws_eqIntS.Z8 N a0 b1 i5 (K (.exit 0) f44s3) (fun t4 => K .ret (f44s4 t4)) :=
  viaLoop (by kernel_rfl) (by kernel_rfl) (σ' := f44s2 a0 b1 i5) (by kernel_rfl) (f44t8L N (joinK (some f44l3) K) N a0 b1 i5) (by kernel_rfl)
noncomputable def f44c7 := codeAt (bodyOf Try.f44) [1,1,0,1]
noncomputable def f44p7 : Plan := .mk (some f44l3) none f44p8 .n
theorem f44t7 {ρ : Type} (N : Nat) (a0 : List Int) (b1 : List Int) (i5 : Int) (K : KT ρ) : f44i N f44c7 f44p7 (f44s2 a0 b1 i5) (joinK (some f44l3) K) =
  laws_eqIntS.Z7 N a0 b1 i5 (K .nrm f44s3) (fun t4 => K .ret (f44s4 t4)) :=
  viaBlock (by kernel_rfl) (by kernel_rfl) (f44t8 N a0 b1 i5 (blockK 0 (joinK (some f44l3) K))) (by kernel_rfl)
noncomputable def f44c5 := codeAt (bodyOf Try.f44) [1,1,0]
noncomputable def f44p5 : Plan := .mk (some f44l2) none .n f44p7
theorem f44t5 {ρ : Type} (N : Nat) (a0 : List Int) (b1 : List Int) (K : KT ρ) : f44i N f44c5 f44p5 (f44s1 a0 b1) (joinK (some f44l3) K) =
  laws_eqIntS.Z5 N a0 b1 (K .nrm f44s3) (fun t4 => K .ret (f44s4 t4)) :=
  viaSeq (fun k => laws_eqIntS.Z6 N a0 b1 k) (by kernel_rfl) (by kernel_rfl) (f44t6 N a0 b1 (seqK (fun σ => f44i N f44c7 f44p7 σ (joinK (some f44l3) K)) (joinK (some f44l3) K))) (funext fun a0 => funext fun b1 => funext fun i5 => f44t7 N a0 b1 i5 K) (by kernel_rfl) (by kernel_rfl)
noncomputable def f44c10 := codeAt (bodyOf Try.f44) [1,1,1]
theorem f44t10 {ρ : Type} (N : Nat)  (K : KT ρ) : f44i N f44c10 .n f44s3 (joinK (some f44lE) K) =
  laws_eqIntS.Z10 N (fun t4 => K .ret (f44s4 t4)) := by kernel_rfl
noncomputable def f44c4 := codeAt (bodyOf Try.f44) [1,1]
noncomputable def f44p4 : Plan := .mk (some f44l3) none f44p5 .n
theorem f44t4 {ρ : Type} (N : Nat) (a0 : List Int) (b1 : List Int) (K : KT ρ) : f44i N f44c4 f44p4 (f44s1 a0 b1) (joinK (some f44lE) K) =
  laws_eqIntS.Z4 N a0 b1 (fun t4 => K .ret (f44s4 t4)) :=
  viaSeq (fun k => laws_eqIntS.Z5 N a0 b1 k (fun t4 => K .ret (f44s4 t4))) (by kernel_rfl) (by kernel_rfl) (f44t5 N a0 b1 (seqK (fun σ => f44i N f44c10 .n σ (joinK (some f44lE) K)) (joinK (some f44lE) K))) (f44t10 N K) (by kernel_rfl) (by kernel_rfl)
noncomputable def f44c2 := codeAt (bodyOf Try.f44) [1]
noncomputable def f44p2 : Plan := .mk (some f44l1) none .n f44p4
theorem f44t2 {ρ : Type} (N : Nat) (a0 : List Int) (b1 : List Int) (K : KT ρ) : f44i N f44c2 f44p2 (f44s1 a0 b1) (joinK (some f44lE) K) =
  laws_eqIntS.Z2 N a0 b1 (fun t4 => K .ret (f44s4 t4)) :=
  viaSeq (fun k => laws_eqIntS.Z3 N a0 b1 k (fun t4 => K .ret (f44s4 t4))) (by kernel_rfl) (by kernel_rfl) (f44t3 N a0 b1 (seqK (fun σ => f44i N f44c4 f44p4 σ (joinK (some f44lE) K)) (joinK (some f44lE) K))) (funext fun a0 => funext fun b1 => f44t4 N a0 b1 K) (by kernel_rfl) (by kernel_rfl)
noncomputable def f44c0 := codeAt (bodyOf Try.f44) []
noncomputable def f44p0 : Plan := .mk (some f44l1) none .n f44p2
theorem f44t0 {ρ : Type} (N : Nat) (a0 : List Int) (b1 : List Int) (K : KT ρ) : f44i N f44c0 f44p0 (f44s0 a0 b1) (joinK (some f44lE) K) =
  laws_eqIntS.Z0 N a0 b1 (fun t4 => K .ret (f44s4 t4)) :=
  viaSeq (fun k => laws_eqIntS.Z1 N a0 b1 k) (by kernel_rfl) (by kernel_rfl) (f44t1 N a0 b1 (seqK (fun σ => f44i N f44c2 f44p2 σ (joinK (some f44lE) K)) (joinK (some f44lE) K))) (funext fun a0 => funext fun b1 => f44t2 N a0 b1 K) (by kernel_rfl) (by kernel_rfl)
theorem f44m (N : Nat) (a0 : List Int) (b1 : List Int) : f44i N f44c0 f44p0 (f44s0 a0 b1) (joinK (some f44lE) (finK tab f44sig Try.f44.results.toList)) = laws_eqIntS.Z0 N a0 b1 (fun t4 => some ((), (t4, ()))) :=
  (f44t0 N a0 b1 (finK tab f44sig Try.f44.results.toList)).trans (by kernel_rfl)
theorem f44ok (h : laws_eqIntS.Spec) : EntryOk Try.prog 44 e44 :=
  entry_of_code (sig := f44sig) (c := f44c0) (pl := f44p0) (je := (some f44lE)) (B := f44B) Try.func44 (by kernel_rfl) (by kernel_rfl) (by kernel_rfl) tabOk f44GOk (by kernel_rfl) (by kernel_rfl) (by kernel_rfl) (by kernel_rfl) fun X hb hp => by
    obtain ⟨a0, b1, _⟩ := X
    obtain ⟨N, h⟩ := h a0 b1 hb.1 hb.2.1
    exact ⟨N, (f44m N a0 b1).trans (h N (Nat.le_refl N))⟩
theorem e44ok : EntryOk Try.prog 44 e44 := f44ok laws_eqIntS.ok
end Go.Fw
set_option linter.unusedVariables false
set_option linter.unusedSimpArgs false
set_option maxRecDepth 100000
namespace Go.Fw
open Go.Proofs
/-! ### loop.example/g03115/laws.eqMatrix -/
noncomputable def f31sig : Sig := ⟨[⟨.pair (.int .i64) (.pair (.int .i64) (.sl 3 (.int .i64))), true, false⟩, ⟨.pair (.int .i64) (.pair (.int .i64) (.sl 3 (.int .i64))), true, false⟩], [⟨.bool, false, false⟩]⟩
noncomputable def e31 : Entry := ⟨f31sig, none, fun X => ((), ((laws_eqMatrix.g X.1 X.2.1), ()))⟩
noncomputable def f31G : Nat → Option Entry := addG (fun _ => none) 44 e44
theorem f31GOk : GOk Try.prog f31G := (GOk.nil).add e44ok (by kernel_rfl)
noncomputable def f31lE : Clean := ⟨[], [], [], [], []⟩
noncomputable def f31s0 (a0 : Int × Int × List Int) (b1 : Int × Int × List Int) : St := initSt f31sig.ps (a0, (b1, ()))
noncomputable def f31s1 (t4 : Bool) : St := stOf [(4, .c (.bool t4))] [] []
noncomputable def f31l1 : Clean := ⟨[4], [], [], [], []⟩
noncomputable def f31B : Nat → Option Clean := lookL [(1000000, f31l1)]
noncomputable abbrev f31i {ρ : Type} (N : Nat) (c : Code) (p : Plan) (σ : St) (K : KT ρ) : Option ρ := iCode f31G tab f31B N c p σ K
noncomputable def f31c0 := codeAt (bodyOf Try.f31) []
theorem f31t0 {ρ : Type} (N : Nat) (a0 : Int × Int × List Int) (b1 : Int × Int × List Int) (K : KT ρ) : f31i N f31c0 .n (f31s0 a0 b1) (joinK (some f31lE) K) =
  laws_eqMatrix.Z0 N a0 b1 (fun t4 => K .ret (f31s1 t4)) := by kernel_rfl
theorem f31m (N : Nat) (a0 : Int × Int × List Int) (b1 : Int × Int × List Int) : f31i N f31c0 .n (f31s0 a0 b1) (joinK (some f31lE) (finK tab f31sig Try.f31.results.toList)) = laws_eqMatrix.Z0 N a0 b1 (fun t4 => some ((), (t4, ()))) :=
  (f31t0 N a0 b1 (finK tab f31sig Try.f31.results.toList)).trans (by kernel_rfl)
theorem f31ok (h : laws_eqMatrix.Spec) : EntryOk Try.prog 31 e31 :=
  entry_of_code (sig := f31sig) (c := f31c0) (pl := .n) (je := (some f31lE)) (B := f31B) Try.func31 (by kernel_rfl) (by kernel_rfl) (by kernel_rfl) tabOk f31GOk (by kernel_rfl) (by kernel_rfl) (by kernel_rfl) (by kernel_rfl) fun X hb hp => by
    obtain ⟨a0, b1, _⟩ := X
    obtain ⟨N, h⟩ := h a0 b1 hb.1 hb.2.1
    exact ⟨N, (f31m N a0 b1).trans (h N (Nat.le_refl N))⟩
theorem e31ok : EntryOk Try.prog 31 e31 := f31ok laws_eqMatrix.ok
end Go.Fw
set_option linter.unusedVariables false
set_option linter.unusedSimpArgs false
set_option maxRecDepth 100000
namespace Go.Fw
open Go.Proofs
/-! ### loop.example/g03115/laws.eqTerm -/
noncomputable def f122sig : Sig := ⟨[⟨.pair (.sl 3 (.int .i64)) (.int .i64), true, false⟩, ⟨.pair (.sl 3 (.int .i64)) (.int .i64), true, false⟩], [⟨.bool, false, false⟩]⟩
noncomputable def e122 : Entry := ⟨f122sig, none, fun X => ((), ((laws_eqTerm.g X.1 X.2.1), ()))⟩
noncomputable def f122G : Nat → Option Entry := addG (fun _ => none) 44 e44
theorem f122GOk : GOk Try.prog f122G := (GOk.nil).add e44ok (by kernel_rfl)
noncomputable def f122lE : Clean := ⟨[], [], [], [], []⟩
noncomputable def f122s0 (a0 : List Int × Int) (b1 : List Int × Int) : St := initSt f122sig.ps (a0, (b1, ()))
noncomputable def f122s1 (t4 : Bool) : St := stOf [(4, .c (.bool t4))] [] []
noncomputable def f122l1 : Clean := ⟨[4], [], [], [], []⟩
noncomputable def f122B : Nat → Option Clean := lookL [(1000000, f122l1)]
noncomputable abbrev f122i {ρ : Type} (N : Nat) (c : Code) (p : Plan) (σ : St) (K : KT ρ) : Option ρ := iCode f122G tab f122B N c p σ K
noncomputable def f122c0 := codeAt (bodyOf Try.f122) []
theorem f122t0 {ρ : Type} (N : Nat) (a0 : List Int × Int) (b1 : List Int × Int) (K : KT ρ) : f122i N f122c0 .n (f122s0 a0 b1) (joinK (some f122lE) K) =
  laws_eqTerm.Z0 N a0 b1 (fun t4 => K .ret (f122s1 t4)) := by kernel_rfl
theorem f122m (N : Nat) (a0 : List Int × Int) (b1 : List Int × Int) : f122i N f122c0 .n (f122s0 a0 b1) (joinK (some f122lE) (finK tab f122sig Try.f122.results.toList)) = laws_eqTerm.Z0 N a0 b1 (fun t4 => some ((), (t4, ()))) :=
  (f122t0 N a0 b1 (finK tab f122sig Try.f122.results.toList)).trans (by kernel_rfl)
theorem f122ok (h : laws_eqTerm.Spec) : EntryOk Try.prog 122 e122 :=
  entry_of_code (sig := f122sig) (c := f122c0) (pl := .n) (je := (some f122lE)) (B := f122B) Try.func122 (by kernel_rfl) (by kernel_rfl) (by kernel_rfl) tabOk f122GOk (by kernel_rfl) (by kernel_rfl) (by kernel_rfl) (by kernel_rfl) fun X hb hp => by
    obtain ⟨a0, b1, _⟩ := X
    obtain ⟨N, h⟩ := h a0 b1 hb.1 hb.2.1
    exact ⟨N, (f122m N a0 b1).trans (h N (Nat.le_refl N))⟩
theorem e122ok : EntryOk Try.prog 122 e122 := f122ok laws_eqTerm.ok
end Go.Fw
set_option linter.unusedVariables false
set_option linter.unusedSimpArgs false
set_option maxRecDepth 100000
namespace Go.Fw
open Go.Proofs
/-! ### loop.example/g03115/laws.eqTermS -/
noncomputable def f119sig : Sig := ⟨[⟨.sl 103 (.pair (.sl 3 (.int .i64)) (.int .i64)), false, false⟩, ⟨.sl 103 (.pair (.sl 3 (.int .i64)) (.int .i64)), false, false⟩], [⟨.bool, false, false⟩]⟩
noncomputable def e119 : Entry := ⟨f119sig, none, fun X => ((), ((laws_eqTermS.g X.1 X.2.1), ()))⟩
noncomputable def f119G : Nat → Option Entry := addG (fun _ => none) 122 e122
theorem f119GOk : GOk Try.prog f119G := (GOk.nil).add e122ok (by kernel_rfl)
noncomputable def f119lE : Clean := ⟨[], [], [], [], []⟩
noncomputable def f119s0 (a0 : List (List Int × Int)) (b1 : List (List Int × Int)) : St := initSt f119sig.ps (a0, (b1, ()))
noncomputable def f119s1 (a0 : List (List Int × Int)) (b1 : List (List Int × Int)) : St := stOf [(0, .c (.sn 103 (.pair (.sl 3 (.int .i64)) (.int .i64)) a0 none)), (1, .c (.sn 103 (.pair (.sl 3 (.int .i64)) (.int .i64)) b1 none))] [] []
noncomputable def f119l1 : Clean := ⟨[0, 1], [], [], [], []⟩
noncomputable def f119s2 (a0 : List (List Int × Int)) (b1 : List (List Int × Int)) (i5 : Int) : St := stOf [(0, .c (.sn 103 (.pair (.sl 3 (.int .i64)) (.int .i64)) a0 none)), (1, .c (.sn 103 (.pair (.sl 3 (.int .i64)) (.int .i64)) b1 none)), (5, .c (.int .i64 i5))] [] []
noncomputable def f119l2 : Clean := ⟨[0, 1, 5], [], [], [], []⟩
noncomputable def f119s3  : St := stOf [] [] []
noncomputable def f119l3 : Clean := ⟨[], [], [], [], []⟩
noncomputable def f119s4 (t4 : Bool) : St := stOf [(4, .c (.bool t4))] [] []
noncomputable def f119l4 : Clean := ⟨[4], [], [], [], []⟩
noncomputable def f119B : Nat → Option Clean := lookL [(0, f119l3), (1000000, f119l4)]
noncomputable abbrev f119i {ρ : Type} (N : Nat) (c : Code) (p : Plan) (σ : St) (K : KT ρ) : Option ρ := iCode f119G tab f119B N c p σ K
noncomputable def f119c1 := codeAt (bodyOf Try.f119) [0]
theorem f119t1 {ρ : Type} (N : Nat) (a0 : List (List Int × Int)) (b1 : List (List Int × Int)) (K : KT ρ) : f119i N f119c1 .n (f119s0 a0 b1) (joinK (some f119l1) K) =
  laws_eqTermS.Z1 N a0 b1 (fun a0 b1 => K .nrm (f119s1 a0 b1)) := by kernel_rfl
noncomputable def f119c3 := codeAt (bodyOf Try.f119) [1,0]
theorem f119t3 {ρ : Type} (N : Nat) (a0 : List (List Int × Int)) (b1 : List (List Int × Int)) (K : KT ρ) : f119i N f119c3 .n (f119s1 a0 b1) (joinK (some f119l1) K) =
  laws_eqTermS.Z3 N a0 b1 (fun a0 b1 => K .nrm (f119s1 a0 b1)) (fun t4 => K .ret (f119s4 t4)) := by kernel_rfl
noncomputable def f119c6 := codeAt (bodyOf Try.f119) [1,1,0,0]
theorem f119t6 {ρ : Type} (N : Nat) (a0 : List (List Int × Int)) (b1 : List (List Int × Int)) (K : KT ρ) : f119i N f119c6 .n (f119s1 a0 b1) (joinK (some f119l2) K) =
  laws_eqTermS.Z6 N a0 b1 (fun a0 b1 i5 => K .nrm (f119s2 a0 b1 i5)) := by kernel_rfl
noncomputable def f119c9 := codeAt (bodyOf Try.f119) [1,1,0,1,0,0]
theorem f119t9 {ρ : Type} (N : Nat) (a0 : List (List Int × Int)) (b1 : List (List Int × Int)) (i5 : Int) (K : KT ρ) : f119i N f119c9 .n (f119s2 a0 b1 i5) (joinK (some f119l2) K) =
  laws_eqTermS.Z9 N a0 b1 i5 (fun a0 b1 i5 => K .nrm (f119s2 a0 b1 i5)) (K (.exit 0) f119s3) (fun t4 => K .ret (f119s4 t4)) := by kernel_rfl
noncomputable def f119c8 := codeAt (bodyOf Try.f119) [1,1,0,1,0]
noncomputable def f119p8 : Plan := .mk none (some f119l2) .n .n
noncomputable abbrev f119w8 {ρ : Type} (N : Nat) (M : Nat) (σ : St) (K : KT ρ) : Option ρ := loopC (fun σ K => f119i N f119c9 .n σ K) f119l2 M σ K
theorem f119t8L {ρ : Type} (N : Nat) (K : KT ρ) : ∀ (M : Nat) (a0 : List (List Int × Int)) (b1 : List (List Int × Int)) (i5 : Int), f119w8 N M (f119s2 a0 b1 i5) K =
  laws_eqTermS.Z8L N (K (.exit 0) f119s3) (fun t4 => K .ret (f119s4 t4)) M a0 b1 i5
  | 0, _, _, _ => rfl
  | M + 1, a0, b1, i5 => viaRound (fun k => laws_eqTermS.Z9 N a0 b1 i5 k (K (.exit 0) f119s3) (fun t4 => K .ret (f119s4 t4))) (f119t9 N a0 b1 i5 (seqK (fun σ => f119w8 N M σ K) K)) (funext fun a0 => funext fun b1 => funext fun i5 => f119t8L N K M a0 b1 i5) (by kernel_rfl) (by kernel_rfl)
theorem f119t8 {ρ : Type} (N : Nat) (a0 : List (List Int × Int)) (b1 : List (List Int × Int)) (i5 : Int) (K : KT ρ) : f119i N f119c8 f119p8 (f119s2 a0 b1 i5) (joinK (some f119l3) K) =
  laws_eqTermS.Z8 N a0 b1 i5 (K (.exit 0) f119s3) (fun t4 => K .ret (f119s4 t4)) :=
  viaLoop (by kernel_rfl) (by kernel_rfl) (σ' := f119s2 a0 b1 i5) (by kernel_rfl) (f119t8L N (joinK (some f119l3) K) N a0 b1 i5) (by kernel_rfl)
noncomputable def f119c7 := codeAt (bodyOf Try.f119) [1,1,0,1]
noncomputable def f119p7 : Plan := .mk (some f119l3) none f119p8 .n
theorem f119t7 {ρ : Type} (N : Nat) (a0 : List (List Int × Int)) (b1 : List (List Int × Int)) (i5 : Int) (K : KT ρ) : f119i N f119c7 f119p7 (f119s2 a0 b1 i5) (joinK (some f119l3) K) =
  laws_eqTermS.Z7 N a0 b1 i5 (K .nrm f119s3) (fun t4 => K .ret (f119s4 t4)) :=
  viaBlock (by kernel_rfl) (by kernel_rfl) (f119t8 N a0 b1 i5 (blockK 0 (joinK (some f119l3) K))) (by kernel_rfl)
noncomputable def f119c5 := codeAt (bodyOf Try.f119) [1,1,0]
noncomputable def f119p5 : Plan := .mk (some f119l2) none .n f119p7
theorem f119t5 {ρ : Type} (N : Nat) (a0 : List (List Int × Int)) (b1 : List (List Int × Int)) (K : KT ρ) : f119i N f119c5 f119p5 (f119s1 a0 b1) (joinK (some f119l3) K) =
  laws_eqTermS.Z5 N a0 b1 (K .nrm f119s3) (fun t4 => K .ret (f119s4 t4)) :=
  viaSeq (fun k => laws_eqTermS.Z6 N a0 b1 k) (by kernel_rfl) (by kernel_rfl) (f119t6 N a0 b1 (seqK (fun σ => f119i N f119c7 f119p7 σ (joinK (some f119l3) K)) (joinK (some f119l3) K))) (funext fun a0 => funext fun b1 => funext fun i5 => f119t7 N a0 b1 i5 K) (by kernel_rfl) (by kernel_rfl)
noncomputable def f119c10 := codeAt (bodyOf Try.f119) [1,1,1]
theorem f119t10 {ρ : Type} (N : Nat)  (K : KT ρ) : f119i N f119c10 .n f119s3 (joinK (some f119lE) K) =
  laws_eqTermS.Z10 N (fun t4 => K .ret (f119s4 t4)) := by kernel_rfl
noncomputable def f119c4 := codeAt (bodyOf Try.f119) [1,1]
noncomputable def f119p4 : Plan := .mk (some f119l3) none f119p5 .n
theorem f119t4 {ρ : Type} (N : Nat) (a0 : List (List Int × Int)) (b1 : List (List Int × Int)) (K : KT ρ) : f119i N f119c4 f119p4 (f119s1 a0 b1) (joinK (some f119lE) K) =
  laws_eqTermS.Z4 N a0 b1 (fun t4 => K .ret (f119s4 t4)) :=
  viaSeq (fun k => laws_eqTermS.Z5 N a0 b1 k (fun t4 => K .ret (f119s4 t4))) (by kernel_rfl) (by kernel_rfl) (f119t5 N a0 b1 (seqK (fun σ => f119i N f119c10 .n σ (joinK (some f119lE) K)) (joinK (some f119lE) K))) (f119t10 N K) (by kernel_rfl) (by kernel_rfl)
noncomputable def f119c2 := codeAt (bodyOf Try.f119) [1]
noncomputable def f119p2 : Plan := .mk (some f119l1) none .n f119p4
theorem f119t2 {ρ : Type} (N : Nat) (a0 : List (List Int × Int)) (b1 : List (List Int × Int)) (K : KT ρ) : f119i N f119c2 f119p2 (f119s1 a0 b1) (joinK (some f119lE) K) =
  laws_eqTermS.Z2 N a0 b1 (fun t4 => K .ret (f119s4 t4)) :=
  viaSeq (fun k => laws_eqTermS.Z3 N a0 b1 k (fun t4 => K .ret (f119s4 t4))) (by kernel_rfl) (by kernel_rfl) (f119t3 N a0 b1 (seqK (fun σ => f119i N f119c4 f119p4 σ (joinK (some f119lE) K)) (joinK (some f119lE) K))) (funext fun a0 => funext fun b1 => f119t4 N a0 b1 K) (by kernel_rfl) (by kernel_rfl)
noncomputable def f119c0 := codeAt (bodyOf Try.f119) []
noncomputable def f119p0 : Plan := .mk (some f119l1) none .n f119p2
theorem f119t0 {ρ : Type} (N : Nat) (a0 : List (List Int × Int)) (b1 : List (List Int × Int)) (K : KT ρ) : f119i N f119c0 f119p0 (f119s0 a0 b1) (joinK (some f119lE) K) =
  laws_eqTermS.Z0 N a0 b1 (fun t4 => K .ret (f119s4 t4)) :=
  viaSeq (fun k => laws_eqTermS.Z1 N a0 b1 k) (by kernel_rfl) (by kernel_rfl) (f119t1 N a0 b1 (seqK (fun σ => f119i N f119c2 f119p2 σ (joinK (some f119lE) K)) (joinK (some f119lE) K))) (funext fun a0 => funext fun b1 => f119t2 N a0 b1 K) (by kernel_rfl) (by kernel_rfl)
theorem f119m (N : Nat) (a0 : List (List Int × Int)) (b1 : List (List Int × Int)) : f119i N f119c0 f119p0 (f119s0 a0 b1) (joinK (some f119lE) (finK tab f119sig Try.f119.results.toList)) = laws_eqTermS.Z0 N a0 b1 (fun t4 => some ((), (t4, ()))) :=
  (f119t0 N a0 b1 (finK tab f119sig Try.f119.results.toList)).trans (by kernel_rfl)
theorem f119ok (h : laws_eqTermS.Spec) : EntryOk Try.prog 119 e119 :=
  entry_of_code (sig := f119sig) (c := f119c0) (pl := f119p0) (je := (some f119lE)) (B := f119B) Try.func119 (by kernel_rfl) (by kernel_rfl) (by kernel_rfl) tabOk f119GOk (by kernel_rfl) (by kernel_rfl) (by kernel_rfl) (by kernel_rfl) fun X hb hp => by
    obtain ⟨a0, b1, _⟩ := X
    obtain ⟨N, h⟩ := h a0 b1 hb.1 hb.2.1
    exact ⟨N, (f119m N a0 b1).trans (h N (Nat.le_refl N))⟩
theorem e119ok : EntryOk Try.prog 119 e119 := f119ok laws_eqTermS.ok
end Go.Fw
set_option linter.unusedVariables false
set_option linter.unusedSimpArgs false
set_option maxRecDepth 100000
namespace Go.Fw
open Go.Proofs
/-! ### loop.example/g03115/laws.eqLaurent -/
noncomputable def f105sig : Sig := ⟨[⟨.pair (.int .i64) (.sl 103 (.pair (.sl 3 (.int .i64)) (.int .i64))), true, false⟩, ⟨.pair (.int .i64) (.sl 103 (.pair (.sl 3 (.int .i64)) (.int .i64))), true, false⟩], [⟨.bool, false, false⟩]⟩
noncomputable def e105 : Entry := ⟨f105sig, none, fun X => ((), ((laws_eqLaurent.g X.1 X.2.1), ()))⟩
noncomputable def f105G : Nat → Option Entry := addG (fun _ => none) 119 e119
theorem f105GOk : GOk Try.prog f105G := (GOk.nil).add e119ok (by kernel_rfl)
noncomputable def f105lE : Clean := ⟨[], [], [], [], []⟩
noncomputable def f105s0 (a0 : Int × List (List Int × Int)) (b1 : Int × List (List Int × Int)) : St := initSt f105sig.ps (a0, (b1, ()))
noncomputable def f105s1 (t4 : Bool) : St := stOf [(4, .c (.bool t4))] [] []
noncomputable def f105l1 : Clean := ⟨[4], [], [], [], []⟩
noncomputable def f105B : Nat → Option Clean := lookL [(1000000, f105l1)]
noncomputable abbrev f105i {ρ : Type} (N : Nat) (c : Code) (p : Plan) (σ : St) (K : KT ρ) : Option ρ := iCode f105G tab f105B N c p σ K
noncomputable def f105c0 := codeAt (bodyOf Try.f105) []
theorem f105t0 {ρ : Type} (N : Nat) (a0 : Int × List (List Int × Int)) (b1 : Int × List (List Int × Int)) (K : KT ρ) : f105i N f105c0 .n (f105s0 a0 b1) (joinK (some f105lE) K) =
  laws_eqLaurent.Z0 N a0 b1 (fun t4 => K .ret (f105s1 t4)) := by kernel_rfl
theorem f105m (N : Nat) (a0 : Int × List (List Int × Int)) (b1 : Int × List (List Int × Int)) : f105i N f105c0 .n (f105s0 a0 b1) (joinK (some f105lE) (finK tab f105sig Try.f105.results.toList)) = laws_eqLaurent.Z0 N a0 b1 (fun t4 => some ((), (t4, ()))) :=
  (f105t0 N a0 b1 (finK tab f105sig Try.f105.results.toList)).trans (by kernel_rfl)
theorem f105ok (h : laws_eqLaurent.Spec) : EntryOk Try.prog 105 e105 :=
  entry_of_code (sig := f105sig) (c := f105c0) (pl := .n) (je := (some f105lE)) (B := f105B) Try.func105 (by kernel_rfl) (by kernel_rfl) (by kernel_rfl) tabOk f105GOk (by kernel_rfl) (by kernel_rfl) (by kernel_rfl) (by kernel_rfl) fun X hb hp => by
    obtain ⟨a0, b1, _⟩ := X
    obtain ⟨N, h⟩ := h a0 b1 hb.1 hb.2.1
    exact ⟨N, (f105m N a0 b1).trans (h N (Nat.le_refl N))⟩
theorem e105ok : EntryOk Try.prog 105 e105 := f105ok laws_eqLaurent.ok
end Go.Fw
set_option linter.unusedVariables false
set_option linter.unusedSimpArgs false
set_option maxRecDepth 100000
namespace Go.Fw
open Go.Proofs
/-! ### loop.example/g03115/laws.eqLaurentS -/
noncomputable def f89sig : Sig := ⟨[⟨.sl 89 (.pair (.int .i64) (.sl 103 (.pair (.sl 3 (.int .i64)) (.int .i64)))), false, false⟩, ⟨.sl 89 (.pair (.int .i64) (.sl 103 (.pair (.sl 3 (.int .i64)) (.int .i64)))), false, false⟩], [⟨.bool, false, false⟩]⟩
noncomputable def e89 : Entry := ⟨f89sig, none, fun X => ((), ((laws_eqLaurentS.g X.1 X.2.1), ()))⟩
noncomputable def f89G : Nat → Option Entry := addG (fun _ => none) 105 e105
theorem f89GOk : GOk Try.prog f89G := (GOk.nil).add e105ok (by kernel_rfl)
noncomputable def f89lE : Clean := ⟨[], [], [], [], []⟩
noncomputable def f89s0 (a0 : List (Int × List (List Int × Int))) (b1 : List (Int × List (List Int × Int))) : St := initSt f89sig.ps (a0, (b1, ()))
noncomputable def f89s1 (a0 : List (Int × List (List Int × Int))) (b1 : List (Int × List (List Int × Int))) : St := stOf [(0, .c (.sn 89 (.pair (.int .i64) (.sl 103 (.pair (.sl 3 (.int .i64)) (.int .i64)))) a0 none)), (1, .c (.sn 89 (.pair (.int .i64) (.sl 103 (.pair (.sl 3 (.int .i64)) (.int .i64)))) b1 none))] [] []
noncomputable def f89l1 : Clean := ⟨[0, 1], [], [], [], []⟩
noncomputable def f89s2 (a0 : List (Int × List (List Int × Int))) (b1 : List (Int × List (List Int × Int))) (i5 : Int) : St := stOf [(0, .c (.sn 89 (.pair (.int .i64) (.sl 103 (.pair (.sl 3 (.int .i64)) (.int .i64)))) a0 none)), (1, .c (.sn 89 (.pair (.int .i64) (.sl 103 (.pair (.sl 3 (.int .i64)) (.int .i64)))) b1 none)), (5, .c (.int .i64 i5))] [] []
noncomputable def f89l2 : Clean := ⟨[0, 1, 5], [], [], [], []⟩
noncomputable def f89s3  : St := stOf [] [] []
noncomputable def f89l3 : Clean := ⟨[], [], [], [], []⟩
noncomputable def f89s4 (t4 : Bool) : St := stOf [(4, .c (.bool t4))] [] []
noncomputable def f89l4 : Clean := ⟨[4], [], [], [], []⟩
noncomputable def f89B : Nat → Option Clean := lookL [(0, f89l3), (1000000, f89l4)]
noncomputable abbrev f89i {ρ : Type} (N : Nat) (c : Code) (p : Plan) (σ : St) (K : KT ρ) : Option ρ := iCode f89G tab f89B N c p σ K
noncomputable def f89c1 := codeAt (bodyOf Try.f89) [0]
theorem f89t1 {ρ : Type} (N : Nat) (a0 : List (Int × List (List Int × Int))) (b1 : List (Int × List (List Int × Int))) (K : KT ρ) : f89i N f89c1 .n (f89s0 a0 b1) (joinK (some f89l1) K) =
  laws_eqLaurentS.Z1 N a0 b1 (fun a0 b1 => K .nrm (f89s1 a0 b1)) := by kernel_rfl
noncomputable def f89c3 := codeAt (bodyOf Try.f89) [1,0]
theorem f89t3 {ρ : Type} (N : Nat) (a0 : List (Int × List (List Int × Int))) (b1 : List (Int × List (List Int × Int))) (K : KT ρ) : f89i N f89c3 .n (f89s1 a0 b1) (joinK (some f89l1) K) =
  laws_eqLaurentS.Z3 N a0 b1 (fun a0 b1 => K .nrm (f89s1 a0 b1)) (fun t4 => K .ret (f89s4 t4)) := by kernel_rfl
noncomputable def f89c6 := codeAt (bodyOf Try.f89) [1,1,0,0]
theorem f89t6 {ρ : Type} (N : Nat) (a0 : List (Int × List (List Int × Int))) (b1 : List (Int × List (List Int × Int))) (K : KT ρ) : f89i N f89c6 .n (f89s1 a0 b1) (joinK (some f89l2) K) =
  laws_eqLaurentS.Z6 N a0 b1 (fun a0 b1 i5 => K .nrm (f89s2 a0 b1 i5)) := by kernel_rfl
noncomputable def f89c9 := codeAt (bodyOf Try.f89) [1,1,0,1,0,0]
theorem f89t9 {ρ : Type} (N : Nat) (a0 : List (Int × List (List Int × Int))) (b1 : List (Int × List (List Int × Int))) (i5 : Int) (K : KT ρ) : f89i N f89c9 .n (f89s2 a0 b1 i5) (joinK (some f89l2) K) =
  laws_eqLaurentS.Z9 N a0 b1 i5 (fun a0 b1 i5 => K .nrm (f89s2 a0 b1 i5)) (K (.exit 0) f89s3) (fun t4 => K .ret (f89s4 t4)) := by kernel_rfl
noncomputable def f89c8 := codeAt (bodyOf Try.f89) [1,1,0,1,0]
noncomputable def f89p8 : Plan := .mk none (some f89l2) .n .n
noncomputable abbrev f89w8 {ρ : Type} (N : Nat) (M : Nat) (σ : St) (K : KT ρ) : Option ρ := loopC (fun σ K => f89i N f89c9 .n σ K) f89l2 M σ K
theorem f89t8L {ρ : Type} (N : Nat) (K : KT ρ) : ∀ (M : Nat) (a0 : List (Int × List (List Int × Int))) (b1 : List (Int × List (List Int × Int))) (i5 : Int), f89w8 N M (f89s2 a0 b1 i5) K =
  laws_eqLaurentS.Z8L N (K (.exit 0) f89s3) (fun t4 => K .ret (f89s4 t4)) M a0 b1 i5
  | 0, _, _, _ => rfl
  | M + 1, a0, b1, i5 => viaRound (fun k => laws_eqLaurentS.Z9 N a0 b1 i5 k (K (.exit 0) f89s3) (fun t4 => K .ret (f89s4 t4))) (f89t9 N a0 b1 i5 (seqK (fun σ => f89w8 N M σ K) K)) (funext fun a0 => funext fun b1 => funext fun i5 => f89t8L N K M a0 b1 i5) (by kernel_rfl) (by kernel_rfl)
theorem f89t8 {ρ : Type} (N : Nat) (a0 : List (Int × List (List Int × Int))) (b1 : List (Int × List (List Int × Int))) (i5 : Int) (K : KT ρ) : f89i N f89c8 f89p8 (f89s2 a0 b1 i5) (joinK (some f89l3) K) =
  laws_eqLaurentS.Z8 N a0 b1 i5 (K (.exit 0) f89s3) (fun t4 => K .ret (f89s4 t4)) :=
  viaLoop (by kernel_rfl) (by kernel_rfl) (σ' := f89s2 a0 b1 i5) (by kernel_rfl) (f89t8L N (joinK (some f89l3) K) N a0 b1 i5) (by kernel_rfl)
noncomputable def f89c7 := codeAt (bodyOf Try.f89) [1,1,0,1]
noncomputable def f89p7 : Plan := .mk (some f89l3) none f89p8 .n
theorem f89t7 {ρ : Type} (N : Nat) (a0 : List (Int × List (List Int × Int))) (b1 : List (Int × List (List Int × Int))) (i5 : Int) (K : KT ρ) : f89i N f89c7 f89p7 (f89s2 a0 b1 i5) (joinK (some f89l3) K) =
  laws_eqLaurentS.Z7 N a0 b1 i5 (K .nrm f89s3) (fun t4 => K .ret (f89s4 t4)) :=
  viaBlock (by kernel_rfl) (by kernel_rfl) (f89t8 N a0 b1 i5 (blockK 0 (joinK (some f89l3) K))) (by kernel_rfl)
noncomputable def f89c5 := codeAt (bodyOf Try.f89) [1,1,0]
noncomputable def f89p5 : Plan := .mk (some f89l2) none .n f89p7
theorem f89t5 {ρ : Type} (N : Nat) (a0 : List (Int × List (List Int × Int))) (b1 : List (Int × List (List Int × Int))) (K : KT ρ) : f89i N f89c5 f89p5 (f89s1 a0 b1) (joinK (some f89l3) K) =
  laws_eqLaurentS.Z5 N a0 b1 (K .nrm f89s3) (fun t4 => K .ret (f89s4 t4)) :=
  viaSeq (fun k => laws_eqLaurentS.Z6 N a0 b1 k) (by kernel_rfl) (by kernel_rfl) (f89t6 N a0 b1 (seqK (fun σ => f89i N f89c7 f89p7 σ (joinK (some f89l3) K)) (joinK (some f89l3) K))) (funext fun a0 => funext fun b1 => funext fun i5 => f89t7 N a0 b1 i5 K) (by kernel_rfl) (by kernel_rfl)
noncomputable def f89c10 := codeAt (bodyOf Try.f89) [1,1,1]
theorem f89t10 {ρ : Type} (N : Nat)  (K : KT ρ) : f89i N f89c10 .n f89s3 (joinK (some f89lE) K) =
  laws_eqLaurentS.Z10 N (fun t4 => K .ret (f89s4 t4)) := by kernel_rfl
noncomputable def f89c4 := codeAt (bodyOf Try.f89) [1,1]
noncomputable def f89p4 : Plan := .mk (some f89l3) none f89p5 .n
theorem f89t4 {ρ : Type} (N : Nat) (a0 : List (Int × List (List Int × Int))) (b1 : List (Int × List (List Int × Int))) (K : KT ρ) : f89i N f89c4 f89p4 (f89s1 a0 b1) (joinK (some f89lE) K) =
  laws_eqLaurentS.Z4 N a0 b1 (fun t4 => K .ret (f89s4 t4)) :=
  viaSeq (fun k => laws_eqLaurentS.Z5 N a0 b1 k (fun t4 => K .ret (f89s4 t4))) (by kernel_rfl) (by kernel_rfl) (f89t5 N a0 b1 (seqK (fun σ => f89i N f89c10 .n σ (joinK (some f89lE) K)) (joinK (some f89lE) K))) (f89t10 N K) (by kernel_rfl) (by kernel_rfl)
noncomputable def f89c2 := codeAt (bodyOf Try.f89) [1]
noncomputable def f89p2 : Plan := .mk (some f89l1) none .n f89p4
theorem f89t2 {ρ : Type} (N : Nat) (a0 : List (Int × List (List Int × Int))) (b1 : List (Int × List (List Int × Int))) (K : KT ρ) : f89i N f89c2 f89p2 (f89s1 a0 b1) (joinK (some f89lE) K) =
  laws_eqLaurentS.Z2 N a0 b1 (fun t4 => K .ret (f89s4 t4)) :=
  viaSeq (fun k => laws_eqLaurentS.Z3 N a0 b1 k (fun t4 => K .ret (f89s4 t4))) (by kernel_rfl) (by kernel_rfl) (f89t3 N a0 b1 (seqK (fun σ => f89i N f89c4 f89p4 σ (joinK (some f89lE) K)) (joinK (some f89lE) K))) (funext fun a0 => funext fun b1 => f89t4 N a0 b1 K) (by kernel_rfl) (by kernel_rfl)
noncomputable def f89c0 := codeAt (bodyOf Try.f89) []
noncomputable def f89p0 : Plan := .mk (some f89l1) none .n f89p2
theorem f89t0 {ρ : Type} (N : Nat) (a0 : List (Int × List (List Int × Int))) (b1 : List (Int × List (List Int × Int))) (K : KT ρ) : f89i N f89c0 f89p0 (f89s0 a0 b1) (joinK (some f89lE) K) =
  laws_eqLaurentS.Z0 N a0 b1 (fun t4 => K .ret (f89s4 t4)) :=
  viaSeq (fun k => laws_eqLaurentS.Z1 N a0 b1 k) (by kernel_rfl) (by kernel_rfl) (f89t1 N a0 b1 (seqK (fun σ => f89i N f89c2 f89p2 σ (joinK (some f89lE) K)) (joinK (some f89lE) K))) (funext fun a0 => funext fun b1 => f89t2 N a0 b1 K) (by kernel_rfl) (by kernel_rfl)
theorem f89m (N : Nat) (a0 : List (Int × List (List Int × Int))) (b1 : List (Int × List (List Int × Int))) : f89i N f89c0 f89p0 (f89s0 a0 b1) (joinK (some f89lE) (finK tab f89sig Try.f89.results.toList)) = laws_eqLaurentS.Z0 N a0 b1 (fun t4 => some ((), (t4, ()))) :=
  (f89t0 N a0 b1 (finK tab f89sig Try.f89.results.toList)).trans (by kernel_rfl)
theorem f89ok (h : laws_eqLaurentS.Spec) : EntryOk Try.prog 89 e89 :=
  entry_of_code (sig := f89sig) (c := f89c0) (pl := f89p0) (je := (some f89lE)) (B := f89B) Try.func89 (by kernel_rfl) (by kernel_rfl) (by kernel_rfl) tabOk f89GOk (by kernel_rfl) (by kernel_rfl) (by kernel_rfl) (by kernel_rfl) fun X hb hp => by
    obtain ⟨a0, b1, _⟩ := X
    obtain ⟨N, h⟩ := h a0 b1 hb.1 hb.2.1
    exact ⟨N, (f89m N a0 b1).trans (h N (Nat.le_refl N))⟩
theorem e89ok : EntryOk Try.prog 89 e89 := f89ok laws_eqLaurentS.ok
end Go.Fw
set_option linter.unusedVariables false
set_option linter.unusedSimpArgs false
set_option maxRecDepth 100000
namespace Go.Fw
open Go.Proofs
/-! ### loop.example/g03115/laws.eqSeed -/
noncomputable def f51sig : Sig := ⟨[⟨.pair (.pair (.int .i64) (.pair (.int .i64) (.sl 3 (.int .i64)))) (.sl 89 (.pair (.int .i64) (.sl 103 (.pair (.sl 3 (.int .i64)) (.int .i64))))), true, false⟩, ⟨.pair (.pair (.int .i64) (.pair (.int .i64) (.sl 3 (.int .i64)))) (.sl 89 (.pair (.int .i64) (.sl 103 (.pair (.sl 3 (.int .i64)) (.int .i64))))), true, false⟩], [⟨.bool, false, false⟩]⟩
noncomputable def e51 : Entry := ⟨f51sig, none, fun X => ((), ((laws_eqSeed.g X.1 X.2.1), ()))⟩
noncomputable def f51G : Nat → Option Entry := addG (addG (fun _ => none) 31 e31) 89 e89
theorem f51GOk : GOk Try.prog f51G := ((GOk.nil).add e31ok (by kernel_rfl)).add e89ok (by kernel_rfl)
noncomputable def f51lE : Clean := ⟨[], [], [], [], []⟩
noncomputable def f51s0 (a0 : (Int × Int × List Int) × List (Int × List (List Int × Int))) (b1 : (Int × Int × List Int) × List (Int × List (List Int × Int))) : St := initSt f51sig.ps (a0, (b1, ()))
noncomputable def f51s1 (t4 : Bool) : St := stOf [(4, .c (.bool t4))] [] []
noncomputable def f51l1 : Clean := ⟨[4], [], [], [], []⟩
noncomputable def f51B : Nat → Option Clean := lookL [(1000000, f51l1)]
noncomputable abbrev f51i {ρ : Type} (N : Nat) (c : Code) (p : Plan) (σ : St) (K : KT ρ) : Option ρ := iCode f51G tab f51B N c p σ K
noncomputable def f51c0 := codeAt (bodyOf Try.f51) []
theorem f51t0 {ρ : Type} (N : Nat) (a0 : (Int × Int × List Int) × List (Int × List (List Int × Int))) (b1 : (Int × Int × List Int) × List (Int × List (List Int × Int))) (K : KT ρ) : f51i N f51c0 .n (f51s0 a0 b1) (joinK (some f51lE) K) =
  laws_eqSeed.Z0 N a0 b1 (fun t4 => K .ret (f51s1 t4)) := by kernel_rfl
theorem f51m (N : Nat) (a0 : (Int × Int × List Int) × List (Int × List (List Int × Int))) (b1 : (Int × Int × List Int) × List (Int × List (List Int × Int))) : f51i N f51c0 .n (f51s0 a0 b1) (joinK (some f51lE) (finK tab f51sig Try.f51.results.toList)) = laws_eqSeed.Z0 N a0 b1 (fun t4 => some ((), (t4, ()))) :=
  (f51t0 N a0 b1 (finK tab f51sig Try.f51.results.toList)).trans (by kernel_rfl)
theorem f51ok (h : laws_eqSeed.Spec) : EntryOk Try.prog 51 e51 :=
  entry_of_code (sig := f51sig) (c := f51c0) (pl := .n) (je := (some f51lE)) (B := f51B) Try.func51 (by kernel_rfl) (by kernel_rfl) (by kernel_rfl) tabOk f51GOk (by kernel_rfl) (by kernel_rfl) (by kernel_rfl) (by kernel_rfl) fun X hb hp => by
    obtain ⟨a0, b1, _⟩ := X
    obtain ⟨N, h⟩ := h a0 b1 hb.1 hb.2.1
    exact ⟨N, (f51m N a0 b1).trans (h N (Nat.le_refl N))⟩
theorem e51ok : EntryOk Try.prog 51 e51 := f51ok laws_eqSeed.ok
end Go.Fw
set_option linter.unusedVariables false
set_option linter.unusedSimpArgs false
set_option maxRecDepth 100000
namespace Go.Fw
open Go.Proofs
/-! ### loop.example/g03115/laws.markIntS -/
noncomputable def f45sig : Sig := ⟨[⟨.sl 3 (.int .i64), false, true⟩, ⟨.int .i64, false, false⟩], [⟨.int .i64, false, false⟩]⟩
noncomputable def e45 : Entry := ⟨f45sig, none, fun X => ((laws_markIntS.g X.1 X.2.1).1, ((laws_markIntS.g X.1 X.2.1).2, ()))⟩
noncomputable def f45G : Nat → Option Entry := (fun _ => none)
theorem f45GOk : GOk Try.prog f45G := GOk.nil
noncomputable def f45lE : Clean := ⟨[], [], [], [], []⟩
noncomputable def f45s0 (a0 : List Int) (k1 : Int) : St := initSt f45sig.ps (a0, (k1, ()))
noncomputable def f45s1 (a0 : List Int) (k1 : Int) : St := stOf [(0, .c (.own 1000000)), (1, .c (.int .i64 k1)), (100000, .c (.own 1000000))] [] [(1000000, (⟨3, .int .i64, a0, true, false⟩ : Row))]
noncomputable def f45l1 : Clean := ⟨[0, 1, 100000], [], [], [], [(⟨false, 0, 0⟩, 1000000)]⟩
noncomputable def f45s2 (a0 : List Int) (k1 : Int) (i5 : Int) : St := stOf [(0, .c (.own 1000000)), (1, .c (.int .i64 k1)), (5, .c (.int .i64 i5)), (100000, .c (.own 1000000))] [] [(1000000, (⟨3, .int .i64, a0, true, false⟩ : Row))]
noncomputable def f45l2 : Clean := ⟨[0, 1, 5, 100000], [], [], [], [(⟨false, 0, 0⟩, 1000000)]⟩
noncomputable def f45s3 (io100000 : List Int) (k1 : Int) : St := stOf [(1, .c (.int .i64 k1)), (100000, .c (.own 7400000))] [] [(7400000, (⟨3, .int .i64, io100000, true, false⟩ : Row))]
noncomputable def f45l3 : Clean := ⟨[1, 100000], [], [], [], [(⟨false, 100000, 0⟩, 7400000)]⟩
noncomputable def f45s4 (io100000 : List Int) (t4 : Int) : St := stOf [(4, .c (.int .i64 t4)), (100000, .c (.own 7400000))] [] [(7400000, (⟨3, .int .i64, io100000, true, false⟩ : Row))]
noncomputable def f45l4 : Clean := ⟨[4, 100000], [], [], [], [(⟨false, 100000, 0⟩, 7400000)]⟩
noncomputable def f45B : Nat → Option Clean := lookL [(0, f45l3), (1000000, f45l4)]
noncomputable abbrev f45i {ρ : Type} (N : Nat) (c : Code) (p : Plan) (σ : St) (K : KT ρ) : Option ρ := iCode f45G tab f45B N c p σ K
noncomputable def f45c1 := codeAt (bodyOf Try.f45) [0]
theorem f45t1 {ρ : Type} (N : Nat) (a0 : List Int) (k1 : Int) (K : KT ρ) : f45i N f45c1 .n (f45s0 a0 k1) (joinK (some f45l1) K) =
  laws_markIntS.Z1 N a0 k1 (fun a0 k1 => K .nrm (f45s1 a0 k1)) := by kernel_rfl
noncomputable def f45c4 := codeAt (bodyOf Try.f45) [1,0,0]
theorem f45t4 {ρ : Type} (N : Nat) (a0 : List Int) (k1 : Int) (K : KT ρ) : f45i N f45c4 .n (f45s1 a0 k1) (joinK (some f45l2) K) =
  laws_markIntS.Z4 N a0 k1 (fun a0 k1 i5 => K .nrm (f45s2 a0 k1 i5)) := by kernel_rfl
noncomputable def f45c7 := codeAt (bodyOf Try.f45) [1,0,1,0,0]
theorem f45t7 {ρ : Type} (N : Nat) (a0 : List Int) (k1 : Int) (i5 : Int) (K : KT ρ) : f45i N f45c7 .n (f45s2 a0 k1 i5) (joinK (some f45l2) K) =
  laws_markIntS.Z7 N a0 k1 i5 (fun a0 k1 i5 => K .nrm (f45s2 a0 k1 i5)) (fun io100000 k1 => K (.exit 0) (f45s3 io100000 k1)) := by kernel_rfl
noncomputable def f45c6 := codeAt (bodyOf Try.f45) [1,0,1,0]
noncomputable def f45p6 : Plan := .mk none (some f45l2) .n .n
noncomputable abbrev f45w6 {ρ : Type} (N : Nat) (M : Nat) (σ : St) (K : KT ρ) : Option ρ := loopC (fun σ K => f45i N f45c7 .n σ K) f45l2 M σ K
theorem f45t6L {ρ : Type} (N : Nat) (K : KT ρ) : ∀ (M : Nat) (a0 : List Int) (k1 : Int) (i5 : Int), f45w6 N M (f45s2 a0 k1 i5) K =
  laws_markIntS.Z6L N (fun io100000 k1 => K (.exit 0) (f45s3 io100000 k1)) M a0 k1 i5
  | 0, _, _, _ => rfl
  | M + 1, a0, k1, i5 => viaRound (fun k => laws_markIntS.Z7 N a0 k1 i5 k (fun io100000 k1 => K (.exit 0) (f45s3 io100000 k1))) (f45t7 N a0 k1 i5 (seqK (fun σ => f45w6 N M σ K) K)) (funext fun a0 => funext fun k1 => funext fun i5 => f45t6L N K M a0 k1 i5) (by kernel_rfl) (by kernel_rfl)
theorem f45t6 {ρ : Type} (N : Nat) (a0 : List Int) (k1 : Int) (i5 : Int) (K : KT ρ) : f45i N f45c6 f45p6 (f45s2 a0 k1 i5) (joinK (some f45l3) K) =
  laws_markIntS.Z6 N a0 k1 i5 (fun io100000 k1 => K (.exit 0) (f45s3 io100000 k1)) :=
  viaLoop (by kernel_rfl) (by kernel_rfl) (σ' := f45s2 a0 k1 i5) (by kernel_rfl) (f45t6L N (joinK (some f45l3) K) N a0 k1 i5) (by kernel_rfl)
noncomputable def f45c5 := codeAt (bodyOf Try.f45) [1,0,1]
noncomputable def f45p5 : Plan := .mk (some f45l3) none f45p6 .n
theorem f45t5 {ρ : Type} (N : Nat) (a0 : List Int) (k1 : Int) (i5 : Int) (K : KT ρ) : f45i N f45c5 f45p5 (f45s2 a0 k1 i5) (joinK (some f45l3) K) =
  laws_markIntS.Z5 N a0 k1 i5 (fun io100000 k1 => K .nrm (f45s3 io100000 k1)) :=
  viaBlock (by kernel_rfl) (by kernel_rfl) (f45t6 N a0 k1 i5 (blockK 0 (joinK (some f45l3) K))) (by kernel_rfl)
noncomputable def f45c3 := codeAt (bodyOf Try.f45) [1,0]
noncomputable def f45p3 : Plan := .mk (some f45l2) none .n f45p5
theorem f45t3 {ρ : Type} (N : Nat) (a0 : List Int) (k1 : Int) (K : KT ρ) : f45i N f45c3 f45p3 (f45s1 a0 k1) (joinK (some f45l3) K) =
  laws_markIntS.Z3 N a0 k1 (fun io100000 k1 => K .nrm (f45s3 io100000 k1)) :=
  viaSeq (fun k => laws_markIntS.Z4 N a0 k1 k) (by kernel_rfl) (by kernel_rfl) (f45t4 N a0 k1 (seqK (fun σ => f45i N f45c5 f45p5 σ (joinK (some f45l3) K)) (joinK (some f45l3) K))) (funext fun a0 => funext fun k1 => funext fun i5 => f45t5 N a0 k1 i5 K) (by kernel_rfl) (by kernel_rfl)
noncomputable def f45c8 := codeAt (bodyOf Try.f45) [1,1]
theorem f45t8 {ρ : Type} (N : Nat) (io100000 : List Int) (k1 : Int) (K : KT ρ) : f45i N f45c8 .n (f45s3 io100000 k1) (joinK (some f45lE) K) =
  laws_markIntS.Z8 N io100000 k1 (fun io100000 t4 => K .ret (f45s4 io100000 t4)) := by kernel_rfl
noncomputable def f45c2 := codeAt (bodyOf Try.f45) [1]
noncomputable def f45p2 : Plan := .mk (some f45l3) none f45p3 .n
theorem f45t2 {ρ : Type} (N : Nat) (a0 : List Int) (k1 : Int) (K : KT ρ) : f45i N f45c2 f45p2 (f45s1 a0 k1) (joinK (some f45lE) K) =
  laws_markIntS.Z2 N a0 k1 (fun io100000 t4 => K .ret (f45s4 io100000 t4)) :=
  viaSeq (fun k => laws_markIntS.Z3 N a0 k1 k) (by kernel_rfl) (by kernel_rfl) (f45t3 N a0 k1 (seqK (fun σ => f45i N f45c8 .n σ (joinK (some f45lE) K)) (joinK (some f45lE) K))) (funext fun io100000 => funext fun k1 => f45t8 N io100000 k1 K) (by kernel_rfl) (by kernel_rfl)
noncomputable def f45c0 := codeAt (bodyOf Try.f45) []
noncomputable def f45p0 : Plan := .mk (some f45l1) none .n f45p2
theorem f45t0 {ρ : Type} (N : Nat) (a0 : List Int) (k1 : Int) (K : KT ρ) : f45i N f45c0 f45p0 (f45s0 a0 k1) (joinK (some f45lE) K) =
  laws_markIntS.Z0 N a0 k1 (fun io100000 t4 => K .ret (f45s4 io100000 t4)) :=
  viaSeq (fun k => laws_markIntS.Z1 N a0 k1 k) (by kernel_rfl) (by kernel_rfl) (f45t1 N a0 k1 (seqK (fun σ => f45i N f45c2 f45p2 σ (joinK (some f45lE) K)) (joinK (some f45lE) K))) (funext fun a0 => funext fun k1 => f45t2 N a0 k1 K) (by kernel_rfl) (by kernel_rfl)
theorem f45m (N : Nat) (a0 : List Int) (k1 : Int) : f45i N f45c0 f45p0 (f45s0 a0 k1) (joinK (some f45lE) (finK tab f45sig Try.f45.results.toList)) = laws_markIntS.Z0 N a0 k1 (fun io100000 t4 => some (io100000, (t4, ()))) :=
  (f45t0 N a0 k1 (finK tab f45sig Try.f45.results.toList)).trans (by kernel_rfl)
theorem f45ok (h : laws_markIntS.Spec) : EntryOk Try.prog 45 e45 :=
  entry_of_code (sig := f45sig) (c := f45c0) (pl := f45p0) (je := (some f45lE)) (B := f45B) Try.func45 (by kernel_rfl) (by kernel_rfl) (by kernel_rfl) tabOk f45GOk (by kernel_rfl) (by kernel_rfl) (by kernel_rfl) (by kernel_rfl) fun X hb hp => by
    obtain ⟨a0, k1, _⟩ := X
    obtain ⟨N, h⟩ := h a0 k1 hb.1
    exact ⟨N, (f45m N a0 k1).trans (h N (Nat.le_refl N))⟩
theorem e45ok : EntryOk Try.prog 45 e45 := f45ok laws_markIntS.ok
end Go.Fw
set_option linter.unusedVariables false
set_option linter.unusedSimpArgs false
set_option maxRecDepth 100000
namespace Go.Fw
open Go.Proofs
/-! ### loop.example/g03115/laws.markMatrix -/
noncomputable def f32sig : Sig := ⟨[⟨.pair (.int .i64) (.pair (.int .i64) (.sl 3 (.int .i64))), true, true⟩, ⟨.int .i64, false, false⟩], [⟨.int .i64, false, false⟩]⟩
noncomputable def e32 : Entry := ⟨f32sig, none, fun X => ((laws_markMatrix.g X.1 X.2.1).1, ((laws_markMatrix.g X.1 X.2.1).2, ()))⟩
noncomputable def f32G : Nat → Option Entry := addG (fun _ => none) 45 e45
theorem f32GOk : GOk Try.prog f32G := (GOk.nil).add e45ok (by kernel_rfl)
noncomputable def f32lE : Clean := ⟨[], [], [], [], []⟩
noncomputable def f32s0 (a0 : Int × Int × List Int) (k1 : Int) : St := initSt f32sig.ps (a0, (k1, ()))
noncomputable def f32s1 (io100000_2 : List Int) (t4 : Int) (io100000_0 : Int) (io100000_1 : Int) : St := stOf [(4, .c (.int .i64 t4)), (100000, .agg [.int .i64 io100000_0, .int .i64 io100000_1, .own 7400002])] [] [(7400002, (⟨3, .int .i64, io100000_2, true, false⟩ : Row))]
noncomputable def f32l1 : Clean := ⟨[4, 100000], [], [], [], [(⟨false, 100000, 2⟩, 7400002)]⟩
noncomputable def f32B : Nat → Option Clean := lookL [(1000000, f32l1)]
noncomputable abbrev f32i {ρ : Type} (N : Nat) (c : Code) (p : Plan) (σ : St) (K : KT ρ) : Option ρ := iCode f32G tab f32B N c p σ K
noncomputable def f32c0 := codeAt (bodyOf Try.f32) []
theorem f32t0 {ρ : Type} (N : Nat) (a0 : Int × Int × List Int) (k1 : Int) (K : KT ρ) : f32i N f32c0 .n (f32s0 a0 k1) (joinK (some f32lE) K) =
  laws_markMatrix.Z0 N a0 k1 (fun io100000_2 t4 io100000_0 io100000_1 => K .ret (f32s1 io100000_2 t4 io100000_0 io100000_1)) := by kernel_rfl
theorem f32m (N : Nat) (a0 : Int × Int × List Int) (k1 : Int) : f32i N f32c0 .n (f32s0 a0 k1) (joinK (some f32lE) (finK tab f32sig Try.f32.results.toList)) = laws_markMatrix.Z0 N a0 k1 (fun io100000_2 t4 io100000_0 io100000_1 => some ((io100000_0, (io100000_1, io100000_2)), (t4, ()))) :=
  (f32t0 N a0 k1 (finK tab f32sig Try.f32.results.toList)).trans (by kernel_rfl)
theorem f32ok (h : laws_markMatrix.Spec) : EntryOk Try.prog 32 e32 :=
  entry_of_code (sig := f32sig) (c := f32c0) (pl := .n) (je := (some f32lE)) (B := f32B) Try.func32 (by kernel_rfl) (by kernel_rfl) (by kernel_rfl) tabOk f32GOk (by kernel_rfl) (by kernel_rfl) (by kernel_rfl) (by kernel_rfl) fun X hb hp => by
    obtain ⟨a0, k1, _⟩ := X
    obtain ⟨N, h⟩ := h a0 k1 hb.1
    exact ⟨N, (f32m N a0 k1).trans (h N (Nat.le_refl N))⟩
theorem e32ok : EntryOk Try.prog 32 e32 := f32ok laws_markMatrix.ok
end Go.Fw
set_option linter.unusedVariables false
set_option linter.unusedSimpArgs false
set_option maxRecDepth 100000
namespace Go.Fw
open Go.Proofs
/-! ### loop.example/g03115/laws.markTermS -/
noncomputable def f106sig : Sig := ⟨[⟨.sl 103 (.pair (.sl 3 (.int .i64)) (.int .i64)), false, true⟩, ⟨.int .i64, false, false⟩], [⟨.int .i64, false, false⟩]⟩
noncomputable def e106 : Entry := ⟨f106sig, none, fun X => ((laws_markTermS.g X.1 X.2.1).1, ((laws_markTermS.g X.1 X.2.1).2, ()))⟩
noncomputable def f106G : Nat → Option Entry := addG (fun _ => none) 45 e45
theorem f106GOk : GOk Try.prog f106G := (GOk.nil).add e45ok (by kernel_rfl)
noncomputable def f106lE : Clean := ⟨[], [], [], [], []⟩
noncomputable def f106s0 (a0 : List (List Int × Int)) (k1 : Int) : St := initSt f106sig.ps (a0, (k1, ()))
noncomputable def f106s1 (a0 : List (List Int × Int)) (k1 : Int) : St := stOf [(0, .c (.own 1000000)), (1, .c (.int .i64 k1)), (100000, .c (.own 1000000))] [] [(1000000, (⟨103, .pair (.sl 3 (.int .i64)) (.int .i64), a0, true, false⟩ : Row))]
noncomputable def f106l1 : Clean := ⟨[0, 1, 100000], [], [], [], [(⟨false, 0, 0⟩, 1000000)]⟩
noncomputable def f106s2 (a0 : List (List Int × Int)) (k1 : Int) (i5 : Int) : St := stOf [(0, .c (.own 1000000)), (1, .c (.int .i64 k1)), (5, .c (.int .i64 i5)), (100000, .c (.own 1000000))] [] [(1000000, (⟨103, .pair (.sl 3 (.int .i64)) (.int .i64), a0, true, false⟩ : Row))]
noncomputable def f106l2 : Clean := ⟨[0, 1, 5, 100000], [], [], [], [(⟨false, 0, 0⟩, 1000000)]⟩
noncomputable def f106s3 (io100000 : List (List Int × Int)) (k1 : Int) : St := stOf [(1, .c (.int .i64 k1)), (100000, .c (.own 7400000))] [] [(7400000, (⟨103, .pair (.sl 3 (.int .i64)) (.int .i64), io100000, true, false⟩ : Row))]
noncomputable def f106l3 : Clean := ⟨[1, 100000], [], [], [], [(⟨false, 100000, 0⟩, 7400000)]⟩
noncomputable def f106s4 (io100000 : List (List Int × Int)) (t4 : Int) : St := stOf [(4, .c (.int .i64 t4)), (100000, .c (.own 7400000))] [] [(7400000, (⟨103, .pair (.sl 3 (.int .i64)) (.int .i64), io100000, true, false⟩ : Row))]
noncomputable def f106l4 : Clean := ⟨[4, 100000], [], [], [], [(⟨false, 100000, 0⟩, 7400000)]⟩
noncomputable def f106B : Nat → Option Clean := lookL [(0, f106l3), (1000000, f106l4)]
noncomputable abbrev f106i {ρ : Type} (N : Nat) (c : Code) (p : Plan) (σ : St) (K : KT ρ) : Option ρ := iCode f106G tab f106B N c p σ K
noncomputable def f106c1 := codeAt (bodyOf Try.f106) [0]
theorem f106t1 {ρ : Type} (N : Nat) (a0 : List (List Int × Int)) (k1 : Int) (K : KT ρ) : f106i N f106c1 .n (f106s0 a0 k1) (joinK (some f106l1) K) =
  laws_markTermS.Z1 N a0 k1 (fun a0 k1 => K .nrm (f106s1 a0 k1)) := by kernel_rfl
noncomputable def f106c4 := codeAt (bodyOf Try.f106) [1,0,0]
theorem f106t4 {ρ : Type} (N : Nat) (a0 : List (List Int × Int)) (k1 : Int) (K : KT ρ) : f106i N f106c4 .n (f106s1 a0 k1) (joinK (some f106l2) K) =
  laws_markTermS.Z4 N a0 k1 (fun a0 k1 i5 => K .nrm (f106s2 a0 k1 i5)) := by kernel_rfl
noncomputable def f106c7 := codeAt (bodyOf Try.f106) [1,0,1,0,0]
theorem f106t7 {ρ : Type} (N : Nat) (a0 : List (List Int × Int)) (k1 : Int) (i5 : Int) (K : KT ρ) : f106i N f106c7 .n (f106s2 a0 k1 i5) (joinK (some f106l2) K) =
  laws_markTermS.Z7 N a0 k1 i5 (fun a0 k1 i5 => K .nrm (f106s2 a0 k1 i5)) (fun io100000 k1 => K (.exit 0) (f106s3 io100000 k1)) := by kernel_rfl
noncomputable def f106c6 := codeAt (bodyOf Try.f106) [1,0,1,0]
noncomputable def f106p6 : Plan := .mk none (some f106l2) .n .n
noncomputable abbrev f106w6 {ρ : Type} (N : Nat) (M : Nat) (σ : St) (K : KT ρ) : Option ρ := loopC (fun σ K => f106i N f106c7 .n σ K) f106l2 M σ K
theorem f106t6L {ρ : Type} (N : Nat) (K : KT ρ) : ∀ (M : Nat) (a0 : List (List Int × Int)) (k1 : Int) (i5 : Int), f106w6 N M (f106s2 a0 k1 i5) K =
  laws_markTermS.Z6L N (fun io100000 k1 => K (.exit 0) (f106s3 io100000 k1)) M a0 k1 i5
  | 0, _, _, _ => rfl
  | M + 1, a0, k1, i5 => viaRound (fun k => laws_markTermS.Z7 N a0 k1 i5 k (fun io100000 k1 => K (.exit 0) (f106s3 io100000 k1))) (f106t7 N a0 k1 i5 (seqK (fun σ => f106w6 N M σ K) K)) (funext fun a0 => funext fun k1 => funext fun i5 => f106t6L N K M a0 k1 i5) (by kernel_rfl) (by kernel_rfl)
theorem f106t6 {ρ : Type} (N : Nat) (a0 : List (List Int × Int)) (k1 : Int) (i5 : Int) (K : KT ρ) : f106i N f106c6 f106p6 (f106s2 a0 k1 i5) (joinK (some f106l3) K) =
  laws_markTermS.Z6 N a0 k1 i5 (fun io100000 k1 => K (.exit 0) (f106s3 io100000 k1)) :=
  viaLoop (by kernel_rfl) (by kernel_rfl) (σ' := f106s2 a0 k1 i5) (by kernel_rfl) (f106t6L N (joinK (some f106l3) K) N a0 k1 i5) (by kernel_rfl)
noncomputable def f106c5 := codeAt (bodyOf Try.f106) [1,0,1]
noncomputable def f106p5 : Plan := .mk (some f106l3) none f106p6 .n
theorem f106t5 {ρ : Type} (N : Nat) (a0 : List (List Int × Int)) (k1 : Int) (i5 : Int) (K : KT ρ) : f106i N f106c5 f106p5 (f106s2 a0 k1 i5) (joinK (some f106l3) K) =
  laws_markTermS.Z5 N a0 k1 i5 (fun io100000 k1 => K .nrm (f106s3 io100000 k1)) :=
  viaBlock (by kernel_rfl) (by kernel_rfl) (f106t6 N a0 k1 i5 (blockK 0 (joinK (some f106l3) K))) (by kernel_rfl)
noncomputable def f106c3 := codeAt (bodyOf Try.f106) [1,0]
noncomputable def f106p3 : Plan := .mk (some f106l2) none .n f106p5
theorem f106t3 {ρ : Type} (N : Nat) (a0 : List (List Int × Int)) (k1 : Int) (K : KT ρ) : f106i N f106c3 f106p3 (f106s1 a0 k1) (joinK (some f106l3) K) =
  laws_markTermS.Z3 N a0 k1 (fun io100000 k1 => K .nrm (f106s3 io100000 k1)) :=
  viaSeq (fun k => laws_markTermS.Z4 N a0 k1 k) (by kernel_rfl) (by kernel_rfl) (f106t4 N a0 k1 (seqK (fun σ => f106i N f106c5 f106p5 σ (joinK (some f106l3) K)) (joinK (some f106l3) K))) (funext fun a0 => funext fun k1 => funext fun i5 => f106t5 N a0 k1 i5 K) (by kernel_rfl) (by kernel_rfl)
noncomputable def f106c8 := codeAt (bodyOf Try.f106) [1,1]
theorem f106t8 {ρ : Type} (N : Nat) (io100000 : List (List Int × Int)) (k1 : Int) (K : KT ρ) : f106i N f106c8 .n (f106s3 io100000 k1) (joinK (some f106lE) K) =
  laws_markTermS.Z8 N io100000 k1 (fun io100000 t4 => K .ret (f106s4 io100000 t4)) := by kernel_rfl
noncomputable def f106c2 := codeAt (bodyOf Try.f106) [1]
noncomputable def f106p2 : Plan := .mk (some f106l3) none f106p3 .n
theorem f106t2 {ρ : Type} (N : Nat) (a0 : List (List Int × Int)) (k1 : Int) (K : KT ρ) : f106i N f106c2 f106p2 (f106s1 a0 k1) (joinK (some f106lE) K) =
  laws_markTermS.Z2 N a0 k1 (fun io100000 t4 => K .ret (f106s4 io100000 t4)) :=
  viaSeq (fun k => laws_markTermS.Z3 N a0 k1 k) (by kernel_rfl) (by kernel_rfl) (f106t3 N a0 k1 (seqK (fun σ => f106i N f106c8 .n σ (joinK (some f106lE) K)) (joinK (some f106lE) K))) (funext fun io100000 => funext fun k1 => f106t8 N io100000 k1 K) (by kernel_rfl) (by kernel_rfl)
noncomputable def f106c0 := codeAt (bodyOf Try.f106) []
noncomputable def f106p0 : Plan := .mk (some f106l1) none .n f106p2
theorem f106t0 {ρ : Type} (N : Nat) (a0 : List (List Int × Int)) (k1 : Int) (K : KT ρ) : f106i N f106c0 f106p0 (f106s0 a0 k1) (joinK (some f106lE) K) =
  laws_markTermS.Z0 N a0 k1 (fun io100000 t4 => K .ret (f106s4 io100000 t4)) :=
  viaSeq (fun k => laws_markTermS.Z1 N a0 k1 k) (by kernel_rfl) (by kernel_rfl) (f106t1 N a0 k1 (seqK (fun σ => f106i N f106c2 f106p2 σ (joinK (some f106lE) K)) (joinK (some f106lE) K))) (funext fun a0 => funext fun k1 => f106t2 N a0 k1 K) (by kernel_rfl) (by kernel_rfl)
theorem f106m (N : Nat) (a0 : List (List Int × Int)) (k1 : Int) : f106i N f106c0 f106p0 (f106s0 a0 k1) (joinK (some f106lE) (finK tab f106sig Try.f106.results.toList)) = laws_markTermS.Z0 N a0 k1 (fun io100000 t4 => some (io100000, (t4, ()))) :=
  (f106t0 N a0 k1 (finK tab f106sig Try.f106.results.toList)).trans (by kernel_rfl)
theorem f106ok (h : laws_markTermS.Spec) : EntryOk Try.prog 106 e106 :=
  entry_of_code (sig := f106sig) (c := f106c0) (pl := f106p0) (je := (some f106lE)) (B := f106B) Try.func106 (by kernel_rfl) (by kernel_rfl) (by kernel_rfl) tabOk f106GOk (by kernel_rfl) (by kernel_rfl) (by kernel_rfl) (by kernel_rfl) fun X hb hp => by
    obtain ⟨a0, k1, _⟩ := X
    obtain ⟨N, h⟩ := h a0 k1 hb.1
    exact ⟨N, (f106m N a0 k1).trans (h N (Nat.le_refl N))⟩
theorem e106ok : EntryOk Try.prog 106 e106 := f106ok laws_markTermS.ok
end Go.Fw
set_option linter.unusedVariables false
set_option linter.unusedSimpArgs false
set_option maxRecDepth 100000
namespace Go.Fw
open Go.Proofs
/-! ### loop.example/g03115/laws.markLaurentS -/
noncomputable def f90sig : Sig := ⟨[⟨.sl 89 (.pair (.int .i64) (.sl 103 (.pair (.sl 3 (.int .i64)) (.int .i64)))), false, true⟩, ⟨.int .i64, false, false⟩], [⟨.int .i64, false, false⟩]⟩
noncomputable def e90 : Entry := ⟨f90sig, none, fun X => ((laws_markLaurentS.g X.1 X.2.1).1, ((laws_markLaurentS.g X.1 X.2.1).2, ()))⟩
noncomputable def f90G : Nat → Option Entry := addG (fun _ => none) 106 e106
theorem f90GOk : GOk Try.prog f90G := (GOk.nil).add e106ok (by kernel_rfl)
noncomputable def f90lE : Clean := ⟨[], [], [], [], []⟩
noncomputable def f90s0 (a0 : List (Int × List (List Int × Int))) (k1 : Int) : St := initSt f90sig.ps (a0, (k1, ()))
noncomputable def f90s1 (a0 : List (Int × List (List Int × Int))) (k1 : Int) : St := stOf [(0, .c (.own 1000000)), (1, .c (.int .i64 k1)), (100000, .c (.own 1000000))] [] [(1000000, (⟨89, .pair (.int .i64) (.sl 103 (.pair (.sl 3 (.int .i64)) (.int .i64))), a0, true, false⟩ : Row))]
noncomputable def f90l1 : Clean := ⟨[0, 1, 100000], [], [], [], [(⟨false, 0, 0⟩, 1000000)]⟩
noncomputable def f90s2 (a0 : List (Int × List (List Int × Int))) (k1 : Int) (i5 : Int) : St := stOf [(0, .c (.own 1000000)), (1, .c (.int .i64 k1)), (5, .c (.int .i64 i5)), (100000, .c (.own 1000000))] [] [(1000000, (⟨89, .pair (.int .i64) (.sl 103 (.pair (.sl 3 (.int .i64)) (.int .i64))), a0, true, false⟩ : Row))]
noncomputable def f90l2 : Clean := ⟨[0, 1, 5, 100000], [], [], [], [(⟨false, 0, 0⟩, 1000000)]⟩
noncomputable def f90s3 (io100000 : List (Int × List (List Int × Int))) (k1 : Int) : St := stOf [(1, .c (.int .i64 k1)), (100000, .c (.own 7400000))] [] [(7400000, (⟨89, .pair (.int .i64) (.sl 103 (.pair (.sl 3 (.int .i64)) (.int .i64))), io100000, true, false⟩ : Row))]
noncomputable def f90l3 : Clean := ⟨[1, 100000], [], [], [], [(⟨false, 100000, 0⟩, 7400000)]⟩
noncomputable def f90s4 (io100000 : List (Int × List (List Int × Int))) (t4 : Int) : St := stOf [(4, .c (.int .i64 t4)), (100000, .c (.own 7400000))] [] [(7400000, (⟨89, .pair (.int .i64) (.sl 103 (.pair (.sl 3 (.int .i64)) (.int .i64))), io100000, true, false⟩ : Row))]
noncomputable def f90l4 : Clean := ⟨[4, 100000], [], [], [], [(⟨false, 100000, 0⟩, 7400000)]⟩
noncomputable def f90B : Nat → Option Clean := lookL [(0, f90l3), (1000000, f90l4)]
noncomputable abbrev f90i {ρ : Type} (N : Nat) (c : Code) (p : Plan) (σ : St) (K : KT ρ) : Option ρ := iCode f90G tab f90B N c p σ K
noncomputable def f90c1 := codeAt (bodyOf Try.f90) [0]
theorem f90t1 {ρ : Type} (N : Nat) (a0 : List (Int × List (List Int × Int))) (k1 : Int) (K : KT ρ) : f90i N f90c1 .n (f90s0 a0 k1) (joinK (some f90l1) K) =
  laws_markLaurentS.Z1 N a0 k1 (fun a0 k1 => K .nrm (f90s1 a0 k1)) := by kernel_rfl
noncomputable def f90c4 := codeAt (bodyOf Try.f90) [1,0,0]
theorem f90t4 {ρ : Type} (N : Nat) (a0 : List (Int × List (List Int × Int))) (k1 : Int) (K : KT ρ) : f90i N f90c4 .n (f90s1 a0 k1) (joinK (some f90l2) K) =
  laws_markLaurentS.Z4 N a0 k1 (fun a0 k1 i5 => K .nrm (f90s2 a0 k1 i5)) := by kernel_rfl
noncomputable def f90c7 := codeAt (bodyOf Try.f90) [1,0,1,0,0]
theorem f90t7 {ρ : Type} (N : Nat) (a0 : List (Int × List (List Int × Int))) (k1 : Int) (i5 : Int) (K : KT ρ) : f90i N f90c7 .n (f90s2 a0 k1 i5) (joinK (some f90l2) K) =
  laws_markLaurentS.Z7 N a0 k1 i5 (fun a0 k1 i5 => K .nrm (f90s2 a0 k1 i5)) (fun io100000 k1 => K (.exit 0) (f90s3 io100000 k1)) := by kernel_rfl
noncomputable def f90c6 := codeAt (bodyOf Try.f90) [1,0,1,0]
noncomputable def f90p6 : Plan := .mk none (some f90l2) .n .n
noncomputable abbrev f90w6 {ρ : Type} (N : Nat) (M : Nat) (σ : St) (K : KT ρ) : Option ρ := loopC (fun σ K => f90i N f90c7 .n σ K) f90l2 M σ K
theorem f90t6L {ρ : Type} (N : Nat) (K : KT ρ) : ∀ (M : Nat) (a0 : List (Int × List (List Int × Int))) (k1 : Int) (i5 : Int), f90w6 N M (f90s2 a0 k1 i5) K =
  laws_markLaurentS.Z6L N (fun io100000 k1 => K (.exit 0) (f90s3 io100000 k1)) M a0 k1 i5
  | 0, _, _, _ => rfl
  | M + 1, a0, k1, i5 => viaRound (fun k => laws_markLaurentS.Z7 N a0 k1 i5 k (fun io100000 k1 => K (.exit 0) (f90s3 io100000 k1))) (f90t7 N a0 k1 i5 (seqK (fun σ => f90w6 N M σ K) K)) (funext fun a0 => funext fun k1 => funext fun i5 => f90t6L N K M a0 k1 i5) (by kernel_rfl) (by kernel_rfl)
theorem f90t6 {ρ : Type} (N : Nat) (a0 : List (Int × List (List Int × Int))) (k1 : Int) (i5 : Int) (K : KT ρ) : f90i N f90c6 f90p6 (f90s2 a0 k1 i5) (joinK (some f90l3) K) =
  laws_markLaurentS.Z6 N a0 k1 i5 (fun io100000 k1 => K (.exit 0) (f90s3 io100000 k1)) :=
  viaLoop (by kernel_rfl) (by kernel_rfl) (σ' := f90s2 a0 k1 i5) (by kernel_rfl) (f90t6L N (joinK (some f90l3) K) N a0 k1 i5) (by kernel_rfl)
noncomputable def f90c5 := codeAt (bodyOf Try.f90) [1,0,1]
noncomputable def f90p5 : Plan := .mk (some f90l3) none f90p6 .n
theorem f90t5 {ρ : Type} (N : Nat) (a0 : List (Int × List (List Int × Int))) (k1 : Int) (i5 : Int) (K : KT ρ) : f90i N f90c5 f90p5 (f90s2 a0 k1 i5) (joinK (some f90l3) K) =
  laws_markLaurentS.Z5 N a0 k1 i5 (fun io100000 k1 => K .nrm (f90s3 io100000 k1)) :=
  viaBlock (by kernel_rfl) (by kernel_rfl) (f90t6 N a0 k1 i5 (blockK 0 (joinK (some f90l3) K))) (by kernel_rfl)
noncomputable def f90c3 := codeAt (bodyOf Try.f90) [1,0]
noncomputable def f90p3 : Plan := .mk (some f90l2) none .n f90p5
theorem f90t3 {ρ : Type} (N : Nat) (a0 : List (Int × List (List Int × Int))) (k1 : Int) (K : KT ρ) : f90i N f90c3 f90p3 (f90s1 a0 k1) (joinK (some f90l3) K) =
  laws_markLaurentS.Z3 N a0 k1 (fun io100000 k1 => K .nrm (f90s3 io100000 k1)) :=
  viaSeq (fun k => laws_markLaurentS.Z4 N a0 k1 k) (by kernel_rfl) (by kernel_rfl) (f90t4 N a0 k1 (seqK (fun σ => f90i N f90c5 f90p5 σ (joinK (some f90l3) K)) (joinK (some f90l3) K))) (funext fun a0 => funext fun k1 => funext fun i5 => f90t5 N a0 k1 i5 K) (by kernel_rfl) (by kernel_rfl)
noncomputable def f90c8 := codeAt (bodyOf Try.f90) [1,1]
theorem f90t8 {ρ : Type} (N : Nat) (io100000 : List (Int × List (List Int × Int))) (k1 : Int) (K : KT ρ) : f90i N f90c8 .n (f90s3 io100000 k1) (joinK (some f90lE) K) =
  laws_markLaurentS.Z8 N io100000 k1 (fun io100000 t4 => K .ret (f90s4 io100000 t4)) := by kernel_rfl
noncomputable def f90c2 := codeAt (bodyOf Try.f90) [1]
noncomputable def f90p2 : Plan := .mk (some f90l3) none f90p3 .n
theorem f90t2 {ρ : Type} (N : Nat) (a0 : List (Int × List (List Int × Int))) (k1 : Int) (K : KT ρ) : f90i N f90c2 f90p2 (f90s1 a0 k1) (joinK (some f90lE) K) =
  laws_markLaurentS.Z2 N a0 k1 (fun io100000 t4 => K .ret (f90s4 io100000 t4)) :=
  viaSeq (fun k => laws_markLaurentS.Z3 N a0 k1 k) (by kernel_rfl) (by kernel_rfl) (f90t3 N a0 k1 (seqK (fun σ => f90i N f90c8 .n σ (joinK (some f90lE) K)) (joinK (some f90lE) K))) (funext fun io100000 => funext fun k1 => f90t8 N io100000 k1 K) (by kernel_rfl) (by kernel_rfl)
noncomputable def f90c0 := codeAt (bodyOf Try.f90) []
noncomputable def f90p0 : Plan := .mk (some f90l1) none .n f90p2
theorem f90t0 {ρ : Type} (N : Nat) (a0 : List (Int × List (List Int × Int))) (k1 : Int) (K : KT ρ) : f90i N f90c0 f90p0 (f90s0 a0 k1) (joinK (some f90lE) K) =
  laws_markLaurentS.Z0 N a0 k1 (fun io100000 t4 => K .ret (f90s4 io100000 t4)) :=
  viaSeq (fun k => laws_markLaurentS.Z1 N a0 k1 k) (by kernel_rfl) (by kernel_rfl) (f90t1 N a0 k1 (seqK (fun σ => f90i N f90c2 f90p2 σ (joinK (some f90lE) K)) (joinK (some f90lE) K))) (funext fun a0 => funext fun k1 => f90t2 N a0 k1 K) (by kernel_rfl) (by kernel_rfl)
theorem f90m (N : Nat) (a0 : List (Int × List (List Int × Int))) (k1 : Int) : f90i N f90c0 f90p0 (f90s0 a0 k1) (joinK (some f90lE) (finK tab f90sig Try.f90.results.toList)) = laws_markLaurentS.Z0 N a0 k1 (fun io100000 t4 => some (io100000, (t4, ()))) :=
  (f90t0 N a0 k1 (finK tab f90sig Try.f90.results.toList)).trans (by kernel_rfl)
theorem f90ok (h : laws_markLaurentS.Spec) : EntryOk Try.prog 90 e90 :=
  entry_of_code (sig := f90sig) (c := f90c0) (pl := f90p0) (je := (some f90lE)) (B := f90B) Try.func90 (by kernel_rfl) (by kernel_rfl) (by kernel_rfl) tabOk f90GOk (by kernel_rfl) (by kernel_rfl) (by kernel_rfl) (by kernel_rfl) fun X hb hp => by
    obtain ⟨a0, k1, _⟩ := X
    obtain ⟨N, h⟩ := h a0 k1 hb.1
    exact ⟨N, (f90m N a0 k1).trans (h N (Nat.le_refl N))⟩
theorem e90ok : EntryOk Try.prog 90 e90 := f90ok laws_markLaurentS.ok
end Go.Fw
set_option linter.unusedVariables false
set_option linter.unusedSimpArgs false
set_option maxRecDepth 100000
namespace Go.Fw
open Go.Proofs
/-! ### loop.example/g03115/laws.markSeed -/
noncomputable def f52sig : Sig := ⟨[⟨.pair (.pair (.int .i64) (.pair (.int .i64) (.sl 3 (.int .i64)))) (.sl 89 (.pair (.int .i64) (.sl 103 (.pair (.sl 3 (.int .i64)) (.int .i64))))), true, true⟩, ⟨.int .i64, false, false⟩], [⟨.int .i64, false, false⟩]⟩
noncomputable def e52 : Entry := ⟨f52sig, none, fun X => ((laws_markSeed.g X.1 X.2.1).1, ((laws_markSeed.g X.1 X.2.1).2, ()))⟩
noncomputable def f52G : Nat → Option Entry := addG (addG (fun _ => none) 32 e32) 90 e90
theorem f52GOk : GOk Try.prog f52G := ((GOk.nil).add e32ok (by kernel_rfl)).add e90ok (by kernel_rfl)
noncomputable def f52lE : Clean := ⟨[], [], [], [], []⟩
noncomputable def f52s0 (a0 : (Int × Int × List Int) × List (Int × List (List Int × Int))) (k1 : Int) : St := initSt f52sig.ps (a0, (k1, ()))
noncomputable def f52s1 (io100000_2 : List Int) (io100000_3 : List (Int × List (List Int × Int))) (t4 : Int) (io100000_0 : Int) (io100000_1 : Int) : St := stOf [(4, .c (.int .i64 t4)), (100000, .agg [.int .i64 io100000_0, .int .i64 io100000_1, .own 7400002, .own 7400003])] [] [(7400002, (⟨3, .int .i64, io100000_2, true, false⟩ : Row)), (7400003, (⟨89, .pair (.int .i64) (.sl 103 (.pair (.sl 3 (.int .i64)) (.int .i64))), io100000_3, true, false⟩ : Row))]
noncomputable def f52l1 : Clean := ⟨[4, 100000], [], [], [], [(⟨false, 100000, 2⟩, 7400002), (⟨false, 100000, 3⟩, 7400003)]⟩
noncomputable def f52B : Nat → Option Clean := lookL [(1000000, f52l1)]
noncomputable abbrev f52i {ρ : Type} (N : Nat) (c : Code) (p : Plan) (σ : St) (K : KT ρ) : Option ρ := iCode f52G tab f52B N c p σ K
noncomputable def f52c0 := codeAt (bodyOf Try.f52) []
theorem f52t0 {ρ : Type} (N : Nat) (a0 : (Int × Int × List Int) × List (Int × List (List Int × Int))) (k1 : Int) (K : KT ρ) : f52i N f52c0 .n (f52s0 a0 k1) (joinK (some f52lE) K) =
  laws_markSeed.Z0 N a0 k1 (fun io100000_2 io100000_3 t4 io100000_0 io100000_1 => K .ret (f52s1 io100000_2 io100000_3 t4 io100000_0 io100000_1)) := by kernel_rfl
theorem f52m (N : Nat) (a0 : (Int × Int × List Int) × List (Int × List (List Int × Int))) (k1 : Int) : f52i N f52c0 .n (f52s0 a0 k1) (joinK (some f52lE) (finK tab f52sig Try.f52.results.toList)) = laws_markSeed.Z0 N a0 k1 (fun io100000_2 io100000_3 t4 io100000_0 io100000_1 => some (((io100000_0, (io100000_1, io100000_2)), io100000_3), (t4, ()))) :=
  (f52t0 N a0 k1 (finK tab f52sig Try.f52.results.toList)).trans (by kernel_rfl)
theorem f52ok (h : laws_markSeed.Spec) : EntryOk Try.prog 52 e52 :=
  entry_of_code (sig := f52sig) (c := f52c0) (pl := .n) (je := (some f52lE)) (B := f52B) Try.func52 (by kernel_rfl) (by kernel_rfl) (by kernel_rfl) tabOk f52GOk (by kernel_rfl) (by kernel_rfl) (by kernel_rfl) (by kernel_rfl) fun X hb hp => by
    obtain ⟨a0, k1, _⟩ := X
    obtain ⟨N, h⟩ := h a0 k1 hb.1
    exact ⟨N, (f52m N a0 k1).trans (h N (Nat.le_refl N))⟩
theorem e52ok : EntryOk Try.prog 52 e52 := f52ok laws_markSeed.ok
end Go.Fw
set_option linter.unusedVariables false
set_option linter.unusedSimpArgs false
set_option maxRecDepth 100000
namespace Go.Fw
open Go.Proofs
/-! ### loop.example/g03115/laws.heldIntS -/
noncomputable def f73sig : Sig := ⟨[⟨.sl 3 (.int .i64), false, false⟩, ⟨.int .i64, false, false⟩], [⟨.int .i64, false, false⟩]⟩
noncomputable def e73 : Entry := ⟨f73sig, none, fun X => ((), ((laws_heldIntS.g X.1 X.2.1), ()))⟩
noncomputable def f73G : Nat → Option Entry := (fun _ => none)
theorem f73GOk : GOk Try.prog f73G := GOk.nil
noncomputable def f73lE : Clean := ⟨[], [], [], [], []⟩
noncomputable def f73s0 (a0 : List Int) (k1 : Int) : St := initSt f73sig.ps (a0, (k1, ()))
noncomputable def f73s1 (a0 : List Int) (k1 : Int) : St := stOf [(0, .c (.sn 3 (.int .i64) a0 none)), (1, .c (.int .i64 k1))] [] []
noncomputable def f73l1 : Clean := ⟨[0, 1], [], [], [], []⟩
noncomputable def f73s2 (a0 : List Int) (k1 : Int) (i5 : Int) : St := stOf [(0, .c (.sn 3 (.int .i64) a0 none)), (1, .c (.int .i64 k1)), (5, .c (.int .i64 i5))] [] []
noncomputable def f73l2 : Clean := ⟨[0, 1, 5], [], [], [], []⟩
noncomputable def f73s3 (k1 : Int) : St := stOf [(1, .c (.int .i64 k1))] [] []
noncomputable def f73l3 : Clean := ⟨[1], [], [], [], []⟩
noncomputable def f73s4 (t4 : Int) : St := stOf [(4, .c (.int .i64 t4))] [] []
noncomputable def f73l4 : Clean := ⟨[4], [], [], [], []⟩
noncomputable def f73B : Nat → Option Clean := lookL [(0, f73l3), (1000000, f73l4)]
noncomputable abbrev f73i {ρ : Type} (N : Nat) (c : Code) (p : Plan) (σ : St) (K : KT ρ) : Option ρ := iCode f73G tab f73B N c p σ K
noncomputable def f73c1 := codeAt (bodyOf Try.f73) [0]
theorem f73t1 {ρ : Type} (N : Nat) (a0 : List Int) (k1 : Int) (K : KT ρ) : f73i N f73c1 .n (f73s0 a0 k1) (joinK (some f73l1) K) =
  laws_heldIntS.Z1 N a0 k1 (fun a0 k1 => K .nrm (f73s1 a0 k1)) := by kernel_rfl
noncomputable def f73c4 := codeAt (bodyOf Try.f73) [1,0,0]
theorem f73t4 {ρ : Type} (N : Nat) (a0 : List Int) (k1 : Int) (K : KT ρ) : f73i N f73c4 .n (f73s1 a0 k1) (joinK (some f73l2) K) =
  laws_heldIntS.Z4 N a0 k1 (fun a0 k1 i5 => K .nrm (f73s2 a0 k1 i5)) := by kernel_rfl
noncomputable def f73c7 := codeAt (bodyOf Try.f73) [1,0,1,0,0]
theorem f73t7 {ρ : Type} (N : Nat) (a0 : List Int) (k1 : Int) (i5 : Int) (K : KT ρ) : f73i N f73c7 .n (f73s2 a0 k1 i5) (joinK (some f73l2) K) =
  laws_heldIntS.Z7 N a0 k1 i5 (fun a0 k1 i5 => K .nrm (f73s2 a0 k1 i5)) (fun k1 => K (.exit 0) (f73s3 k1)) (fun t4 => K .ret (f73s4 t4)) := by kernel_rfl
noncomputable def f73c6 := codeAt (bodyOf Try.f73) [1,0,1,0]
noncomputable def f73p6 : Plan := .mk none (some f73l2) .n .n
noncomputable abbrev f73w6 {ρ : Type} (N : Nat) (M : Nat) (σ : St) (K : KT ρ) : Option ρ := loopC (fun σ K => f73i N f73c7 .n σ K) f73l2 M σ K
theorem f73t6L {ρ : Type} (N : Nat) (K : KT ρ) : ∀ (M : Nat) (a0 : List Int) (k1 : Int) (i5 : Int), f73w6 N M (f73s2 a0 k1 i5) K =
  laws_heldIntS.Z6L N (fun k1 => K (.exit 0) (f73s3 k1)) (fun t4 => K .ret (f73s4 t4)) M a0 k1 i5
  | 0, _, _, _ => rfl
  | M + 1, a0, k1, i5 => viaRound (fun k => laws_heldIntS.Z7 N a0 k1 i5 k (fun k1 => K (.exit 0) (f73s3 k1)) (fun t4 => K .ret (f73s4 t4))) (f73t7 N a0 k1 i5 (seqK (fun σ => f73w6 N M σ K) K)) (funext fun a0 => funext fun k1 => funext fun i5 => f73t6L N K M a0 k1 i5) (by kernel_rfl) (by kernel_rfl)
theorem f73t6 {ρ : Type} (N : Nat) (a0 : List Int) (k1 : Int) (i5 : Int) (K : KT ρ) : f73i N f73c6 f73p6 (f73s2 a0 k1 i5) (joinK (some f73l3) K) =
  laws_heldIntS.Z6 N a0 k1 i5 (fun k1 => K (.exit 0) (f73s3 k1)) (fun t4 => K .ret (f73s4 t4)) :=
  viaLoop (by kernel_rfl) (by kernel_rfl) (σ' := f73s2 a0 k1 i5) (by kernel_rfl) (f73t6L N (joinK (some f73l3) K) N a0 k1 i5) (by kernel_rfl)
noncomputable def f73c5 := codeAt (bodyOf Try.f73) [1,0,1]
noncomputable def f73p5 : Plan := .mk (some f73l3) none f73p6 .n
theorem f73t5 {ρ : Type} (N : Nat) (a0 : List Int) (k1 : Int) (i5 : Int) (K : KT ρ) : f73i N f73c5 f73p5 (f73s2 a0 k1 i5) (joinK (some f73l3) K) =
  laws_heldIntS.Z5 N a0 k1 i5 (fun k1 => K .nrm (f73s3 k1)) (fun t4 => K .ret (f73s4 t4)) :=
  viaBlock (by kernel_rfl) (by kernel_rfl) (f73t6 N a0 k1 i5 (blockK 0 (joinK (some f73l3) K))) (by kernel_rfl)
noncomputable def f73c3 := codeAt (bodyOf Try.f73) [1,0]
noncomputable def f73p3 : Plan := .mk (some f73l2) none .n f73p5
theorem f73t3 {ρ : Type} (N : Nat) (a0 : List Int) (k1 : Int) (K : KT ρ) : f73i N f73c3 f73p3 (f73s1 a0 k1) (joinK (some f73l3) K) =
  laws_heldIntS.Z3 N a0 k1 (fun k1 => K .nrm (f73s3 k1)) (fun t4 => K .ret (f73s4 t4)) :=
  viaSeq (fun k => laws_heldIntS.Z4 N a0 k1 k) (by kernel_rfl) (by kernel_rfl) (f73t4 N a0 k1 (seqK (fun σ => f73i N f73c5 f73p5 σ (joinK (some f73l3) K)) (joinK (some f73l3) K))) (funext fun a0 => funext fun k1 => funext fun i5 => f73t5 N a0 k1 i5 K) (by kernel_rfl) (by kernel_rfl)
noncomputable def f73c8 := codeAt (bodyOf Try.f73) [1,1]
theorem f73t8 {ρ : Type} (N : Nat) (k1 : Int) (K : KT ρ) : f73i N f73c8 .n (f73s3 k1) (joinK (some f73lE) K) =
  laws_heldIntS.Z8 N k1 (fun t4 => K .ret (f73s4 t4)) := by kernel_rfl
noncomputable def f73c2 := codeAt (bodyOf Try.f73) [1]
noncomputable def f73p2 : Plan := .mk (some f73l3) none f73p3 .n
theorem f73t2 {ρ : Type} (N : Nat) (a0 : List Int) (k1 : Int) (K : KT ρ) : f73i N f73c2 f73p2 (f73s1 a0 k1) (joinK (some f73lE) K) =
  laws_heldIntS.Z2 N a0 k1 (fun t4 => K .ret (f73s4 t4)) :=
  viaSeq (fun k => laws_heldIntS.Z3 N a0 k1 k (fun t4 => K .ret (f73s4 t4))) (by kernel_rfl) (by kernel_rfl) (f73t3 N a0 k1 (seqK (fun σ => f73i N f73c8 .n σ (joinK (some f73lE) K)) (joinK (some f73lE) K))) (funext fun k1 => f73t8 N k1 K) (by kernel_rfl) (by kernel_rfl)
noncomputable def f73c0 := codeAt (bodyOf Try.f73) []
noncomputable def f73p0 : Plan := .mk (some f73l1) none .n f73p2
theorem f73t0 {ρ : Type} (N : Nat) (a0 : List Int) (k1 : Int) (K : KT ρ) : f73i N f73c0 f73p0 (f73s0 a0 k1) (joinK (some f73lE) K) =
  laws_heldIntS.Z0 N a0 k1 (fun t4 => K .ret (f73s4 t4)) :=
  viaSeq (fun k => laws_heldIntS.Z1 N a0 k1 k) (by kernel_rfl) (by kernel_rfl) (f73t1 N a0 k1 (seqK (fun σ => f73i N f73c2 f73p2 σ (joinK (some f73lE) K)) (joinK (some f73lE) K))) (funext fun a0 => funext fun k1 => f73t2 N a0 k1 K) (by kernel_rfl) (by kernel_rfl)
theorem f73m (N : Nat) (a0 : List Int) (k1 : Int) : f73i N f73c0 f73p0 (f73s0 a0 k1) (joinK (some f73lE) (finK tab f73sig Try.f73.results.toList)) = laws_heldIntS.Z0 N a0 k1 (fun t4 => some ((), (t4, ()))) :=
  (f73t0 N a0 k1 (finK tab f73sig Try.f73.results.toList)).trans (by kernel_rfl)
theorem f73ok (h : laws_heldIntS.Spec) : EntryOk Try.prog 73 e73 :=
  entry_of_code (sig := f73sig) (c := f73c0) (pl := f73p0) (je := (some f73lE)) (B := f73B) Try.func73 (by kernel_rfl) (by kernel_rfl) (by kernel_rfl) tabOk f73GOk (by kernel_rfl) (by kernel_rfl) (by kernel_rfl) (by kernel_rfl) fun X hb hp => by
    obtain ⟨a0, k1, _⟩ := X
    obtain ⟨N, h⟩ := h a0 k1 hb.1
    exact ⟨N, (f73m N a0 k1).trans (h N (Nat.le_refl N))⟩
theorem e73ok : EntryOk Try.prog 73 e73 := f73ok laws_heldIntS.ok
end Go.Fw
set_option linter.unusedVariables false
set_option linter.unusedSimpArgs false
set_option maxRecDepth 100000
namespace Go.Fw
open Go.Proofs
/-! ### loop.example/g03115/laws.heldMatrix -/
noncomputable def f33sig : Sig := ⟨[⟨.pair (.int .i64) (.pair (.int .i64) (.sl 3 (.int .i64))), true, false⟩, ⟨.int .i64, false, false⟩], [⟨.int .i64, false, false⟩]⟩
noncomputable def e33 : Entry := ⟨f33sig, none, fun X => ((), ((laws_heldMatrix.g X.1 X.2.1), ()))⟩
noncomputable def f33G : Nat → Option Entry := addG (fun _ => none) 73 e73
theorem f33GOk : GOk Try.prog f33G := (GOk.nil).add e73ok (by kernel_rfl)
noncomputable def f33lE : Clean := ⟨[], [], [], [], []⟩
noncomputable def f33s0 (a0 : Int × Int × List Int) (k1 : Int) : St := initSt f33sig.ps (a0, (k1, ()))
noncomputable def f33s1 (t4 : Int) : St := stOf [(4, .c (.int .i64 t4))] [] []
noncomputable def f33l1 : Clean := ⟨[4], [], [], [], []⟩
noncomputable def f33B : Nat → Option Clean := lookL [(1000000, f33l1)]
noncomputable abbrev f33i {ρ : Type} (N : Nat) (c : Code) (p : Plan) (σ : St) (K : KT ρ) : Option ρ := iCode f33G tab f33B N c p σ K
noncomputable def f33c0 := codeAt (bodyOf Try.f33) []
theorem f33t0 {ρ : Type} (N : Nat) (a0 : Int × Int × List Int) (k1 : Int) (K : KT ρ) : f33i N f33c0 .n (f33s0 a0 k1) (joinK (some f33lE) K) =
  laws_heldMatrix.Z0 N a0 k1 (fun t4 => K .ret (f33s1 t4)) := by kernel_rfl
theorem f33m (N : Nat) (a0 : Int × Int × List Int) (k1 : Int) : f33i N f33c0 .n (f33s0 a0 k1) (joinK (some f33lE) (finK tab f33sig Try.f33.results.toList)) = laws_heldMatrix.Z0 N a0 k1 (fun t4 => some ((), (t4, ()))) :=
  (f33t0 N a0 k1 (finK tab f33sig Try.f33.results.toList)).trans (by kernel_rfl)
theorem f33ok (h : laws_heldMatrix.Spec) : EntryOk Try.prog 33 e33 :=
  entry_of_code (sig := f33sig) (c := f33c0) (pl := .n) (je := (some f33lE)) (B := f33B) Try.func33 (by kernel_rfl) (by kernel_rfl) (by kernel_rfl) tabOk f33GOk (by kernel_rfl) (by kernel_rfl) (by kernel_rfl) (by kernel_rfl) fun X hb hp => by
    obtain ⟨a0, k1, _⟩ := X
    obtain ⟨N, h⟩ := h a0 k1 hb.1
    exact ⟨N, (f33m N a0 k1).trans (h N (Nat.le_refl N))⟩
theorem e33ok : EntryOk Try.prog 33 e33 := f33ok laws_heldMatrix.ok
end Go.Fw
set_option linter.unusedVariables false
set_option linter.unusedSimpArgs false
set_option maxRecDepth 100000
namespace Go.Fw
open Go.Proofs
/-! ### loop.example/g03115/laws.heldTermS -/
noncomputable def f107sig : Sig := ⟨[⟨.sl 103 (.pair (.sl 3 (.int .i64)) (.int .i64)), false, false⟩, ⟨.int .i64, false, false⟩], [⟨.int .i64, false, false⟩]⟩
noncomputable def e107 : Entry := ⟨f107sig, none, fun X => ((), ((laws_heldTermS.g X.1 X.2.1), ()))⟩
noncomputable def f107G : Nat → Option Entry := addG (fun _ => none) 73 e73
theorem f107GOk : GOk Try.prog f107G := (GOk.nil).add e73ok (by kernel_rfl)
noncomputable def f107lE : Clean := ⟨[], [], [], [], []⟩
noncomputable def f107s0 (a0 : List (List Int × Int)) (k1 : Int) : St := initSt f107sig.ps (a0, (k1, ()))
noncomputable def f107s1 (a0 : List (List Int × Int)) (k1 : Int) : St := stOf [(0, .c (.sn 103 (.pair (.sl 3 (.int .i64)) (.int .i64)) a0 none)), (1, .c (.int .i64 k1))] [] []
noncomputable def f107l1 : Clean := ⟨[0, 1], [], [], [], []⟩
noncomputable def f107s2 (a0 : List (List Int × Int)) (k1 : Int) (i5 : Int) : St := stOf [(0, .c (.sn 103 (.pair (.sl 3 (.int .i64)) (.int .i64)) a0 none)), (1, .c (.int .i64 k1)), (5, .c (.int .i64 i5))] [] []
noncomputable def f107l2 : Clean := ⟨[0, 1, 5], [], [], [], []⟩
noncomputable def f107s3 (k1 : Int) : St := stOf [(1, .c (.int .i64 k1))] [] []
noncomputable def f107l3 : Clean := ⟨[1], [], [], [], []⟩
noncomputable def f107s4 (t4 : Int) : St := stOf [(4, .c (.int .i64 t4))] [] []
noncomputable def f107l4 : Clean := ⟨[4], [], [], [], []⟩
noncomputable def f107B : Nat → Option Clean := lookL [(0, f107l3), (1000000, f107l4)]
noncomputable abbrev f107i {ρ : Type} (N : Nat) (c : Code) (p : Plan) (σ : St) (K : KT ρ) : Option ρ := iCode f107G tab f107B N c p σ K
noncomputable def f107c1 := codeAt (bodyOf Try.f107) [0]
theorem f107t1 {ρ : Type} (N : Nat) (a0 : List (List Int × Int)) (k1 : Int) (K : KT ρ) : f107i N f107c1 .n (f107s0 a0 k1) (joinK (some f107l1) K) =
  laws_heldTermS.Z1 N a0 k1 (fun a0 k1 => K .nrm (f107s1 a0 k1)) := by kernel_rfl
noncomputable def f107c4 := codeAt (bodyOf Try.f107) [1,0,0]
theorem f107t4 {ρ : Type} (N : Nat) (a0 : List (List Int × Int)) (k1 : Int) (K : KT ρ) : f107i N f107c4 .n (f107s1 a0 k1) (joinK (some f107l2) K) =
  laws_heldTermS.Z4 N a0 k1 (fun a0 k1 i5 => K .nrm (f107s2 a0 k1 i5)) := by kernel_rfl
noncomputable def f107c7 := codeAt (bodyOf Try.f107) [1,0,1,0,0]
theorem f107t7 {ρ : Type} (N : Nat) (a0 : List (List Int × Int)) (k1 : Int) (i5 : Int) (K : KT ρ) : f107i N f107c7 .n (f107s2 a0 k1 i5) (joinK (some f107l2) K) =
  laws_heldTermS.Z7 N a0 k1 i5 (fun a0 k1 i5 => K .nrm (f107s2 a0 k1 i5)) (fun k1 => K (.exit 0) (f107s3 k1)) (fun t4 => K .ret (f107s4 t4)) := by kernel_rfl
noncomputable def f107c6 := codeAt (bodyOf Try.f107) [1,0,1,0]
noncomputable def f107p6 : Plan := .mk none (some f107l2) .n .n
noncomputable abbrev f107w6 {ρ : Type} (N : Nat) (M : Nat) (σ : St) (K : KT ρ) : Option ρ := loopC (fun σ K => f107i N f107c7 .n σ K) f107l2 M σ K
theorem f107t6L {ρ : Type} (N : Nat) (K : KT ρ) : ∀ (M : Nat) (a0 : List (List Int × Int)) (k1 : Int) (i5 : Int), f107w6 N M (f107s2 a0 k1 i5) K =
  laws_heldTermS.Z6L N (fun k1 => K (.exit 0) (f107s3 k1)) (fun t4 => K .ret (f107s4 t4)) M a0 k1 i5
  | 0, _, _, _ => rfl
  | M + 1, a0, k1, i5 => viaRound (fun k => laws_heldTermS.Z7 N a0 k1 i5 k (fun k1 => K (.exit 0) (f107s3 k1)) (fun t4 => K .ret (f107s4 t4))) (f107t7 N a0 k1 i5 (seqK (fun σ => f107w6 N M σ K) K)) (funext fun a0 => funext fun k1 => funext fun i5 => f107t6L N K M a0 k1 i5) (by kernel_rfl) (by kernel_rfl)
theorem f107t6 {ρ : Type} (N : Nat) (a0 : List (List Int × Int)) (k1 : Int) (i5 : Int) (K : KT ρ) : f107i N f107c6 f107p6 (f107s2 a0 k1 i5) (joinK (some f107l3) K) =
  laws_heldTermS.Z6 N a0 k1 i5 (fun k1 => K (.exit 0) (f107s3 k1)) (fun t4 => K .ret (f107s4 t4)) :=
  viaLoop (by kernel_rfl) (by kernel_rfl) (σ' := f107s2 a0 k1 i5) (by kernel_rfl) (f107t6L N (joinK (some f107l3) K) N a0 k1 i5) (by kernel_rfl)
noncomputable def f107c5 := codeAt (bodyOf Try.f107) [1,0,1]
noncomputable def f107p5 : Plan := .mk (some f107l3) none f107p6 .n
theorem f107t5 {ρ : Type} (N : Nat) (a0 : List (List Int × Int)) (k1 : Int) (i5 : Int) (K : KT ρ) : f107i N f107c5 f107p5 (f107s2 a0 k1 i5) (joinK (some f107l3) K) =
  laws_heldTermS.Z5 N a0 k1 i5 (fun k1 => K .nrm (f107s3 k1)) (fun t4 => K .ret (f107s4 t4)) :=
  viaBlock (by kernel_rfl) (by kernel_rfl) (f107t6 N a0 k1 i5 (blockK 0 (joinK (some f107l3) K))) (by kernel_rfl)
noncomputable def f107c3 := codeAt (bodyOf Try.f107) [1,0]
noncomputable def f107p3 : Plan := .mk (some f107l2) none .n f107p5
theorem f107t3 {ρ : Type} (N : Nat) (a0 : List (List Int × Int)) (k1 : Int) (K : KT ρ) : f107i N f107c3 f107p3 (f107s1 a0 k1) (joinK (some f107l3) K) =
  laws_heldTermS.Z3 N a0 k1 (fun k1 => K .nrm (f107s3 k1)) (fun t4 => K .ret (f107s4 t4)) :=
  viaSeq (fun k => laws_heldTermS.Z4 N a0 k1 k) (by kernel_rfl) (by kernel_rfl) (f107t4 N a0 k1 (seqK (fun σ => f107i N f107c5 f107p5 σ (joinK (some f107l3) K)) (joinK (some f107l3) K))) (funext fun a0 => funext fun k1 => funext fun i5 => f107t5 N a0 k1 i5 K) (by kernel_rfl) (by kernel_rfl)
noncomputable def f107c8 := codeAt (bodyOf Try.f107) [1,1]
theorem f107t8 {ρ : Type} (N : Nat) (k1 : Int) (K : KT ρ) : f107i N f107c8 .n (f107s3 k1) (joinK (some f107lE) K) =
  laws_heldTermS.Z8 N k1 (fun t4 => K .ret (f107s4 t4)) := by kernel_rfl
noncomputable def f107c2 := codeAt (bodyOf Try.f107) [1]
noncomputable def f107p2 : Plan := .mk (some f107l3) none f107p3 .n
theorem f107t2 {ρ : Type} (N : Nat) (a0 : List (List Int × Int)) (k1 : Int) (K : KT ρ) : f107i N f107c2 f107p2 (f107s1 a0 k1) (joinK (some f107lE) K) =
  laws_heldTermS.Z2 N a0 k1 (fun t4 => K .ret (f107s4 t4)) :=
  viaSeq (fun k => laws_heldTermS.Z3 N a0 k1 k (fun t4 => K .ret (f107s4 t4))) (by kernel_rfl) (by kernel_rfl) (f107t3 N a0 k1 (seqK (fun σ => f107i N f107c8 .n σ (joinK (some f107lE) K)) (joinK (some f107lE) K))) (funext fun k1 => f107t8 N k1 K) (by kernel_rfl) (by kernel_rfl)
noncomputable def f107c0 := codeAt (bodyOf Try.f107) []
noncomputable def f107p0 : Plan := .mk (some f107l1) none .n f107p2
theorem f107t0 {ρ : Type} (N : Nat) (a0 : List (List Int × Int)) (k1 : Int) (K : KT ρ) : f107i N f107c0 f107p0 (f107s0 a0 k1) (joinK (some f107lE) K) =
  laws_heldTermS.Z0 N a0 k1 (fun t4 => K .ret (f107s4 t4)) :=
  viaSeq (fun k => laws_heldTermS.Z1 N a0 k1 k) (by kernel_rfl) (by kernel_rfl) (f107t1 N a0 k1 (seqK (fun σ => f107i N f107c2 f107p2 σ (joinK (some f107lE) K)) (joinK (some f107lE) K))) (funext fun a0 => funext fun k1 => f107t2 N a0 k1 K) (by kernel_rfl) (by kernel_rfl)
theorem f107m (N : Nat) (a0 : List (List Int × Int)) (k1 : Int) : f107i N f107c0 f107p0 (f107s0 a0 k1) (joinK (some f107lE) (finK tab f107sig Try.f107.results.toList)) = laws_heldTermS.Z0 N a0 k1 (fun t4 => some ((), (t4, ()))) :=
  (f107t0 N a0 k1 (finK tab f107sig Try.f107.results.toList)).trans (by kernel_rfl)
theorem f107ok (h : laws_heldTermS.Spec) : EntryOk Try.prog 107 e107 :=
  entry_of_code (sig := f107sig) (c := f107c0) (pl := f107p0) (je := (some f107lE)) (B := f107B) Try.func107 (by kernel_rfl) (by kernel_rfl) (by kernel_rfl) tabOk f107GOk (by kernel_rfl) (by kernel_rfl) (by kernel_rfl) (by kernel_rfl) fun X hb hp => by
    obtain ⟨a0, k1, _⟩ := X
    obtain ⟨N, h⟩ := h a0 k1 hb.1
    exact ⟨N, (f107m N a0 k1).trans (h N (Nat.le_refl N))⟩
theorem e107ok : EntryOk Try.prog 107 e107 := f107ok laws_heldTermS.ok
end Go.Fw
set_option linter.unusedVariables false
set_option linter.unusedSimpArgs false
set_option maxRecDepth 100000
namespace Go.Fw
open Go.Proofs
/-! ### loop.example/g03115/laws.heldLaurentS -/
noncomputable def f91sig : Sig := ⟨[⟨.sl 89 (.pair (.int .i64) (.sl 103 (.pair (.sl 3 (.int .i64)) (.int .i64)))), false, false⟩, ⟨.int .i64, false, false⟩], [⟨.int .i64, false, false⟩]⟩
noncomputable def e91 : Entry := ⟨f91sig, none, fun X => ((), ((laws_heldLaurentS.g X.1 X.2.1), ()))⟩
noncomputable def f91G : Nat → Option Entry := addG (fun _ => none) 107 e107
theorem f91GOk : GOk Try.prog f91G := (GOk.nil).add e107ok (by kernel_rfl)
noncomputable def f91lE : Clean := ⟨[], [], [], [], []⟩
noncomputable def f91s0 (a0 : List (Int × List (List Int × Int))) (k1 : Int) : St := initSt f91sig.ps (a0, (k1, ()))
noncomputable def f91s1 (a0 : List (Int × List (List Int × Int))) (k1 : Int) : St := stOf [(0, .c (.sn 89 (.pair (.int .i64) (.sl 103 (.pair (.sl 3 (.int .i64)) (.int .i64)))) a0 none)), (1, .c (.int .i64 k1))] [] []
noncomputable def f91l1 : Clean := ⟨[0, 1], [], [], [], []⟩
noncomputable def f91s2 (a0 : List (Int × List (List Int × Int))) (k1 : Int) (i5 : Int) : St := stOf [(0, .c (.sn 89 (.pair (.int .i64) (.sl 103 (.pair (.sl 3 (.int .i64)) (.int .i64)))) a0 none)), (1, .c (.int .i64 k1)), (5, .c (.int .i64 i5))] [] []
noncomputable def f91l2 : Clean := ⟨[0, 1, 5], [], [], [], []⟩
noncomputable def f91s3 (k1 : Int) : St := stOf [(1, .c (.int .i64 k1))] [] []
noncomputable def f91l3 : Clean := ⟨[1], [], [], [], []⟩
noncomputable def f91s4 (t4 : Int) : St := stOf [(4, .c (.int .i64 t4))] [] []
noncomputable def f91l4 : Clean := ⟨[4], [], [], [], []⟩
noncomputable def f91B : Nat → Option Clean := lookL [(0, f91l3), (1000000, f91l4)]
noncomputable abbrev f91i {ρ : Type} (N : Nat) (c : Code) (p : Plan) (σ : St) (K : KT ρ) : Option ρ := iCode f91G tab f91B N c p σ K
noncomputable def f91c1 := codeAt (bodyOf Try.f91) [0]
theorem f91t1 {ρ : Type} (N : Nat) (a0 : List (Int × List (List Int × Int))) (k1 : Int) (K : KT ρ) : f91i N f91c1 .n (f91s0 a0 k1) (joinK (some f91l1) K) =
  laws_heldLaurentS.Z1 N a0 k1 (fun a0 k1 => K .nrm (f91s1 a0 k1)) := by kernel_rfl
noncomputable def f91c4 := codeAt (bodyOf Try.f91) [1,0,0]
theorem f91t4 {ρ : Type} (N : Nat) (a0 : List (Int × List (List Int × Int))) (k1 : Int) (K : KT ρ) : f91i N f91c4 .n (f91s1 a0 k1) (joinK (some f91l2) K) =
  laws_heldLaurentS.Z4 N a0 k1 (fun a0 k1 i5 => K .nrm (f91s2 a0 k1 i5)) := by kernel_rfl
noncomputable def f91c7 := codeAt (bodyOf Try.f91) [1,0,1,0,0]
theorem f91t7 {ρ : Type} (N : Nat) (a0 : List (Int × List (List Int × Int))) (k1 : Int) (i5 : Int) (K : KT ρ) : f91i N f91c7 .n (f91s2 a0 k1 i5) (joinK (some f91l2) K) =
  laws_heldLaurentS.Z7 N a0 k1 i5 (fun a0 k1 i5 => K .nrm (f91s2 a0 k1 i5)) (fun k1 => K (.exit 0) (f91s3 k1)) (fun t4 => K .ret (f91s4 t4)) := by kernel_rfl
noncomputable def f91c6 := codeAt (bodyOf Try.f91) [1,0,1,0]
noncomputable def f91p6 : Plan := .mk none (some f91l2) .n .n
noncomputable abbrev f91w6 {ρ : Type} (N : Nat) (M : Nat) (σ : St) (K : KT ρ) : Option ρ := loopC (fun σ K => f91i N f91c7 .n σ K) f91l2 M σ K
theorem f91t6L {ρ : Type} (N : Nat) (K : KT ρ) : ∀ (M : Nat) (a0 : List (Int × List (List Int × Int))) (k1 : Int) (i5 : Int), f91w6 N M (f91s2 a0 k1 i5) K =
  laws_heldLaurentS.Z6L N (fun k1 => K (.exit 0) (f91s3 k1)) (fun t4 => K .ret (f91s4 t4)) M a0 k1 i5
  | 0, _, _, _ => rfl
  | M + 1, a0, k1, i5 => viaRound (fun k => laws_heldLaurentS.Z7 N a0 k1 i5 k (fun k1 => K (.exit 0) (f91s3 k1)) (fun t4 => K .ret (f91s4 t4))) (f91t7 N a0 k1 i5 (seqK (fun σ => f91w6 N M σ K) K)) (funext fun a0 => funext fun k1 => funext fun i5 => f91t6L N K M a0 k1 i5) (by kernel_rfl) (by kernel_rfl)
theorem f91t6 {ρ : Type} (N : Nat) (a0 : List (Int × List (List Int × Int))) (k1 : Int) (i5 : Int) (K : KT ρ) : f91i N f91c6 f91p6 (f91s2 a0 k1 i5) (joinK (some f91l3) K) =
  laws_heldLaurentS.Z6 N a0 k1 i5 (fun k1 => K (.exit 0) (f91s3 k1)) (fun t4 => K .ret (f91s4 t4)) :=
  viaLoop (by kernel_rfl) (by kernel_rfl) (σ' := f91s2 a0 k1 i5) (by kernel_rfl) (f91t6L N (joinK (some f91l3) K) N a0 k1 i5) (by kernel_rfl)
noncomputable def f91c5 := codeAt (bodyOf Try.f91) [1,0,1]
noncomputable def f91p5 : Plan := .mk (some f91l3) none f91p6 .n
theorem f91t5 {ρ : Type} (N : Nat) (a0 : List (Int × List (List Int × Int))) (k1 : Int) (i5 : Int) (K : KT ρ) : f91i N f91c5 f91p5 (f91s2 a0 k1 i5) (joinK (some f91l3) K) =
  laws_heldLaurentS.Z5 N a0 k1 i5 (fun k1 => K .nrm (f91s3 k1)) (fun t4 => K .ret (f91s4 t4)) :=
  viaBlock (by kernel_rfl) (by kernel_rfl) (f91t6 N a0 k1 i5 (blockK 0 (joinK (some f91l3) K))) (by kernel_rfl)
noncomputable def f91c3 := codeAt (bodyOf Try.f91) [1,0]
noncomputable def f91p3 : Plan := .mk (some f91l2) none .n f91p5
theorem f91t3 {ρ : Type} (N : Nat) (a0 : List (Int × List (List Int × Int))) (k1 : Int) (K : KT ρ) : f91i N f91c3 f91p3 (f91s1 a0 k1) (joinK (some f91l3) K) =
  laws_heldLaurentS.Z3 N a0 k1 (fun k1 => K .nrm (f91s3 k1)) (fun t4 => K .ret (f91s4 t4)) :=
  viaSeq (fun k => laws_heldLaurentS.Z4 N a0 k1 k) (by kernel_rfl) (by kernel_rfl) (f91t4 N a0 k1 (seqK (fun σ => f91i N f91c5 f91p5 σ (joinK (some f91l3) K)) (joinK (some f91l3) K))) (funext fun a0 => funext fun k1 => funext fun i5 => f91t5 N a0 k1 i5 K) (by kernel_rfl) (by kernel_rfl)
noncomputable def f91c8 := codeAt (bodyOf Try.f91) [1,1]
theorem f91t8 {ρ : Type} (N : Nat) (k1 : Int) (K : KT ρ) : f91i N f91c8 .n (f91s3 k1) (joinK (some f91lE) K) =
  laws_heldLaurentS.Z8 N k1 (fun t4 => K .ret (f91s4 t4)) := by kernel_rfl
noncomputable def f91c2 := codeAt (bodyOf Try.f91) [1]
noncomputable def f91p2 : Plan := .mk (some f91l3) none f91p3 .n
theorem f91t2 {ρ : Type} (N : Nat) (a0 : List (Int × List (List Int × Int))) (k1 : Int) (K : KT ρ) : f91i N f91c2 f91p2 (f91s1 a0 k1) (joinK (some f91lE) K) =
  laws_heldLaurentS.Z2 N a0 k1 (fun t4 => K .ret (f91s4 t4)) :=
  viaSeq (fun k => laws_heldLaurentS.Z3 N a0 k1 k (fun t4 => K .ret (f91s4 t4))) (by kernel_rfl) (by kernel_rfl) (f91t3 N a0 k1 (seqK (fun σ => f91i N f91c8 .n σ (joinK (some f91lE) K)) (joinK (some f91lE) K))) (funext fun k1 => f91t8 N k1 K) (by kernel_rfl) (by kernel_rfl)
noncomputable def f91c0 := codeAt (bodyOf Try.f91) []
noncomputable def f91p0 : Plan := .mk (some f91l1) none .n f91p2
theorem f91t0 {ρ : Type} (N : Nat) (a0 : List (Int × List (List Int × Int))) (k1 : Int) (K : KT ρ) : f91i N f91c0 f91p0 (f91s0 a0 k1) (joinK (some f91lE) K) =
  laws_heldLaurentS.Z0 N a0 k1 (fun t4 => K .ret (f91s4 t4)) :=
  viaSeq (fun k => laws_heldLaurentS.Z1 N a0 k1 k) (by kernel_rfl) (by kernel_rfl) (f91t1 N a0 k1 (seqK (fun σ => f91i N f91c2 f91p2 σ (joinK (some f91lE) K)) (joinK (some f91lE) K))) (funext fun a0 => funext fun k1 => f91t2 N a0 k1 K) (by kernel_rfl) (by kernel_rfl)
theorem f91m (N : Nat) (a0 : List (Int × List (List Int × Int))) (k1 : Int) : f91i N f91c0 f91p0 (f91s0 a0 k1) (joinK (some f91lE) (finK tab f91sig Try.f91.results.toList)) = laws_heldLaurentS.Z0 N a0 k1 (fun t4 => some ((), (t4, ()))) :=
  (f91t0 N a0 k1 (finK tab f91sig Try.f91.results.toList)).trans (by kernel_rfl)
theorem f91ok (h : laws_heldLaurentS.Spec) : EntryOk Try.prog 91 e91 :=
  entry_of_code (sig := f91sig) (c := f91c0) (pl := f91p0) (je := (some f91lE)) (B := f91B) Try.func91 (by kernel_rfl) (by kernel_rfl) (by kernel_rfl) tabOk f91GOk (by kernel_rfl) (by kernel_rfl) (by kernel_rfl) (by kernel_rfl) fun X hb hp => by
    obtain ⟨a0, k1, _⟩ := X
    obtain ⟨N, h⟩ := h a0 k1 hb.1
    exact ⟨N, (f91m N a0 k1).trans (h N (Nat.le_refl N))⟩
theorem e91ok : EntryOk Try.prog 91 e91 := f91ok laws_heldLaurentS.ok
end Go.Fw
set_option linter.unusedVariables false
set_option linter.unusedSimpArgs false
set_option maxRecDepth 100000
namespace Go.Fw
open Go.Proofs
/-! ### loop.example/g03115/laws.heldSeed -/
noncomputable def f53sig : Sig := ⟨[⟨.pair (.pair (.int .i64) (.pair (.int .i64) (.sl 3 (.int .i64)))) (.sl 89 (.pair (.int .i64) (.sl 103 (.pair (.sl 3 (.int .i64)) (.int .i64))))), true, false⟩, ⟨.int .i64, false, false⟩], [⟨.int .i64, false, false⟩]⟩
noncomputable def e53 : Entry := ⟨f53sig, none, fun X => ((), ((laws_heldSeed.g X.1 X.2.1), ()))⟩
noncomputable def f53G : Nat → Option Entry := addG (addG (fun _ => none) 33 e33) 91 e91
theorem f53GOk : GOk Try.prog f53G := ((GOk.nil).add e33ok (by kernel_rfl)).add e91ok (by kernel_rfl)
noncomputable def f53lE : Clean := ⟨[], [], [], [], []⟩
noncomputable def f53s0 (a0 : (Int × Int × List Int) × List (Int × List (List Int × Int))) (k1 : Int) : St := initSt f53sig.ps (a0, (k1, ()))
noncomputable def f53s1 (t4 : Int) : St := stOf [(4, .c (.int .i64 t4))] [] []
noncomputable def f53l1 : Clean := ⟨[4], [], [], [], []⟩
noncomputable def f53B : Nat → Option Clean := lookL [(1000000, f53l1)]
noncomputable abbrev f53i {ρ : Type} (N : Nat) (c : Code) (p : Plan) (σ : St) (K : KT ρ) : Option ρ := iCode f53G tab f53B N c p σ K
noncomputable def f53c0 := codeAt (bodyOf Try.f53) []
theorem f53t0 {ρ : Type} (N : Nat) (a0 : (Int × Int × List Int) × List (Int × List (List Int × Int))) (k1 : Int) (K : KT ρ) : f53i N f53c0 .n (f53s0 a0 k1) (joinK (some f53lE) K) =
  laws_heldSeed.Z0 N a0 k1 (fun t4 => K .ret (f53s1 t4)) := by kernel_rfl
theorem f53m (N : Nat) (a0 : (Int × Int × List Int) × List (Int × List (List Int × Int))) (k1 : Int) : f53i N f53c0 .n (f53s0 a0 k1) (joinK (some f53lE) (finK tab f53sig Try.f53.results.toList)) = laws_heldSeed.Z0 N a0 k1 (fun t4 => some ((), (t4, ()))) :=
  (f53t0 N a0 k1 (finK tab f53sig Try.f53.results.toList)).trans (by kernel_rfl)
theorem f53ok (h : laws_heldSeed.Spec) : EntryOk Try.prog 53 e53 :=
  entry_of_code (sig := f53sig) (c := f53c0) (pl := .n) (je := (some f53lE)) (B := f53B) Try.func53 (by kernel_rfl) (by kernel_rfl) (by kernel_rfl) tabOk f53GOk (by kernel_rfl) (by kernel_rfl) (by kernel_rfl) (by kernel_rfl) fun X hb hp => by
    obtain ⟨a0, k1, _⟩ := X
    obtain ⟨N, h⟩ := h a0 k1 hb.1
    exact ⟨N, (f53m N a0 k1).trans (h N (Nat.le_refl N))⟩
theorem e53ok : EntryOk Try.prog 53 e53 := f53ok laws_heldSeed.ok
end Go.Fw
set_option linter.unusedVariables false
set_option linter.unusedSimpArgs false
set_option maxRecDepth 100000
namespace Go.Fw
open Go.Proofs
/-! ### loop.example/g03115/laws.FnExactInitialSeed -/
noncomputable def f12sig : Sig := ⟨[⟨.pair (.int .i64) (.pair (.int .i64) (.sl 3 (.int .i64))), true, false⟩], [⟨.bool, false, false⟩]⟩
noncomputable def e12 : Entry := ⟨f12sig, none, fun X => ((), ((laws_FnExactInitialSeed.g X.1), ()))⟩
noncomputable def f12G : Nat → Option Entry := addG (addG (addG (addG (addG (addG (addG (addG (addG (fun _ => none) 27 e27) 29 e29) 31 e31) 32 e32) 49 e49) 50 e50) 51 e51) 52 e52) 53 e53
theorem f12GOk : GOk Try.prog f12G := (((((((((GOk.nil).add e27ok (by kernel_rfl)).add e29ok (by kernel_rfl)).add e31ok (by kernel_rfl)).add e32ok (by kernel_rfl)).add e49ok (by kernel_rfl)).add e50ok (by kernel_rfl)).add e51ok (by kernel_rfl)).add e52ok (by kernel_rfl)).add e53ok (by kernel_rfl)
noncomputable def f12lE : Clean := ⟨[], [], [], [], []⟩
noncomputable def f12s0 (aM0 : Int × Int × List Int) : St := initSt f12sig.ps (aM0, ())
noncomputable def f12s1 (aM1_0 : Int) (aM1_1 : Int) (aM1_2 : List Int) : St := stOf [(1, .c (.box 1 0))] [(1, (41, [.int .i64 aM1_0, .int .i64 aM1_1, .sn 3 (.int .i64) aM1_2 none]))] []
noncomputable def f12l1 : Clean := ⟨[1], [1], [], [], []⟩
noncomputable def f12s2 (left3 : Int) (aM1_0 : Int) (aM1_1 : Int) (aM1_2 : List Int) : St := stOf [(1, .c (.box 1 0)), (3, .c (.int .i64 left3))] [(1, (41, [.int .i64 aM1_0, .int .i64 aM1_1, .sn 3 (.int .i64) aM1_2 none]))] []
noncomputable def f12l2 : Clean := ⟨[1, 3], [1], [], [], []⟩
noncomputable def f12s3 (w04_2 : List Int) (w04_3 : List (Int × List (List Int × Int))) (w15 : Bool) (aM1_0 : Int) (aM1_1 : Int) (aM1_2 : List Int) (w04_0 : Int) (w04_1 : Int) : St := stOf [(1, .c (.box 1 0)), (4, .c (.box 4 0)), (5, .c (.bool w15))] [(1, (41, [.int .i64 aM1_0, .int .i64 aM1_1, .sn 3 (.int .i64) aM1_2 none])), (4, (59, [.int .i64 w04_0, .int .i64 w04_1, .own 20000258, .own 20000259]))] [(20000258, (⟨3, .int .i64, w04_2, true, false⟩ : Row)), (20000259, (⟨89, .pair (.int .i64) (.sl 103 (.pair (.sl 3 (.int .i64)) (.int .i64))), w04_3, true, false⟩ : Row))]
noncomputable def f12l3 : Clean := ⟨[1, 4, 5], [1, 4], [], [], [(⟨true, 4, 2⟩, 20000258), (⟨true, 4, 3⟩, 20000259)]⟩
noncomputable def f12s4 (w04_2 : List Int) (w04_3 : List (Int × List (List Int × Int))) (x06_2 : List Int) (w15 : Bool) (aM1_0 : Int) (aM1_1 : Int) (aM1_2 : List Int) (w04_0 : Int) (w04_1 : Int) (x06_0 : Int) (x06_1 : Int) : St := stOf [(1, .c (.box 1 0)), (4, .c (.box 4 0)), (5, .c (.bool w15)), (6, .c (.box 6 0))] [(1, (41, [.int .i64 aM1_0, .int .i64 aM1_1, .sn 3 (.int .i64) aM1_2 none])), (4, (59, [.int .i64 w04_0, .int .i64 w04_1, .own 20000258, .own 20000259])), (6, (26, [.int .i64 x06_0, .int .i64 x06_1, .own 20000386]))] [(20000258, (⟨3, .int .i64, w04_2, true, false⟩ : Row)), (20000259, (⟨89, .pair (.int .i64) (.sl 103 (.pair (.sl 3 (.int .i64)) (.int .i64))), w04_3, true, false⟩ : Row)), (20000386, (⟨3, .int .i64, x06_2, true, false⟩ : Row))]
noncomputable def f12l4 : Clean := ⟨[1, 4, 5, 6], [1, 4, 6], [], [], [(⟨true, 4, 2⟩, 20000258), (⟨true, 4, 3⟩, 20000259), (⟨true, 6, 2⟩, 20000386)]⟩
noncomputable def f12s5 (w04_2 : List Int) (w04_3 : List (Int × List (List Int × Int))) (x06_2 : List Int) (g07_2 : List Int) (g07_3 : List (Int × List (List Int × Int))) (w15 : Bool) (g18 : Bool) (aM1_0 : Int) (aM1_1 : Int) (aM1_2 : List Int) (w04_0 : Int) (w04_1 : Int) (x06_0 : Int) (x06_1 : Int) (g07_0 : Int) (g07_1 : Int) : St := stOf [(1, .c (.box 1 0)), (4, .c (.box 4 0)), (5, .c (.bool w15)), (6, .c (.box 6 0)), (7, .c (.box 7 0)), (8, .c (.bool g18))] [(1, (41, [.int .i64 aM1_0, .int .i64 aM1_1, .sn 3 (.int .i64) aM1_2 none])), (4, (59, [.int .i64 w04_0, .int .i64 w04_1, .own 20000258, .own 20000259])), (6, (26, [.int .i64 x06_0, .int .i64 x06_1, .own 20000386])), (7, (59, [.int .i64 g07_0, .int .i64 g07_1, .own 20000450, .own 20000451]))] [(20000258, (⟨3, .int .i64, w04_2, true, false⟩ : Row)), (20000259, (⟨89, .pair (.int .i64) (.sl 103 (.pair (.sl 3 (.int .i64)) (.int .i64))), w04_3, true, false⟩ : Row)), (20000386, (⟨3, .int .i64, x06_2, true, false⟩ : Row)), (20000450, (⟨3, .int .i64, g07_2, true, false⟩ : Row)), (20000451, (⟨89, .pair (.int .i64) (.sl 103 (.pair (.sl 3 (.int .i64)) (.int .i64))), g07_3, true, false⟩ : Row))]
noncomputable def f12l5 : Clean := ⟨[1, 4, 5, 6, 7, 8], [1, 4, 6, 7], [], [], [(⟨true, 4, 2⟩, 20000258), (⟨true, 4, 3⟩, 20000259), (⟨true, 6, 2⟩, 20000386), (⟨true, 7, 2⟩, 20000450), (⟨true, 7, 3⟩, 20000451)]⟩
noncomputable def f12s6 (w04_2 : List Int) (w04_3 : List (Int × List (List Int × Int))) (x06_2 : List Int) (g07_2 : List Int) (g07_3 : List (Int × List (List Int × Int))) (w15 : Bool) (g18 : Bool) (k9 : Int) (aM1_0 : Int) (aM1_1 : Int) (aM1_2 : List Int) (w04_0 : Int) (w04_1 : Int) (x06_0 : Int) (x06_1 : Int) (g07_0 : Int) (g07_1 : Int) : St := stOf [(1, .c (.box 1 0)), (4, .c (.box 4 0)), (5, .c (.bool w15)), (6, .c (.box 6 0)), (7, .c (.box 7 0)), (8, .c (.bool g18)), (9, .c (.int .i64 k9))] [(1, (41, [.int .i64 aM1_0, .int .i64 aM1_1, .sn 3 (.int .i64) aM1_2 none])), (4, (59, [.int .i64 w04_0, .int .i64 w04_1, .own 20000258, .own 20000259])), (6, (26, [.int .i64 x06_0, .int .i64 x06_1, .own 20000386])), (7, (59, [.int .i64 g07_0, .int .i64 g07_1, .own 20000450, .own 20000451]))] [(20000258, (⟨3, .int .i64, w04_2, true, false⟩ : Row)), (20000259, (⟨89, .pair (.int .i64) (.sl 103 (.pair (.sl 3 (.int .i64)) (.int .i64))), w04_3, true, false⟩ : Row)), (20000386, (⟨3, .int .i64, x06_2, true, false⟩ : Row)), (20000450, (⟨3, .int .i64, g07_2, true, false⟩ : Row)), (20000451, (⟨89, .pair (.int .i64) (.sl 103 (.pair (.sl 3 (.int .i64)) (.int .i64))), g07_3, true, false⟩ : Row))]
noncomputable def f12l6 : Clean := ⟨[1, 4, 5, 6, 7, 8, 9], [1, 4, 6, 7], [], [], [(⟨true, 4, 2⟩, 20000258), (⟨true, 4, 3⟩, 20000259), (⟨true, 6, 2⟩, 20000386), (⟨true, 7, 2⟩, 20000450), (⟨true, 7, 3⟩, 20000451)]⟩
noncomputable def f12s7 (w04_2 : List Int) (w04_3 : List (Int × List (List Int × Int))) (g07_2 : List Int) (g07_3 : List (Int × List (List Int × Int))) (w15 : Bool) (g18 : Bool) (k9 : Int) (aM1_0 : Int) (aM1_1 : Int) (aM1_2 : List Int) (w04_0 : Int) (w04_1 : Int) (g07_0 : Int) (g07_1 : Int) : St := stOf [(1, .c (.box 1 0)), (4, .c (.box 4 0)), (5, .c (.bool w15)), (7, .c (.box 7 0)), (8, .c (.bool g18)), (9, .c (.int .i64 k9))] [(1, (41, [.int .i64 aM1_0, .int .i64 aM1_1, .sn 3 (.int .i64) aM1_2 none])), (4, (59, [.int .i64 w04_0, .int .i64 w04_1, .own 20000258, .own 20000259])), (7, (59, [.int .i64 g07_0, .int .i64 g07_1, .own 20000450, .own 20000451]))] [(20000258, (⟨3, .int .i64, w04_2, true, false⟩ : Row)), (20000259, (⟨89, .pair (.int .i64) (.sl 103 (.pair (.sl 3 (.int .i64)) (.int .i64))), w04_3, true, false⟩ : Row)), (20000450, (⟨3, .int .i64, g07_2, true, false⟩ : Row)), (20000451, (⟨89, .pair (.int .i64) (.sl 103 (.pair (.sl 3 (.int .i64)) (.int .i64))), g07_3, true, false⟩ : Row))]
noncomputable def f12l7 : Clean := ⟨[1, 4, 5, 7, 8, 9], [1, 4, 7], [], [], [(⟨true, 4, 2⟩, 20000258), (⟨true, 4, 3⟩, 20000259), (⟨true, 7, 2⟩, 20000450), (⟨true, 7, 3⟩, 20000451)]⟩
noncomputable def f12s8 (w04_2 : List Int) (w04_3 : List (Int × List (List Int × Int))) (g07_2 : List Int) (g07_3 : List (Int × List (List Int × Int))) (w15 : Bool) (aM1_0 : Int) (aM1_1 : Int) (aM1_2 : List Int) (w04_0 : Int) (w04_1 : Int) (g07_0 : Int) (g07_1 : Int) : St := stOf [(1, .c (.box 1 0)), (4, .c (.box 4 0)), (5, .c (.bool w15)), (7, .c (.box 7 0))] [(1, (41, [.int .i64 aM1_0, .int .i64 aM1_1, .sn 3 (.int .i64) aM1_2 none])), (4, (59, [.int .i64 w04_0, .int .i64 w04_1, .own 20000258, .own 20000259])), (7, (59, [.int .i64 g07_0, .int .i64 g07_1, .own 20000450, .own 20000451]))] [(20000258, (⟨3, .int .i64, w04_2, true, false⟩ : Row)), (20000259, (⟨89, .pair (.int .i64) (.sl 103 (.pair (.sl 3 (.int .i64)) (.int .i64))), w04_3, true, false⟩ : Row)), (20000450, (⟨3, .int .i64, g07_2, true, false⟩ : Row)), (20000451, (⟨89, .pair (.int .i64) (.sl 103 (.pair (.sl 3 (.int .i64)) (.int .i64))), g07_3, true, false⟩ : Row))]
noncomputable def f12l8 : Clean := ⟨[1, 4, 5, 7], [1, 4, 7], [], [], [(⟨true, 4, 2⟩, 20000258), (⟨true, 4, 3⟩, 20000259), (⟨true, 7, 2⟩, 20000450), (⟨true, 7, 3⟩, 20000451)]⟩
noncomputable def f12s9 (t2 : Bool) : St := stOf [(2, .c (.bool t2))] [] []
noncomputable def f12l9 : Clean := ⟨[2], [], [], [], []⟩
noncomputable def f12B : Nat → Option Clean := lookL [(1000000, f12l9)]
noncomputable abbrev f12i {ρ : Type} (N : Nat) (c : Code) (p : Plan) (σ : St) (K : KT ρ) : Option ρ := iCode f12G tab f12B N c p σ K
noncomputable def f12c1 := codeAt (bodyOf Try.f12) [0]
theorem f12t1 {ρ : Type} (N : Nat) (aM0 : Int × Int × List Int) (K : KT ρ) : f12i N f12c1 .n (f12s0 aM0) (joinK (some f12l1) K) =
  laws_FnExactInitialSeed.Z1 N aM0 (fun aM1_0 aM1_1 aM1_2 => K .nrm (f12s1 aM1_0 aM1_1 aM1_2)) := by kernel_rfl
noncomputable def f12c3 := codeAt (bodyOf Try.f12) [1,0]
theorem f12t3 {ρ : Type} (N : Nat) (aM1_0 : Int) (aM1_1 : Int) (aM1_2 : List Int) (K : KT ρ) : f12i N f12c3 .n (f12s1 aM1_0 aM1_1 aM1_2) (joinK (some f12l2) K) =
  laws_FnExactInitialSeed.Z3 N aM1_0 aM1_1 aM1_2 (fun left3 aM1_0 aM1_1 aM1_2 => K .nrm (f12s2 left3 aM1_0 aM1_1 aM1_2)) := by kernel_rfl
noncomputable def f12c5 := codeAt (bodyOf Try.f12) [1,1,0]
theorem f12t5 {ρ : Type} (N : Nat) (left3 : Int) (aM1_0 : Int) (aM1_1 : Int) (aM1_2 : List Int) (K : KT ρ) : f12i N f12c5 .n (f12s2 left3 aM1_0 aM1_1 aM1_2) (joinK (some f12l2) K) =
  laws_FnExactInitialSeed.Z5 N left3 aM1_0 aM1_1 aM1_2 (fun left3 aM1_0 aM1_1 aM1_2 => K .nrm (f12s2 left3 aM1_0 aM1_1 aM1_2)) := by kernel_rfl
noncomputable def f12c7 := codeAt (bodyOf Try.f12) [1,1,1,0]
theorem f12t7 {ρ : Type} (N : Nat) (left3 : Int) (aM1_0 : Int) (aM1_1 : Int) (aM1_2 : List Int) (K : KT ρ) : f12i N f12c7 .n (f12s2 left3 aM1_0 aM1_1 aM1_2) (joinK (some f12l1) K) =
  laws_FnExactInitialSeed.Z7 N left3 aM1_0 aM1_1 aM1_2 (fun aM1_0 aM1_1 aM1_2 => K .nrm (f12s1 aM1_0 aM1_1 aM1_2)) (fun t2 => K .ret (f12s9 t2)) := by kernel_rfl
noncomputable def f12c9 := codeAt (bodyOf Try.f12) [1,1,1,1,0]
theorem f12t9 {ρ : Type} (N : Nat) (aM1_0 : Int) (aM1_1 : Int) (aM1_2 : List Int) (K : KT ρ) : f12i N f12c9 .n (f12s1 aM1_0 aM1_1 aM1_2) (joinK (some f12l3) K) =
  laws_FnExactInitialSeed.Z9 N aM1_0 aM1_1 aM1_2 (fun w04_2 w04_3 w15 aM1_0 aM1_1 aM1_2 w04_0 w04_1 => K .nrm (f12s3 w04_2 w04_3 w15 aM1_0 aM1_1 aM1_2 w04_0 w04_1)) := by kernel_rfl
noncomputable def f12c11 := codeAt (bodyOf Try.f12) [1,1,1,1,1,0]
theorem f12t11 {ρ : Type} (N : Nat) (w04_2 : List Int) (w04_3 : List (Int × List (List Int × Int))) (w15 : Bool) (aM1_0 : Int) (aM1_1 : Int) (aM1_2 : List Int) (w04_0 : Int) (w04_1 : Int) (K : KT ρ) : f12i N f12c11 .n (f12s3 w04_2 w04_3 w15 aM1_0 aM1_1 aM1_2 w04_0 w04_1) (joinK (some f12l4) K) =
  laws_FnExactInitialSeed.Z11 N w04_2 w04_3 w15 aM1_0 aM1_1 aM1_2 w04_0 w04_1 (fun w04_2 w04_3 x06_2 w15 aM1_0 aM1_1 aM1_2 w04_0 w04_1 x06_0 x06_1 => K .nrm (f12s4 w04_2 w04_3 x06_2 w15 aM1_0 aM1_1 aM1_2 w04_0 w04_1 x06_0 x06_1)) := by kernel_rfl
noncomputable def f12c13 := codeAt (bodyOf Try.f12) [1,1,1,1,1,1,0]
theorem f12t13 {ρ : Type} (N : Nat) (w04_2 : List Int) (w04_3 : List (Int × List (List Int × Int))) (x06_2 : List Int) (w15 : Bool) (aM1_0 : Int) (aM1_1 : Int) (aM1_2 : List Int) (w04_0 : Int) (w04_1 : Int) (x06_0 : Int) (x06_1 : Int) (K : KT ρ) : f12i N f12c13 .n (f12s4 w04_2 w04_3 x06_2 w15 aM1_0 aM1_1 aM1_2 w04_0 w04_1 x06_0 x06_1) (joinK (some f12l5) K) =
  laws_FnExactInitialSeed.Z13 N w04_2 w04_3 x06_2 w15 aM1_0 aM1_1 aM1_2 w04_0 w04_1 x06_0 x06_1 (fun w04_2 w04_3 x06_2 g07_2 g07_3 w15 g18 aM1_0 aM1_1 aM1_2 w04_0 w04_1 x06_0 x06_1 g07_0 g07_1 => K .nrm (f12s5 w04_2 w04_3 x06_2 g07_2 g07_3 w15 g18 aM1_0 aM1_1 aM1_2 w04_0 w04_1 x06_0 x06_1 g07_0 g07_1)) := by kernel_rfl
noncomputable def f12c15 := codeAt (bodyOf Try.f12) [1,1,1,1,1,1,1,0]
theorem f12t15 {ρ : Type} (N : Nat) (w04_2 : List Int) (w04_3 : List (Int × List (List Int × Int))) (x06_2 : List Int) (g07_2 : List Int) (g07_3 : List (Int × List (List Int × Int))) (w15 : Bool) (g18 : Bool) (aM1_0 : Int) (aM1_1 : Int) (aM1_2 : List Int) (w04_0 : Int) (w04_1 : Int) (x06_0 : Int) (x06_1 : Int) (g07_0 : Int) (g07_1 : Int) (K : KT ρ) : f12i N f12c15 .n (f12s5 w04_2 w04_3 x06_2 g07_2 g07_3 w15 g18 aM1_0 aM1_1 aM1_2 w04_0 w04_1 x06_0 x06_1 g07_0 g07_1) (joinK (some f12l5) K) =
  laws_FnExactInitialSeed.Z15 N w04_2 w04_3 x06_2 g07_2 g07_3 w15 g18 aM1_0 aM1_1 aM1_2 w04_0 w04_1 x06_0 x06_1 g07_0 g07_1 (fun w04_2 w04_3 x06_2 g07_2 g07_3 w15 g18 aM1_0 aM1_1 aM1_2 w04_0 w04_1 x06_0 x06_1 g07_0 g07_1 => K .nrm (f12s5 w04_2 w04_3 x06_2 g07_2 g07_3 w15 g18 aM1_0 aM1_1 aM1_2 w04_0 w04_1 x06_0 x06_1 g07_0 g07_1)) (fun t2 => K .ret (f12s9 t2)) := by kernel_rfl
noncomputable def f12c17 := codeAt (bodyOf Try.f12) [1,1,1,1,1,1,1,1,0]
theorem f12t17 {ρ : Type} (N : Nat) (w04_2 : List Int) (w04_3 : List (Int × List (List Int × Int))) (x06_2 : List Int) (g07_2 : List Int) (g07_3 : List (Int × List (List Int × Int))) (w15 : Bool) (g18 : Bool) (aM1_0 : Int) (aM1_1 : Int) (aM1_2 : List Int) (w04_0 : Int) (w04_1 : Int) (x06_0 : Int) (x06_1 : Int) (g07_0 : Int) (g07_1 : Int) (K : KT ρ) : f12i N f12c17 .n (f12s5 w04_2 w04_3 x06_2 g07_2 g07_3 w15 g18 aM1_0 aM1_1 aM1_2 w04_0 w04_1 x06_0 x06_1 g07_0 g07_1) (joinK (some f12l5) K) =
  laws_FnExactInitialSeed.Z17 N w04_2 w04_3 x06_2 g07_2 g07_3 w15 g18 aM1_0 aM1_1 aM1_2 w04_0 w04_1 x06_0 x06_1 g07_0 g07_1 (fun w04_2 w04_3 x06_2 g07_2 g07_3 w15 g18 aM1_0 aM1_1 aM1_2 w04_0 w04_1 x06_0 x06_1 g07_0 g07_1 => K .nrm (f12s5 w04_2 w04_3 x06_2 g07_2 g07_3 w15 g18 aM1_0 aM1_1 aM1_2 w04_0 w04_1 x06_0 x06_1 g07_0 g07_1)) (fun t2 => K .ret (f12s9 t2)) := by kernel_rfl
noncomputable def f12c19 := codeAt (bodyOf Try.f12) [1,1,1,1,1,1,1,1,1,0]
theorem f12t19 {ρ : Type} (N : Nat) (w04_2 : List Int) (w04_3 : List (Int × List (List Int × Int))) (x06_2 : List Int) (g07_2 : List Int) (g07_3 : List (Int × List (List Int × Int))) (w15 : Bool) (g18 : Bool) (aM1_0 : Int) (aM1_1 : Int) (aM1_2 : List Int) (w04_0 : Int) (w04_1 : Int) (x06_0 : Int) (x06_1 : Int) (g07_0 : Int) (g07_1 : Int) (K : KT ρ) : f12i N f12c19 .n (f12s5 w04_2 w04_3 x06_2 g07_2 g07_3 w15 g18 aM1_0 aM1_1 aM1_2 w04_0 w04_1 x06_0 x06_1 g07_0 g07_1) (joinK (some f12l6) K) =
  laws_FnExactInitialSeed.Z19 N w04_2 w04_3 x06_2 g07_2 g07_3 w15 g18 aM1_0 aM1_1 aM1_2 w04_0 w04_1 x06_0 x06_1 g07_0 g07_1 (fun w04_2 w04_3 x06_2 g07_2 g07_3 w15 g18 k9 aM1_0 aM1_1 aM1_2 w04_0 w04_1 x06_0 x06_1 g07_0 g07_1 => K .nrm (f12s6 w04_2 w04_3 x06_2 g07_2 g07_3 w15 g18 k9 aM1_0 aM1_1 aM1_2 w04_0 w04_1 x06_0 x06_1 g07_0 g07_1)) := by kernel_rfl
noncomputable def f12c21 := codeAt (bodyOf Try.f12) [1,1,1,1,1,1,1,1,1,1,0]
theorem f12t21 {ρ : Type} (N : Nat) (w04_2 : List Int) (w04_3 : List (Int × List (List Int × Int))) (x06_2 : List Int) (g07_2 : List Int) (g07_3 : List (Int × List (List Int × Int))) (w15 : Bool) (g18 : Bool) (k9 : Int) (aM1_0 : Int) (aM1_1 : Int) (aM1_2 : List Int) (w04_0 : Int) (w04_1 : Int) (x06_0 : Int) (x06_1 : Int) (g07_0 : Int) (g07_1 : Int) (K : KT ρ) : f12i N f12c21 .n (f12s6 w04_2 w04_3 x06_2 g07_2 g07_3 w15 g18 k9 aM1_0 aM1_1 aM1_2 w04_0 w04_1 x06_0 x06_1 g07_0 g07_1) (joinK (some f12l7) K) =
  laws_FnExactInitialSeed.Z21 N w04_2 w04_3 x06_2 g07_2 g07_3 w15 g18 k9 aM1_0 aM1_1 aM1_2 w04_0 w04_1 x06_0 x06_1 g07_0 g07_1 (fun w04_2 w04_3 g07_2 g07_3 w15 g18 k9 aM1_0 aM1_1 aM1_2 w04_0 w04_1 g07_0 g07_1 => K .nrm (f12s7 w04_2 w04_3 g07_2 g07_3 w15 g18 k9 aM1_0 aM1_1 aM1_2 w04_0 w04_1 g07_0 g07_1)) := by kernel_rfl
noncomputable def f12c23 := codeAt (bodyOf Try.f12) [1,1,1,1,1,1,1,1,1,1,1,0]
theorem f12t23 {ρ : Type} (N : Nat) (w04_2 : List Int) (w04_3 : List (Int × List (List Int × Int))) (g07_2 : List Int) (g07_3 : List (Int × List (List Int × Int))) (w15 : Bool) (g18 : Bool) (k9 : Int) (aM1_0 : Int) (aM1_1 : Int) (aM1_2 : List Int) (w04_0 : Int) (w04_1 : Int) (g07_0 : Int) (g07_1 : Int) (K : KT ρ) : f12i N f12c23 .n (f12s7 w04_2 w04_3 g07_2 g07_3 w15 g18 k9 aM1_0 aM1_1 aM1_2 w04_0 w04_1 g07_0 g07_1) (joinK (some f12l8) K) =
  laws_FnExactInitialSeed.Z23 N w04_2 w04_3 g07_2 g07_3 w15 g18 k9 aM1_0 aM1_1 aM1_2 w04_0 w04_1 g07_0 g07_1 (fun w04_2 w04_3 g07_2 g07_3 w15 aM1_0 aM1_1 aM1_2 w04_0 w04_1 g07_0 g07_1 => K .nrm (f12s8 w04_2 w04_3 g07_2 g07_3 w15 aM1_0 aM1_1 aM1_2 w04_0 w04_1 g07_0 g07_1)) (fun t2 => K .ret (f12s9 t2)) := by kernel_rfl
noncomputable def f12c24 := codeAt (bodyOf Try.f12) [1,1,1,1,1,1,1,1,1,1,1,1]
theorem f12t24 {ρ : Type} (N : Nat) (w04_2 : List Int) (w04_3 : List (Int × List (List Int × Int))) (g07_2 : List Int) (g07_3 : List (Int × List (List Int × Int))) (w15 : Bool) (aM1_0 : Int) (aM1_1 : Int) (aM1_2 : List Int) (w04_0 : Int) (w04_1 : Int) (g07_0 : Int) (g07_1 : Int) (K : KT ρ) : f12i N f12c24 .n (f12s8 w04_2 w04_3 g07_2 g07_3 w15 aM1_0 aM1_1 aM1_2 w04_0 w04_1 g07_0 g07_1) (joinK (some f12lE) K) =
  laws_FnExactInitialSeed.Z24 N w04_2 w04_3 g07_2 g07_3 w15 aM1_0 aM1_1 aM1_2 w04_0 w04_1 g07_0 g07_1 (fun t2 => K .ret (f12s9 t2)) := by kernel_rfl
noncomputable def f12c22 := codeAt (bodyOf Try.f12) [1,1,1,1,1,1,1,1,1,1,1]
noncomputable def f12p22 : Plan := .mk (some f12l8) none .n .n
theorem f12t22 {ρ : Type} (N : Nat) (w04_2 : List Int) (w04_3 : List (Int × List (List Int × Int))) (g07_2 : List Int) (g07_3 : List (Int × List (List Int × Int))) (w15 : Bool) (g18 : Bool) (k9 : Int) (aM1_0 : Int) (aM1_1 : Int) (aM1_2 : List Int) (w04_0 : Int) (w04_1 : Int) (g07_0 : Int) (g07_1 : Int) (K : KT ρ) : f12i N f12c22 f12p22 (f12s7 w04_2 w04_3 g07_2 g07_3 w15 g18 k9 aM1_0 aM1_1 aM1_2 w04_0 w04_1 g07_0 g07_1) (joinK (some f12lE) K) =
  laws_FnExactInitialSeed.Z22 N w04_2 w04_3 g07_2 g07_3 w15 g18 k9 aM1_0 aM1_1 aM1_2 w04_0 w04_1 g07_0 g07_1 (fun t2 => K .ret (f12s9 t2)) :=
  viaSeq (fun k => laws_FnExactInitialSeed.Z23 N w04_2 w04_3 g07_2 g07_3 w15 g18 k9 aM1_0 aM1_1 aM1_2 w04_0 w04_1 g07_0 g07_1 k (fun t2 => K .ret (f12s9 t2))) (by kernel_rfl) (by kernel_rfl) (f12t23 N w04_2 w04_3 g07_2 g07_3 w15 g18 k9 aM1_0 aM1_1 aM1_2 w04_0 w04_1 g07_0 g07_1 (seqK (fun σ => f12i N f12c24 .n σ (joinK (some f12lE) K)) (joinK (some f12lE) K))) (funext fun w04_2 => funext fun w04_3 => funext fun g07_2 => funext fun g07_3 => funext fun w15 => funext fun aM1_0 => funext fun aM1_1 => funext fun aM1_2 => funext fun w04_0 => funext fun w04_1 => funext fun g07_0 => funext fun g07_1 => f12t24 N w04_2 w04_3 g07_2 g07_3 w15 aM1_0 aM1_1 aM1_2 w04_0 w04_1 g07_0 g07_1 K) (by kernel_rfl) (by kernel_rfl)
noncomputable def f12c20 := codeAt (bodyOf Try.f12) [1,1,1,1,1,1,1,1,1,1]
noncomputable def f12p20 : Plan := .mk (some f12l7) none .n f12p22
theorem f12t20 {ρ : Type} (N : Nat) (w04_2 : List Int) (w04_3 : List (Int × List (List Int × Int))) (x06_2 : List Int) (g07_2 : List Int) (g07_3 : List (Int × List (List Int × Int))) (w15 : Bool) (g18 : Bool) (k9 : Int) (aM1_0 : Int) (aM1_1 : Int) (aM1_2 : List Int) (w04_0 : Int) (w04_1 : Int) (x06_0 : Int) (x06_1 : Int) (g07_0 : Int) (g07_1 : Int) (K : KT ρ) : f12i N f12c20 f12p20 (f12s6 w04_2 w04_3 x06_2 g07_2 g07_3 w15 g18 k9 aM1_0 aM1_1 aM1_2 w04_0 w04_1 x06_0 x06_1 g07_0 g07_1) (joinK (some f12lE) K) =
  laws_FnExactInitialSeed.Z20 N w04_2 w04_3 x06_2 g07_2 g07_3 w15 g18 k9 aM1_0 aM1_1 aM1_2 w04_0 w04_1 x06_0 x06_1 g07_0 g07_1 (fun t2 => K .ret (f12s9 t2)) :=
  viaSeq (fun k => laws_FnExactInitialSeed.Z21 N w04_2 w04_3 x06_2 g07_2 g07_3 w15 g18 k9 aM1_0 aM1_1 aM1_2 w04_0 w04_1 x06_0 x06_1 g07_0 g07_1 k) (by kernel_rfl) (by kernel_rfl) (f12t21 N w04_2 w04_3 x06_2 g07_2 g07_3 w15 g18 k9 aM1_0 aM1_1 aM1_2 w04_0 w04_1 x06_0 x06_1 g07_0 g07_1 (seqK (fun σ => f12i N f12c22 f12p22 σ (joinK (some f12lE) K)) (joinK (some f12lE) K))) (funext fun w04_2 => funext fun w04_3 => funext fun g07_2 => funext fun g07_3 => funext fun w15 => funext fun g18 => funext fun k9 => funext fun aM1_0 => funext fun aM1_1 => funext fun aM1_2 => funext fun w04_0 => funext fun w04_1 => funext fun g07_0 => funext fun g07_1 => f12t22 N w04_2 w04_3 g07_2 g07_3 w15 g18 k9 aM1_0 aM1_1 aM1_2 w04_0 w04_1 g07_0 g07_1 K) (by kernel_rfl) (by kernel_rfl)
noncomputable def f12c18 := codeAt (bodyOf Try.f12) [1,1,1,1,1,1,1,1,1]
noncomputable def f12p18 : Plan := .mk (some f12l6) none .n f12p20
theorem f12t18 {ρ : Type} (N : Nat) (w04_2 : List Int) (w04_3 : List (Int × List (List Int × Int))) (x06_2 : List Int) (g07_2 : List Int) (g07_3 : List (Int × List (List Int × Int))) (w15 : Bool) (g18 : Bool) (aM1_0 : Int) (aM1_1 : Int) (aM1_2 : List Int) (w04_0 : Int) (w04_1 : Int) (x06_0 : Int) (x06_1 : Int) (g07_0 : Int) (g07_1 : Int) (K : KT ρ) : f12i N f12c18 f12p18 (f12s5 w04_2 w04_3 x06_2 g07_2 g07_3 w15 g18 aM1_0 aM1_1 aM1_2 w04_0 w04_1 x06_0 x06_1 g07_0 g07_1) (joinK (some f12lE) K) =
  laws_FnExactInitialSeed.Z18 N w04_2 w04_3 x06_2 g07_2 g07_3 w15 g18 aM1_0 aM1_1 aM1_2 w04_0 w04_1 x06_0 x06_1 g07_0 g07_1 (fun t2 => K .ret (f12s9 t2)) :=
  viaSeq (fun k => laws_FnExactInitialSeed.Z19 N w04_2 w04_3 x06_2 g07_2 g07_3 w15 g18 aM1_0 aM1_1 aM1_2 w04_0 w04_1 x06_0 x06_1 g07_0 g07_1 k) (by kernel_rfl) (by kernel_rfl) (f12t19 N w04_2 w04_3 x06_2 g07_2 g07_3 w15 g18 aM1_0 aM1_1 aM1_2 w04_0 w04_1 x06_0 x06_1 g07_0 g07_1 (seqK (fun σ => f12i N f12c20 f12p20 σ (joinK (some f12lE) K)) (joinK (some f12lE) K))) (funext fun w04_2 => funext fun w04_3 => funext fun x06_2 => funext fun g07_2 => funext fun g07_3 => funext fun w15 => funext fun g18 => funext fun k9 => funext fun aM1_0 => funext fun aM1_1 => funext fun aM1_2 => funext fun w04_0 => funext fun w04_1 => funext fun x06_0 => funext fun x06_1 => funext fun g07_0 => funext fun g07_1 => f12t20 N w04_2 w04_3 x06_2 g07_2 g07_3 w15 g18 k9 aM1_0 aM1_1 aM1_2 w04_0 w04_1 x06_0 x06_1 g07_0 g07_1 K) (by kernel_rfl) (by kernel_rfl)
noncomputable def f12c16 := codeAt (bodyOf Try.f12) [1,1,1,1,1,1,1,1]
noncomputable def f12p16 : Plan := .mk (some f12l5) none .n f12p18
theorem f12t16 {ρ : Type} (N : Nat) (w04_2 : List Int) (w04_3 : List (Int × List (List Int × Int))) (x06_2 : List Int) (g07_2 : List Int) (g07_3 : List (Int × List (List Int × Int))) (w15 : Bool) (g18 : Bool) (aM1_0 : Int) (aM1_1 : Int) (aM1_2 : List Int) (w04_0 : Int) (w04_1 : Int) (x06_0 : Int) (x06_1 : Int) (g07_0 : Int) (g07_1 : Int) (K : KT ρ) : f12i N f12c16 f12p16 (f12s5 w04_2 w04_3 x06_2 g07_2 g07_3 w15 g18 aM1_0 aM1_1 aM1_2 w04_0 w04_1 x06_0 x06_1 g07_0 g07_1) (joinK (some f12lE) K) =
  laws_FnExactInitialSeed.Z16 N w04_2 w04_3 x06_2 g07_2 g07_3 w15 g18 aM1_0 aM1_1 aM1_2 w04_0 w04_1 x06_0 x06_1 g07_0 g07_1 (fun t2 => K .ret (f12s9 t2)) :=
  viaSeq (fun k => laws_FnExactInitialSeed.Z17 N w04_2 w04_3 x06_2 g07_2 g07_3 w15 g18 aM1_0 aM1_1 aM1_2 w04_0 w04_1 x06_0 x06_1 g07_0 g07_1 k (fun t2 => K .ret (f12s9 t2))) (by kernel_rfl) (by kernel_rfl) (f12t17 N w04_2 w04_3 x06_2 g07_2 g07_3 w15 g18 aM1_0 aM1_1 aM1_2 w04_0 w04_1 x06_0 x06_1 g07_0 g07_1 (seqK (fun σ => f12i N f12c18 f12p18 σ (joinK (some f12lE) K)) (joinK (some f12lE) K))) (funext fun w04_2 => funext fun w04_3 => funext fun x06_2 => funext fun g07_2 => funext fun g07_3 => funext fun w15 => funext fun g18 => funext fun aM1_0 => funext fun aM1_1 => funext fun aM1_2 => funext fun w04_0 => funext fun w04_1 => funext fun x06_0 => funext fun x06_1 => funext fun g07_0 => funext fun g07_1 => f12t18 N w04_2 w04_3 x06_2 g07_2 g07_3 w15 g18 aM1_0 aM1_1 aM1_2 w04_0 w04_1 x06_0 x06_1 g07_0 g07_1 K) (by kernel_rfl) (by kernel_rfl)
noncomputable def f12c14 := codeAt (bodyOf Try.f12) [1,1,1,1,1,1,1]
noncomputable def f12p14 : Plan := .mk (some f12l5) none .n f12p16
theorem f12t14 {ρ : Type} (N : Nat) (w04_2 : List Int) (w04_3 : List (Int × List (List Int × Int))) (x06_2 : List Int) (g07_2 : List Int) (g07_3 : List (Int × List (List Int × Int))) (w15 : Bool) (g18 : Bool) (aM1_0 : Int) (aM1_1 : Int) (aM1_2 : List Int) (w04_0 : Int) (w04_1 : Int) (x06_0 : Int) (x06_1 : Int) (g07_0 : Int) (g07_1 : Int) (K : KT ρ) : f12i N f12c14 f12p14 (f12s5 w04_2 w04_3 x06_2 g07_2 g07_3 w15 g18 aM1_0 aM1_1 aM1_2 w04_0 w04_1 x06_0 x06_1 g07_0 g07_1) (joinK (some f12lE) K) =
  laws_FnExactInitialSeed.Z14 N w04_2 w04_3 x06_2 g07_2 g07_3 w15 g18 aM1_0 aM1_1 aM1_2 w04_0 w04_1 x06_0 x06_1 g07_0 g07_1 (fun t2 => K .ret (f12s9 t2)) :=
  viaSeq (fun k => laws_FnExactInitialSeed.Z15 N w04_2 w04_3 x06_2 g07_2 g07_3 w15 g18 aM1_0 aM1_1 aM1_2 w04_0 w04_1 x06_0 x06_1 g07_0 g07_1 k (fun t2 => K .ret (f12s9 t2))) (by kernel_rfl) (by kernel_rfl) (f12t15 N w04_2 w04_3 x06_2 g07_2 g07_3 w15 g18 aM1_0 aM1_1 aM1_2 w04_0 w04_1 x06_0 x06_1 g07_0 g07_1 (seqK (fun σ => f12i N f12c16 f12p16 σ (joinK (some f12lE) K)) (joinK (some f12lE) K))) (funext fun w04_2 => funext fun w04_3 => funext fun x06_2 => funext fun g07_2 => funext fun g07_3 => funext fun w15 => funext fun g18 => funext fun aM1_0 => funext fun aM1_1 => funext fun aM1_2 => funext fun w04_0 => funext fun w04_1 => funext fun x06_0 => funext fun x06_1 => funext fun g07_0 => funext fun g07_1 => f12t16 N w04_2 w04_3 x06_2 g07_2 g07_3 w15 g18 aM1_0 aM1_1 aM1_2 w04_0 w04_1 x06_0 x06_1 g07_0 g07_1 K) (by kernel_rfl) (by kernel_rfl)
noncomputable def f12c12 := codeAt (bodyOf Try.f12) [1,1,1,1,1,1]
noncomputable def f12p12 : Plan := .mk (some f12l5) none .n f12p14
theorem f12t12 {ρ : Type} (N : Nat) (w04_2 : List Int) (w04_3 : List (Int × List (List Int × Int))) (x06_2 : List Int) (w15 : Bool) (aM1_0 : Int) (aM1_1 : Int) (aM1_2 : List Int) (w04_0 : Int) (w04_1 : Int) (x06_0 : Int) (x06_1 : Int) (K : KT ρ) : f12i N f12c12 f12p12 (f12s4 w04_2 w04_3 x06_2 w15 aM1_0 aM1_1 aM1_2 w04_0 w04_1 x06_0 x06_1) (joinK (some f12lE) K) =
  laws_FnExactInitialSeed.Z12 N w04_2 w04_3 x06_2 w15 aM1_0 aM1_1 aM1_2 w04_0 w04_1 x06_0 x06_1 (fun t2 => K .ret (f12s9 t2)) :=
  viaSeq (fun k => laws_FnExactInitialSeed.Z13 N w04_2 w04_3 x06_2 w15 aM1_0 aM1_1 aM1_2 w04_0 w04_1 x06_0 x06_1 k) (by kernel_rfl) (by kernel_rfl) (f12t13 N w04_2 w04_3 x06_2 w15 aM1_0 aM1_1 aM1_2 w04_0 w04_1 x06_0 x06_1 (seqK (fun σ => f12i N f12c14 f12p14 σ (joinK (some f12lE) K)) (joinK (some f12lE) K))) (funext fun w04_2 => funext fun w04_3 => funext fun x06_2 => funext fun g07_2 => funext fun g07_3 => funext fun w15 => funext fun g18 => funext fun aM1_0 => funext fun aM1_1 => funext fun aM1_2 => funext fun w04_0 => funext fun w04_1 => funext fun x06_0 => funext fun x06_1 => funext fun g07_0 => funext fun g07_1 => f12t14 N w04_2 w04_3 x06_2 g07_2 g07_3 w15 g18 aM1_0 aM1_1 aM1_2 w04_0 w04_1 x06_0 x06_1 g07_0 g07_1 K) (by kernel_rfl) (by kernel_rfl)
noncomputable def f12c10 := codeAt (bodyOf Try.f12) [1,1,1,1,1]
noncomputable def f12p10 : Plan := .mk (some f12l4) none .n f12p12
theorem f12t10 {ρ : Type} (N : Nat) (w04_2 : List Int) (w04_3 : List (Int × List (List Int × Int))) (w15 : Bool) (aM1_0 : Int) (aM1_1 : Int) (aM1_2 : List Int) (w04_0 : Int) (w04_1 : Int) (K : KT ρ) : f12i N f12c10 f12p10 (f12s3 w04_2 w04_3 w15 aM1_0 aM1_1 aM1_2 w04_0 w04_1) (joinK (some f12lE) K) =
  laws_FnExactInitialSeed.Z10 N w04_2 w04_3 w15 aM1_0 aM1_1 aM1_2 w04_0 w04_1 (fun t2 => K .ret (f12s9 t2)) :=
  viaSeq (fun k => laws_FnExactInitialSeed.Z11 N w04_2 w04_3 w15 aM1_0 aM1_1 aM1_2 w04_0 w04_1 k) (by kernel_rfl) (by kernel_rfl) (f12t11 N w04_2 w04_3 w15 aM1_0 aM1_1 aM1_2 w04_0 w04_1 (seqK (fun σ => f12i N f12c12 f12p12 σ (joinK (some f12lE) K)) (joinK (some f12lE) K))) (funext fun w04_2 => funext fun w04_3 => funext fun x06_2 => funext fun w15 => funext fun aM1_0 => funext fun aM1_1 => funext fun aM1_2 => funext fun w04_0 => funext fun w04_1 => funext fun x06_0 => funext fun x06_1 => f12t12 N w04_2 w04_3 x06_2 w15 aM1_0 aM1_1 aM1_2 w04_0 w04_1 x06_0 x06_1 K) (by kernel_rfl) (by kernel_rfl)
noncomputable def f12c8 := codeAt (bodyOf Try.f12) [1,1,1,1]
noncomputable def f12p8 : Plan := .mk (some f12l3) none .n f12p10
theorem f12t8 {ρ : Type} (N : Nat) (aM1_0 : Int) (aM1_1 : Int) (aM1_2 : List Int) (K : KT ρ) : f12i N f12c8 f12p8 (f12s1 aM1_0 aM1_1 aM1_2) (joinK (some f12lE) K) =
  laws_FnExactInitialSeed.Z8 N aM1_0 aM1_1 aM1_2 (fun t2 => K .ret (f12s9 t2)) :=
  viaSeq (fun k => laws_FnExactInitialSeed.Z9 N aM1_0 aM1_1 aM1_2 k) (by kernel_rfl) (by kernel_rfl) (f12t9 N aM1_0 aM1_1 aM1_2 (seqK (fun σ => f12i N f12c10 f12p10 σ (joinK (some f12lE) K)) (joinK (some f12lE) K))) (funext fun w04_2 => funext fun w04_3 => funext fun w15 => funext fun aM1_0 => funext fun aM1_1 => funext fun aM1_2 => funext fun w04_0 => funext fun w04_1 => f12t10 N w04_2 w04_3 w15 aM1_0 aM1_1 aM1_2 w04_0 w04_1 K) (by kernel_rfl) (by kernel_rfl)
noncomputable def f12c6 := codeAt (bodyOf Try.f12) [1,1,1]
noncomputable def f12p6 : Plan := .mk (some f12l1) none .n f12p8
theorem f12t6 {ρ : Type} (N : Nat) (left3 : Int) (aM1_0 : Int) (aM1_1 : Int) (aM1_2 : List Int) (K : KT ρ) : f12i N f12c6 f12p6 (f12s2 left3 aM1_0 aM1_1 aM1_2) (joinK (some f12lE) K) =
  laws_FnExactInitialSeed.Z6 N left3 aM1_0 aM1_1 aM1_2 (fun t2 => K .ret (f12s9 t2)) :=
  viaSeq (fun k => laws_FnExactInitialSeed.Z7 N left3 aM1_0 aM1_1 aM1_2 k (fun t2 => K .ret (f12s9 t2))) (by kernel_rfl) (by kernel_rfl) (f12t7 N left3 aM1_0 aM1_1 aM1_2 (seqK (fun σ => f12i N f12c8 f12p8 σ (joinK (some f12lE) K)) (joinK (some f12lE) K))) (funext fun aM1_0 => funext fun aM1_1 => funext fun aM1_2 => f12t8 N aM1_0 aM1_1 aM1_2 K) (by kernel_rfl) (by kernel_rfl)
noncomputable def f12c4 := codeAt (bodyOf Try.f12) [1,1]
noncomputable def f12p4 : Plan := .mk (some f12l2) none .n f12p6
theorem f12t4 {ρ : Type} (N : Nat) (left3 : Int) (aM1_0 : Int) (aM1_1 : Int) (aM1_2 : List Int) (K : KT ρ) : f12i N f12c4 f12p4 (f12s2 left3 aM1_0 aM1_1 aM1_2) (joinK (some f12lE) K) =
  laws_FnExactInitialSeed.Z4 N left3 aM1_0 aM1_1 aM1_2 (fun t2 => K .ret (f12s9 t2)) :=
  viaSeq (fun k => laws_FnExactInitialSeed.Z5 N left3 aM1_0 aM1_1 aM1_2 k) (by kernel_rfl) (by kernel_rfl) (f12t5 N left3 aM1_0 aM1_1 aM1_2 (seqK (fun σ => f12i N f12c6 f12p6 σ (joinK (some f12lE) K)) (joinK (some f12lE) K))) (funext fun left3 => funext fun aM1_0 => funext fun aM1_1 => funext fun aM1_2 => f12t6 N left3 aM1_0 aM1_1 aM1_2 K) (by kernel_rfl) (by kernel_rfl)
noncomputable def f12c2 := codeAt (bodyOf Try.f12) [1]
noncomputable def f12p2 : Plan := .mk (some f12l2) none .n f12p4
theorem f12t2 {ρ : Type} (N : Nat) (aM1_0 : Int) (aM1_1 : Int) (aM1_2 : List Int) (K : KT ρ) : f12i N f12c2 f12p2 (f12s1 aM1_0 aM1_1 aM1_2) (joinK (some f12lE) K) =
  laws_FnExactInitialSeed.Z2 N aM1_0 aM1_1 aM1_2 (fun t2 => K .ret (f12s9 t2)) :=
  viaSeq (fun k => laws_FnExactInitialSeed.Z3 N aM1_0 aM1_1 aM1_2 k) (by kernel_rfl) (by kernel_rfl) (f12t3 N aM1_0 aM1_1 aM1_2 (seqK (fun σ => f12i N f12c4 f12p4 σ (joinK (some f12lE) K)) (joinK (some f12lE) K))) (funext fun left3 => funext fun aM1_0 => funext fun aM1_1 => funext fun aM1_2 => f12t4 N left3 aM1_0 aM1_1 aM1_2 K) (by kernel_rfl) (by kernel_rfl)
noncomputable def f12c0 := codeAt (bodyOf Try.f12) []
noncomputable def f12p0 : Plan := .mk (some f12l1) none .n f12p2
theorem f12t0 {ρ : Type} (N : Nat) (aM0 : Int × Int × List Int) (K : KT ρ) : f12i N f12c0 f12p0 (f12s0 aM0) (joinK (some f12lE) K) =
  laws_FnExactInitialSeed.Z0 N aM0 (fun t2 => K .ret (f12s9 t2)) :=
  viaSeq (fun k => laws_FnExactInitialSeed.Z1 N aM0 k) (by kernel_rfl) (by kernel_rfl) (f12t1 N aM0 (seqK (fun σ => f12i N f12c2 f12p2 σ (joinK (some f12lE) K)) (joinK (some f12lE) K))) (funext fun aM1_0 => funext fun aM1_1 => funext fun aM1_2 => f12t2 N aM1_0 aM1_1 aM1_2 K) (by kernel_rfl) (by kernel_rfl)
theorem f12m (N : Nat) (aM0 : Int × Int × List Int) : f12i N f12c0 f12p0 (f12s0 aM0) (joinK (some f12lE) (finK tab f12sig Try.f12.results.toList)) = laws_FnExactInitialSeed.Z0 N aM0 (fun t2 => some ((), (t2, ()))) :=
  (f12t0 N aM0 (finK tab f12sig Try.f12.results.toList)).trans (by kernel_rfl)
theorem f12ok (h : laws_FnExactInitialSeed.Spec) : EntryOk Try.prog 12 e12 :=
  entry_of_code (sig := f12sig) (c := f12c0) (pl := f12p0) (je := (some f12lE)) (B := f12B) Try.func12 (by kernel_rfl) (by kernel_rfl) (by kernel_rfl) tabOk f12GOk (by kernel_rfl) (by kernel_rfl) (by kernel_rfl) (by kernel_rfl) fun X hb hp => by
    obtain ⟨aM0, _⟩ := X
    obtain ⟨N, h⟩ := h aM0 hb.1
    exact ⟨N, (f12m N aM0).trans (h N (Nat.le_refl N))⟩
theorem e12ok : EntryOk Try.prog 12 e12 := f12ok laws_FnExactInitialSeed.ok
end Go.Fw
