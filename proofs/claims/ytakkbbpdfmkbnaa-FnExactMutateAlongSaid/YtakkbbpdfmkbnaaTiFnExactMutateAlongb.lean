/- The ties: the program's text comes to the plain functions. Nothing is assumed. -/
import Derived.Test.YtakkbbpdfmkbnaaPuFnExactMutateAlonga
import Derived.Test.YtakkbbpdfmkbnaaTiFnExactMutateAlonga
import Derived.Test.YtakkbbpdfmkbnaaPuFnExactMutateAlongb
set_option linter.unusedVariables false
set_option linter.unusedSimpArgs false
set_option maxRecDepth 100000
namespace Go.Fw
open Go.Proofs
/-! ### loop.example/g03115/impl.factors -/
noncomputable def f64sig : Sig := ⟨[⟨.pair (.int .i64) (.pair (.int .i64) (.sl 3 (.int .i64))), true, false⟩], [⟨.sl 3 (.int .i64), false, true⟩]⟩
noncomputable def e64 : Entry := ⟨f64sig, (some fun X => impl_factors.P X.1), fun X => ((), ((impl_factors.g X.1), ()))⟩
noncomputable def f64G : Nat → Option Entry := addG (addG (fun _ => none) 60 e60) 97 e97
theorem f64GOk : GOk Try.prog f64G := ((GOk.nil).add e60ok (by kernel_rfl)).add e97ok (by kernel_rfl)
noncomputable def f64lE : Clean := ⟨[], [], [], [], []⟩
noncomputable def f64s0 (m0 : Int × Int × List Int) : St := initSt f64sig.ps (m0, ())
noncomputable def f64s1 (m1_0 : Int) (m1_1 : Int) (m1_2 : List Int) : St := stOf [(1, .c (.box 1 0))] [(1, (26, [.int .i64 m1_0, .int .i64 m1_1, .sn 3 (.int .i64) m1_2 none]))] []
noncomputable def f64l1 : Clean := ⟨[1], [1], [], [], []⟩
noncomputable def f64s2 (num3 : List Int) (den4 : List Int) (m1_0 : Int) (m1_1 : Int) (m1_2 : List Int) : St := stOf [(1, .c (.box 1 0)), (3, .c (.own 1000192)), (4, .c (.own 1000256))] [(1, (26, [.int .i64 m1_0, .int .i64 m1_1, .sn 3 (.int .i64) m1_2 none]))] [(1000192, (⟨3, .int .i64, num3, true, false⟩ : Row)), (1000256, (⟨3, .int .i64, den4, true, false⟩ : Row))]
noncomputable def f64l2 : Clean := ⟨[1, 3, 4], [1], [], [], [(⟨false, 3, 0⟩, 1000192), (⟨false, 4, 0⟩, 1000256)]⟩
noncomputable def f64s3 (num3 : List Int) (den4 : List Int) (out5 : List Int) (m1_0 : Int) (m1_1 : Int) (m1_2 : List Int) : St := stOf [(1, .c (.box 1 0)), (3, .c (.own 1000192)), (4, .c (.own 1000256)), (5, .c (.own 1000320))] [(1, (26, [.int .i64 m1_0, .int .i64 m1_1, .sn 3 (.int .i64) m1_2 none]))] [(1000192, (⟨3, .int .i64, num3, true, false⟩ : Row)), (1000256, (⟨3, .int .i64, den4, true, false⟩ : Row)), (1000320, (⟨3, .int .i64, out5, true, false⟩ : Row))]
noncomputable def f64l3 : Clean := ⟨[1, 3, 4, 5], [1], [], [], [(⟨false, 3, 0⟩, 1000192), (⟨false, 4, 0⟩, 1000256), (⟨false, 5, 0⟩, 1000320)]⟩
noncomputable def f64s4 (num3 : List Int) (den4 : List Int) (out5 : List Int) (t34 : Int) (t35 : Int) (m1_0 : Int) (m1_1 : Int) (m1_2 : List Int) : St := stOf [(1, .c (.box 1 0)), (3, .c (.own 1000192)), (4, .c (.own 1000256)), (5, .c (.own 1000320)), (34, .c (.int .i64 t34)), (35, .c (.int .i64 t35))] [(1, (26, [.int .i64 m1_0, .int .i64 m1_1, .sn 3 (.int .i64) m1_2 none]))] [(1000192, (⟨3, .int .i64, num3, true, false⟩ : Row)), (1000256, (⟨3, .int .i64, den4, true, false⟩ : Row)), (1000320, (⟨3, .int .i64, out5, true, false⟩ : Row))]
noncomputable def f64l4 : Clean := ⟨[1, 3, 4, 5, 34, 35], [1], [], [], [(⟨false, 3, 0⟩, 1000192), (⟨false, 4, 0⟩, 1000256), (⟨false, 5, 0⟩, 1000320)]⟩
noncomputable def f64s5 (num3 : List Int) (den4 : List Int) (out5 : List Int) (t34 : Int) (t35 : Int) (t36 : Bool) (m1_0 : Int) (m1_1 : Int) (m1_2 : List Int) : St := stOf [(1, .c (.box 1 0)), (3, .c (.own 1000192)), (4, .c (.own 1000256)), (5, .c (.own 1000320)), (34, .c (.int .i64 t34)), (35, .c (.int .i64 t35)), (36, .c (.bool t36))] [(1, (26, [.int .i64 m1_0, .int .i64 m1_1, .sn 3 (.int .i64) m1_2 none]))] [(1000192, (⟨3, .int .i64, num3, true, false⟩ : Row)), (1000256, (⟨3, .int .i64, den4, true, false⟩ : Row)), (1000320, (⟨3, .int .i64, out5, true, false⟩ : Row))]
noncomputable def f64l5 : Clean := ⟨[1, 3, 4, 5, 34, 35, 36], [1], [], [], [(⟨false, 3, 0⟩, 1000192), (⟨false, 4, 0⟩, 1000256), (⟨false, 5, 0⟩, 1000320)]⟩
noncomputable def f64s6 (num3 : List Int) (den4 : List Int) (out5 : List Int) (s6 : Int) (t34 : Int) (t35 : Int) (m1_0 : Int) (m1_1 : Int) (m1_2 : List Int) : St := stOf [(1, .c (.box 1 0)), (3, .c (.own 1000192)), (4, .c (.own 1000256)), (5, .c (.own 1000320)), (6, .c (.int .i64 s6)), (34, .c (.int .i64 t34)), (35, .c (.int .i64 t35))] [(1, (26, [.int .i64 m1_0, .int .i64 m1_1, .sn 3 (.int .i64) m1_2 none]))] [(1000192, (⟨3, .int .i64, num3, true, false⟩ : Row)), (1000256, (⟨3, .int .i64, den4, true, false⟩ : Row)), (1000320, (⟨3, .int .i64, out5, true, false⟩ : Row))]
noncomputable def f64l6 : Clean := ⟨[1, 3, 4, 5, 6, 34, 35], [1], [], [], [(⟨false, 3, 0⟩, 1000192), (⟨false, 4, 0⟩, 1000256), (⟨false, 5, 0⟩, 1000320)]⟩
noncomputable def f64s7 (num3 : List Int) (den4 : List Int) (out5 : List Int) (piece7 : List Int) (t34 : Int) (t35 : Int) (m1_0 : Int) (m1_1 : Int) (m1_2 : List Int) : St := stOf [(1, .c (.box 1 0)), (3, .c (.own 1000192)), (4, .c (.own 1000256)), (5, .c (.own 1000320)), (7, .c (.own 1000448)), (34, .c (.int .i64 t34)), (35, .c (.int .i64 t35))] [(1, (26, [.int .i64 m1_0, .int .i64 m1_1, .sn 3 (.int .i64) m1_2 none]))] [(1000192, (⟨3, .int .i64, num3, true, false⟩ : Row)), (1000256, (⟨3, .int .i64, den4, true, false⟩ : Row)), (1000320, (⟨3, .int .i64, out5, true, false⟩ : Row)), (1000448, (⟨3, .int .i64, piece7, true, false⟩ : Row))]
noncomputable def f64l7 : Clean := ⟨[1, 3, 4, 5, 7, 34, 35], [1], [], [], [(⟨false, 3, 0⟩, 1000192), (⟨false, 4, 0⟩, 1000256), (⟨false, 5, 0⟩, 1000320), (⟨false, 7, 0⟩, 1000448)]⟩
noncomputable def f64s8 (num3 : List Int) (den4 : List Int) (out5 : List Int) (piece7 : List Int) (at8 : Int) (t34 : Int) (t35 : Int) (m1_0 : Int) (m1_1 : Int) (m1_2 : List Int) : St := stOf [(1, .c (.box 1 0)), (3, .c (.own 1000192)), (4, .c (.own 1000256)), (5, .c (.own 1000320)), (7, .c (.own 1000448)), (8, .c (.int .i64 at8)), (34, .c (.int .i64 t34)), (35, .c (.int .i64 t35))] [(1, (26, [.int .i64 m1_0, .int .i64 m1_1, .sn 3 (.int .i64) m1_2 none]))] [(1000192, (⟨3, .int .i64, num3, true, false⟩ : Row)), (1000256, (⟨3, .int .i64, den4, true, false⟩ : Row)), (1000320, (⟨3, .int .i64, out5, true, false⟩ : Row)), (1000448, (⟨3, .int .i64, piece7, true, false⟩ : Row))]
noncomputable def f64l8 : Clean := ⟨[1, 3, 4, 5, 7, 8, 34, 35], [1], [], [], [(⟨false, 3, 0⟩, 1000192), (⟨false, 4, 0⟩, 1000256), (⟨false, 5, 0⟩, 1000320), (⟨false, 7, 0⟩, 1000448)]⟩
noncomputable def f64s9 (num3 : List Int) (den4 : List Int) (out5 : List Int) (piece7 : List Int) (at8 : Int) (i9 : Int) (t34 : Int) (t35 : Int) (m1_0 : Int) (m1_1 : Int) (m1_2 : List Int) : St := stOf [(1, .c (.box 1 0)), (3, .c (.own 1000192)), (4, .c (.own 1000256)), (5, .c (.own 1000320)), (7, .c (.own 1000448)), (8, .c (.int .i64 at8)), (9, .c (.int .i64 i9)), (34, .c (.int .i64 t34)), (35, .c (.int .i64 t35))] [(1, (26, [.int .i64 m1_0, .int .i64 m1_1, .sn 3 (.int .i64) m1_2 none]))] [(1000192, (⟨3, .int .i64, num3, true, false⟩ : Row)), (1000256, (⟨3, .int .i64, den4, true, false⟩ : Row)), (1000320, (⟨3, .int .i64, out5, true, false⟩ : Row)), (1000448, (⟨3, .int .i64, piece7, true, false⟩ : Row))]
noncomputable def f64l9 : Clean := ⟨[1, 3, 4, 5, 7, 8, 9, 34, 35], [1], [], [], [(⟨false, 3, 0⟩, 1000192), (⟨false, 4, 0⟩, 1000256), (⟨false, 5, 0⟩, 1000320), (⟨false, 7, 0⟩, 1000448)]⟩
noncomputable def f64s10 (num3 : List Int) (den4 : List Int) (out5 : List Int) (piece7 : List Int) (at8 : Int) (i9 : Int) (t34 : Int) (t35 : Int) (t62 : Int) (t63 : Int) (m1_0 : Int) (m1_1 : Int) (m1_2 : List Int) : St := stOf [(1, .c (.box 1 0)), (3, .c (.own 1000192)), (4, .c (.own 1000256)), (5, .c (.own 1000320)), (7, .c (.own 1000448)), (8, .c (.int .i64 at8)), (9, .c (.int .i64 i9)), (34, .c (.int .i64 t34)), (35, .c (.int .i64 t35)), (62, .c (.int .i64 t62)), (63, .c (.int .i64 t63))] [(1, (26, [.int .i64 m1_0, .int .i64 m1_1, .sn 3 (.int .i64) m1_2 none]))] [(1000192, (⟨3, .int .i64, num3, true, false⟩ : Row)), (1000256, (⟨3, .int .i64, den4, true, false⟩ : Row)), (1000320, (⟨3, .int .i64, out5, true, false⟩ : Row)), (1000448, (⟨3, .int .i64, piece7, true, false⟩ : Row))]
noncomputable def f64l10 : Clean := ⟨[1, 3, 4, 5, 7, 8, 9, 34, 35, 62, 63], [1], [], [], [(⟨false, 3, 0⟩, 1000192), (⟨false, 4, 0⟩, 1000256), (⟨false, 5, 0⟩, 1000320), (⟨false, 7, 0⟩, 1000448)]⟩
noncomputable def f64s11 (num3 : List Int) (den4 : List Int) (out5 : List Int) (piece7 : List Int) (at8 : Int) (i9 : Int) (t34 : Int) (t35 : Int) (t62 : Int) (t63 : Int) (t64 : Bool) (m1_0 : Int) (m1_1 : Int) (m1_2 : List Int) : St := stOf [(1, .c (.box 1 0)), (3, .c (.own 1000192)), (4, .c (.own 1000256)), (5, .c (.own 1000320)), (7, .c (.own 1000448)), (8, .c (.int .i64 at8)), (9, .c (.int .i64 i9)), (34, .c (.int .i64 t34)), (35, .c (.int .i64 t35)), (62, .c (.int .i64 t62)), (63, .c (.int .i64 t63)), (64, .c (.bool t64))] [(1, (26, [.int .i64 m1_0, .int .i64 m1_1, .sn 3 (.int .i64) m1_2 none]))] [(1000192, (⟨3, .int .i64, num3, true, false⟩ : Row)), (1000256, (⟨3, .int .i64, den4, true, false⟩ : Row)), (1000320, (⟨3, .int .i64, out5, true, false⟩ : Row)), (1000448, (⟨3, .int .i64, piece7, true, false⟩ : Row))]
noncomputable def f64l11 : Clean := ⟨[1, 3, 4, 5, 7, 8, 9, 34, 35, 62, 63, 64], [1], [], [], [(⟨false, 3, 0⟩, 1000192), (⟨false, 4, 0⟩, 1000256), (⟨false, 5, 0⟩, 1000320), (⟨false, 7, 0⟩, 1000448)]⟩
noncomputable def f64s12 (num3 : List Int) (den4 : List Int) (out5 : List Int) (piece7 : List Int) (at8 : Int) (i9 : Int) (j10 : Int) (t34 : Int) (t35 : Int) (t62 : Int) (t63 : Int) (m1_0 : Int) (m1_1 : Int) (m1_2 : List Int) : St := stOf [(1, .c (.box 1 0)), (3, .c (.own 1000192)), (4, .c (.own 1000256)), (5, .c (.own 1000320)), (7, .c (.own 1000448)), (8, .c (.int .i64 at8)), (9, .c (.int .i64 i9)), (10, .c (.int .i64 j10)), (34, .c (.int .i64 t34)), (35, .c (.int .i64 t35)), (62, .c (.int .i64 t62)), (63, .c (.int .i64 t63))] [(1, (26, [.int .i64 m1_0, .int .i64 m1_1, .sn 3 (.int .i64) m1_2 none]))] [(1000192, (⟨3, .int .i64, num3, true, false⟩ : Row)), (1000256, (⟨3, .int .i64, den4, true, false⟩ : Row)), (1000320, (⟨3, .int .i64, out5, true, false⟩ : Row)), (1000448, (⟨3, .int .i64, piece7, true, false⟩ : Row))]
noncomputable def f64l12 : Clean := ⟨[1, 3, 4, 5, 7, 8, 9, 10, 34, 35, 62, 63], [1], [], [], [(⟨false, 3, 0⟩, 1000192), (⟨false, 4, 0⟩, 1000256), (⟨false, 5, 0⟩, 1000320), (⟨false, 7, 0⟩, 1000448)]⟩
noncomputable def f64s13 (num3 : List Int) (den4 : List Int) (out5 : List Int) (piece7 : List Int) (at8 : Int) (i9 : Int) (j10 : Int) (p11 : Int) (q12 : Int) (t34 : Int) (t35 : Int) (t62 : Int) (t63 : Int) (m1_0 : Int) (m1_1 : Int) (m1_2 : List Int) : St := stOf [(1, .c (.box 1 0)), (3, .c (.own 1000192)), (4, .c (.own 1000256)), (5, .c (.own 1000320)), (7, .c (.own 1000448)), (8, .c (.int .i64 at8)), (9, .c (.int .i64 i9)), (10, .c (.int .i64 j10)), (11, .c (.int .i64 p11)), (12, .c (.int .i64 q12)), (34, .c (.int .i64 t34)), (35, .c (.int .i64 t35)), (62, .c (.int .i64 t62)), (63, .c (.int .i64 t63))] [(1, (26, [.int .i64 m1_0, .int .i64 m1_1, .sn 3 (.int .i64) m1_2 none]))] [(1000192, (⟨3, .int .i64, num3, true, false⟩ : Row)), (1000256, (⟨3, .int .i64, den4, true, false⟩ : Row)), (1000320, (⟨3, .int .i64, out5, true, false⟩ : Row)), (1000448, (⟨3, .int .i64, piece7, true, false⟩ : Row))]
noncomputable def f64l13 : Clean := ⟨[1, 3, 4, 5, 7, 8, 9, 10, 11, 12, 34, 35, 62, 63], [1], [], [], [(⟨false, 3, 0⟩, 1000192), (⟨false, 4, 0⟩, 1000256), (⟨false, 5, 0⟩, 1000320), (⟨false, 7, 0⟩, 1000448)]⟩
noncomputable def f64s14 (num3 : List Int) (den4 : List Int) (out5 : List Int) (piece7 : List Int) (common16 : Int) (t34 : Int) (t35 : Int) (m1_0 : Int) (m1_1 : Int) (m1_2 : List Int) : St := stOf [(1, .c (.box 1 0)), (3, .c (.own 1000192)), (4, .c (.own 1000256)), (5, .c (.own 1000320)), (7, .c (.own 1000448)), (16, .c (.int .i64 common16)), (34, .c (.int .i64 t34)), (35, .c (.int .i64 t35))] [(1, (26, [.int .i64 m1_0, .int .i64 m1_1, .sn 3 (.int .i64) m1_2 none]))] [(1000192, (⟨3, .int .i64, num3, true, false⟩ : Row)), (1000256, (⟨3, .int .i64, den4, true, false⟩ : Row)), (1000320, (⟨3, .int .i64, out5, true, false⟩ : Row)), (1000448, (⟨3, .int .i64, piece7, true, false⟩ : Row))]
noncomputable def f64l14 : Clean := ⟨[1, 3, 4, 5, 7, 16, 34, 35], [1], [], [], [(⟨false, 3, 0⟩, 1000192), (⟨false, 4, 0⟩, 1000256), (⟨false, 5, 0⟩, 1000320), (⟨false, 7, 0⟩, 1000448)]⟩
noncomputable def f64s15 (num3 : List Int) (den4 : List Int) (out5 : List Int) (piece7 : List Int) (common16 : Int) (t34 : Int) (t35 : Int) (t159 : Int) (t160 : Int) (m1_0 : Int) (m1_1 : Int) (m1_2 : List Int) : St := stOf [(1, .c (.box 1 0)), (3, .c (.own 1000192)), (4, .c (.own 1000256)), (5, .c (.own 1000320)), (7, .c (.own 1000448)), (16, .c (.int .i64 common16)), (34, .c (.int .i64 t34)), (35, .c (.int .i64 t35)), (158, .c (.own 1000448)), (159, .c (.int .i64 t159)), (160, .c (.int .i64 t160))] [(1, (26, [.int .i64 m1_0, .int .i64 m1_1, .sn 3 (.int .i64) m1_2 none]))] [(1000192, (⟨3, .int .i64, num3, true, false⟩ : Row)), (1000256, (⟨3, .int .i64, den4, true, false⟩ : Row)), (1000320, (⟨3, .int .i64, out5, true, false⟩ : Row)), (1000448, (⟨3, .int .i64, piece7, true, false⟩ : Row))]
noncomputable def f64l15 : Clean := ⟨[1, 3, 4, 5, 7, 16, 34, 35, 158, 159, 160], [1], [], [], [(⟨false, 3, 0⟩, 1000192), (⟨false, 4, 0⟩, 1000256), (⟨false, 5, 0⟩, 1000320), (⟨false, 7, 0⟩, 1000448)]⟩
noncomputable def f64s16 (num3 : List Int) (den4 : List Int) (out5 : List Int) (piece7 : List Int) (common16 : Int) (g19 : Int) (t34 : Int) (t35 : Int) (m1_0 : Int) (m1_1 : Int) (m1_2 : List Int) : St := stOf [(1, .c (.box 1 0)), (3, .c (.own 1000192)), (4, .c (.own 1000256)), (5, .c (.own 1000320)), (7, .c (.own 1000448)), (16, .c (.int .i64 common16)), (19, .c (.int .i64 g19)), (34, .c (.int .i64 t34)), (35, .c (.int .i64 t35))] [(1, (26, [.int .i64 m1_0, .int .i64 m1_1, .sn 3 (.int .i64) m1_2 none]))] [(1000192, (⟨3, .int .i64, num3, true, false⟩ : Row)), (1000256, (⟨3, .int .i64, den4, true, false⟩ : Row)), (1000320, (⟨3, .int .i64, out5, true, false⟩ : Row)), (1000448, (⟨3, .int .i64, piece7, true, false⟩ : Row))]
noncomputable def f64l16 : Clean := ⟨[1, 3, 4, 5, 7, 16, 19, 34, 35], [1], [], [], [(⟨false, 3, 0⟩, 1000192), (⟨false, 4, 0⟩, 1000256), (⟨false, 5, 0⟩, 1000320), (⟨false, 7, 0⟩, 1000448)]⟩
noncomputable def f64s17 (num3 : List Int) (den4 : List Int) (out5 : List Int) (piece7 : List Int) (common16 : Int) (g19 : Int) (t34 : Int) (t35 : Int) (t179 : Int) (t180 : Int) (m1_0 : Int) (m1_1 : Int) (m1_2 : List Int) : St := stOf [(1, .c (.box 1 0)), (3, .c (.own 1000192)), (4, .c (.own 1000256)), (5, .c (.own 1000320)), (7, .c (.own 1000448)), (16, .c (.int .i64 common16)), (19, .c (.int .i64 g19)), (34, .c (.int .i64 t34)), (35, .c (.int .i64 t35)), (178, .c (.own 1000448)), (179, .c (.int .i64 t179)), (180, .c (.int .i64 t180))] [(1, (26, [.int .i64 m1_0, .int .i64 m1_1, .sn 3 (.int .i64) m1_2 none]))] [(1000192, (⟨3, .int .i64, num3, true, false⟩ : Row)), (1000256, (⟨3, .int .i64, den4, true, false⟩ : Row)), (1000320, (⟨3, .int .i64, out5, true, false⟩ : Row)), (1000448, (⟨3, .int .i64, piece7, true, false⟩ : Row))]
noncomputable def f64l17 : Clean := ⟨[1, 3, 4, 5, 7, 16, 19, 34, 35, 178, 179, 180], [1], [], [], [(⟨false, 3, 0⟩, 1000192), (⟨false, 4, 0⟩, 1000256), (⟨false, 5, 0⟩, 1000320), (⟨false, 7, 0⟩, 1000448)]⟩
noncomputable def f64s18 (num3 : List Int) (den4 : List Int) (out5 : List Int) (piece7 : List Int) (g19 : Int) (t34 : Int) (t35 : Int) (m1_0 : Int) (m1_1 : Int) (m1_2 : List Int) : St := stOf [(1, .c (.box 1 0)), (3, .c (.own 1000192)), (4, .c (.own 1000256)), (5, .c (.own 1000320)), (7, .c (.own 1000448)), (19, .c (.int .i64 g19)), (34, .c (.int .i64 t34)), (35, .c (.int .i64 t35))] [(1, (26, [.int .i64 m1_0, .int .i64 m1_1, .sn 3 (.int .i64) m1_2 none]))] [(1000192, (⟨3, .int .i64, num3, true, false⟩ : Row)), (1000256, (⟨3, .int .i64, den4, true, false⟩ : Row)), (1000320, (⟨3, .int .i64, out5, true, false⟩ : Row)), (1000448, (⟨3, .int .i64, piece7, true, false⟩ : Row))]
noncomputable def f64l18 : Clean := ⟨[1, 3, 4, 5, 7, 19, 34, 35], [1], [], [], [(⟨false, 3, 0⟩, 1000192), (⟨false, 4, 0⟩, 1000256), (⟨false, 5, 0⟩, 1000320), (⟨false, 7, 0⟩, 1000448)]⟩
noncomputable def f64s19 (num3 : List Int) (den4 : List Int) (out5 : List Int) (t205 : List Int) (g19 : Int) (t34 : Int) (t35 : Int) (t206 : Int) (t207 : Int) (m1_0 : Int) (m1_1 : Int) (m1_2 : List Int) : St := stOf [(1, .c (.box 1 0)), (3, .c (.own 1000192)), (4, .c (.own 1000256)), (5, .c (.own 1000320)), (19, .c (.int .i64 g19)), (34, .c (.int .i64 t34)), (35, .c (.int .i64 t35)), (205, .c (.own 1013120)), (206, .c (.int .i64 t206)), (207, .c (.int .i64 t207))] [(1, (26, [.int .i64 m1_0, .int .i64 m1_1, .sn 3 (.int .i64) m1_2 none]))] [(1000192, (⟨3, .int .i64, num3, true, false⟩ : Row)), (1000256, (⟨3, .int .i64, den4, true, false⟩ : Row)), (1000320, (⟨3, .int .i64, out5, true, false⟩ : Row)), (1013120, (⟨3, .int .i64, t205, true, false⟩ : Row))]
noncomputable def f64l19 : Clean := ⟨[1, 3, 4, 5, 19, 34, 35, 205, 206, 207], [1], [], [], [(⟨false, 3, 0⟩, 1000192), (⟨false, 4, 0⟩, 1000256), (⟨false, 5, 0⟩, 1000320), (⟨false, 205, 0⟩, 1013120)]⟩
noncomputable def f64s20 (out5 : List Int) : St := stOf [(5, .c (.own 1000320))] [] [(1000320, (⟨3, .int .i64, out5, true, false⟩ : Row))]
noncomputable def f64l20 : Clean := ⟨[5], [], [], [], [(⟨false, 5, 0⟩, 1000320)]⟩
noncomputable def f64s21 (t2 : List Int) : St := stOf [(2, .c (.own 1001000128))] [] [(1001000128, (⟨3, .int .i64, t2, true, true⟩ : Row))]
noncomputable def f64l21 : Clean := ⟨[2], [], [⟨⟨false, 2, 0⟩, 30000000, 3, .int .i64, true⟩], [], [(⟨false, 2, 0⟩, 1001000128)]⟩
noncomputable def f64B : Nat → Option Clean := lookL [(5, f64l10), (4, f64l8), (3, f64l8), (2, f64l7), (6, f64l14), (8, f64l18), (10, f64l4), (1, f64l4), (0, f64l20), (1000000, f64l21)]
noncomputable abbrev f64i {ρ : Type} (N : Nat) (c : Code) (p : Plan) (σ : St) (K : KT ρ) : Option ρ := iCode f64G tab f64B N c p σ K
noncomputable def f64c1 := codeAt (bodyOf Try.f64) [0]
theorem f64t1 {ρ : Type} (N : Nat) (m0 : Int × Int × List Int) (K : KT ρ) : f64i N f64c1 .n (f64s0 m0) (joinK (some f64l1) K) =
  impl_factors.Z1 N m0 (fun m1_0 m1_1 m1_2 => K .nrm (f64s1 m1_0 m1_1 m1_2)) := by kernel_rfl
noncomputable def f64c3 := codeAt (bodyOf Try.f64) [1,0]
theorem f64t3 {ρ : Type} (N : Nat) (m1_0 : Int) (m1_1 : Int) (m1_2 : List Int) (K : KT ρ) : f64i N f64c3 .n (f64s1 m1_0 m1_1 m1_2) (joinK (some f64l2) K) =
  impl_factors.Z3 N m1_0 m1_1 m1_2 (fun num3 den4 m1_0 m1_1 m1_2 => K .nrm (f64s2 num3 den4 m1_0 m1_1 m1_2)) := by kernel_rfl
noncomputable def f64c5 := codeAt (bodyOf Try.f64) [1,1,0]
theorem f64t5 {ρ : Type} (N : Nat) (num3 : List Int) (den4 : List Int) (m1_0 : Int) (m1_1 : Int) (m1_2 : List Int) (K : KT ρ) : f64i N f64c5 .n (f64s2 num3 den4 m1_0 m1_1 m1_2) (joinK (some f64l3) K) =
  impl_factors.Z5 N num3 den4 m1_0 m1_1 m1_2 (fun num3 den4 out5 m1_0 m1_1 m1_2 => K .nrm (f64s3 num3 den4 out5 m1_0 m1_1 m1_2)) := by kernel_rfl
noncomputable def f64c8 := codeAt (bodyOf Try.f64) [1,1,1,0,0]
theorem f64t8 {ρ : Type} (N : Nat) (num3 : List Int) (den4 : List Int) (out5 : List Int) (m1_0 : Int) (m1_1 : Int) (m1_2 : List Int) (K : KT ρ) : f64i N f64c8 .n (f64s3 num3 den4 out5 m1_0 m1_1 m1_2) (joinK (some f64l4) K) =
  impl_factors.Z8 N num3 den4 out5 m1_0 m1_1 m1_2 (fun num3 den4 out5 t34 t35 m1_0 m1_1 m1_2 => K .nrm (f64s4 num3 den4 out5 t34 t35 m1_0 m1_1 m1_2)) := by kernel_rfl
noncomputable def f64c12 := codeAt (bodyOf Try.f64) [1,1,1,0,1,0,0,0]
theorem f64t12 {ρ : Type} (N : Nat) (num3 : List Int) (den4 : List Int) (out5 : List Int) (t34 : Int) (t35 : Int) (m1_0 : Int) (m1_1 : Int) (m1_2 : List Int) (K : KT ρ) : f64i N f64c12 .n (f64s4 num3 den4 out5 t34 t35 m1_0 m1_1 m1_2) (joinK (some f64l5) K) =
  impl_factors.Z12 N num3 den4 out5 t34 t35 m1_0 m1_1 m1_2 (fun num3 den4 out5 t34 t35 t36 m1_0 m1_1 m1_2 => K .nrm (f64s5 num3 den4 out5 t34 t35 t36 m1_0 m1_1 m1_2)) := by kernel_rfl
noncomputable def f64c14 := codeAt (bodyOf Try.f64) [1,1,1,0,1,0,0,1,0]
theorem f64t14 {ρ : Type} (N : Nat) (num3 : List Int) (den4 : List Int) (out5 : List Int) (t34 : Int) (t35 : Int) (t36 : Bool) (m1_0 : Int) (m1_1 : Int) (m1_2 : List Int) (K : KT ρ) : f64i N f64c14 .n (f64s5 num3 den4 out5 t34 t35 t36 m1_0 m1_1 m1_2) (joinK (some f64l4) K) =
  impl_factors.Z14 N num3 den4 out5 t34 t35 t36 m1_0 m1_1 m1_2 (fun num3 den4 out5 t34 t35 m1_0 m1_1 m1_2 => K .nrm (f64s4 num3 den4 out5 t34 t35 m1_0 m1_1 m1_2)) (fun out5 => K (.exit 0) (f64s20 out5)) := by kernel_rfl
noncomputable def f64c18 := codeAt (bodyOf Try.f64) [1,1,1,0,1,0,0,1,1,0,0,0]
theorem f64t18 {ρ : Type} (N : Nat) (num3 : List Int) (den4 : List Int) (out5 : List Int) (t34 : Int) (t35 : Int) (m1_0 : Int) (m1_1 : Int) (m1_2 : List Int) (K : KT ρ) : f64i N f64c18 .n (f64s4 num3 den4 out5 t34 t35 m1_0 m1_1 m1_2) (joinK (some f64l6) K) =
  impl_factors.Z18 N num3 den4 out5 t34 t35 m1_0 m1_1 m1_2 (fun num3 den4 out5 s6 t34 t35 m1_0 m1_1 m1_2 => K .nrm (f64s6 num3 den4 out5 s6 t34 t35 m1_0 m1_1 m1_2)) := by kernel_rfl
noncomputable def f64c20 := codeAt (bodyOf Try.f64) [1,1,1,0,1,0,0,1,1,0,0,1,0]
theorem f64t20 {ρ : Type} (N : Nat) (num3 : List Int) (den4 : List Int) (out5 : List Int) (s6 : Int) (t34 : Int) (t35 : Int) (m1_0 : Int) (m1_1 : Int) (m1_2 : List Int) (K : KT ρ) : f64i N f64c20 .n (f64s6 num3 den4 out5 s6 t34 t35 m1_0 m1_1 m1_2) (joinK (some f64l6) K) =
  impl_factors.Z20 N num3 den4 out5 s6 t34 t35 m1_0 m1_1 m1_2 (fun num3 den4 out5 s6 t34 t35 m1_0 m1_1 m1_2 => K .nrm (f64s6 num3 den4 out5 s6 t34 t35 m1_0 m1_1 m1_2)) (fun num3 den4 out5 t34 t35 m1_0 m1_1 m1_2 => K (.exit 1) (f64s4 num3 den4 out5 t34 t35 m1_0 m1_1 m1_2)) := by kernel_rfl
noncomputable def f64c22 := codeAt (bodyOf Try.f64) [1,1,1,0,1,0,0,1,1,0,0,1,1,0]
theorem f64t22 {ρ : Type} (N : Nat) (num3 : List Int) (den4 : List Int) (out5 : List Int) (s6 : Int) (t34 : Int) (t35 : Int) (m1_0 : Int) (m1_1 : Int) (m1_2 : List Int) (K : KT ρ) : f64i N f64c22 .n (f64s6 num3 den4 out5 s6 t34 t35 m1_0 m1_1 m1_2) (joinK (some f64l6) K) =
  impl_factors.Z22 N num3 den4 out5 s6 t34 t35 m1_0 m1_1 m1_2 (fun num3 den4 out5 s6 t34 t35 m1_0 m1_1 m1_2 => K .nrm (f64s6 num3 den4 out5 s6 t34 t35 m1_0 m1_1 m1_2)) := by kernel_rfl
noncomputable def f64c24 := codeAt (bodyOf Try.f64) [1,1,1,0,1,0,0,1,1,0,0,1,1,1,0]
theorem f64t24 {ρ : Type} (N : Nat) (num3 : List Int) (den4 : List Int) (out5 : List Int) (s6 : Int) (t34 : Int) (t35 : Int) (m1_0 : Int) (m1_1 : Int) (m1_2 : List Int) (K : KT ρ) : f64i N f64c24 .n (f64s6 num3 den4 out5 s6 t34 t35 m1_0 m1_1 m1_2) (joinK (some f64l7) K) =
  impl_factors.Z24 N num3 den4 out5 s6 t34 t35 m1_0 m1_1 m1_2 (fun num3 den4 out5 piece7 t34 t35 m1_0 m1_1 m1_2 => K .nrm (f64s7 num3 den4 out5 piece7 t34 t35 m1_0 m1_1 m1_2)) := by kernel_rfl
noncomputable def f64c27 := codeAt (bodyOf Try.f64) [1,1,1,0,1,0,0,1,1,0,0,1,1,1,1,0,0]
theorem f64t27 {ρ : Type} (N : Nat) (num3 : List Int) (den4 : List Int) (out5 : List Int) (piece7 : List Int) (t34 : Int) (t35 : Int) (m1_0 : Int) (m1_1 : Int) (m1_2 : List Int) (K : KT ρ) : f64i N f64c27 .n (f64s7 num3 den4 out5 piece7 t34 t35 m1_0 m1_1 m1_2) (joinK (some f64l8) K) =
  impl_factors.Z27 N num3 den4 out5 piece7 t34 t35 m1_0 m1_1 m1_2 (fun num3 den4 out5 piece7 at8 t34 t35 m1_0 m1_1 m1_2 => K .nrm (f64s8 num3 den4 out5 piece7 at8 t34 t35 m1_0 m1_1 m1_2)) := by kernel_rfl
noncomputable def f64c31 := codeAt (bodyOf Try.f64) [1,1,1,0,1,0,0,1,1,0,0,1,1,1,1,0,1,0,0,0]
theorem f64t31 {ρ : Type} (N : Nat) (num3 : List Int) (den4 : List Int) (out5 : List Int) (piece7 : List Int) (at8 : Int) (t34 : Int) (t35 : Int) (m1_0 : Int) (m1_1 : Int) (m1_2 : List Int) (K : KT ρ) : f64i N f64c31 .n (f64s8 num3 den4 out5 piece7 at8 t34 t35 m1_0 m1_1 m1_2) (joinK (some f64l8) K) =
  impl_factors.Z31 N num3 den4 out5 piece7 at8 t34 t35 m1_0 m1_1 m1_2 (fun num3 den4 out5 piece7 at8 t34 t35 m1_0 m1_1 m1_2 => K .nrm (f64s8 num3 den4 out5 piece7 at8 t34 t35 m1_0 m1_1 m1_2)) (fun num3 den4 out5 piece7 t34 t35 m1_0 m1_1 m1_2 => K (.exit 2) (f64s7 num3 den4 out5 piece7 t34 t35 m1_0 m1_1 m1_2)) := by kernel_rfl
noncomputable def f64c35 := codeAt (bodyOf Try.f64) [1,1,1,0,1,0,0,1,1,0,0,1,1,1,1,0,1,0,0,1,0,0,0]
theorem f64t35 {ρ : Type} (N : Nat) (num3 : List Int) (den4 : List Int) (out5 : List Int) (piece7 : List Int) (at8 : Int) (t34 : Int) (t35 : Int) (m1_0 : Int) (m1_1 : Int) (m1_2 : List Int) (K : KT ρ) : f64i N f64c35 .n (f64s8 num3 den4 out5 piece7 at8 t34 t35 m1_0 m1_1 m1_2) (joinK (some f64l9) K) =
  impl_factors.Z35 N num3 den4 out5 piece7 at8 t34 t35 m1_0 m1_1 m1_2 (fun num3 den4 out5 piece7 at8 i9 t34 t35 m1_0 m1_1 m1_2 => K .nrm (f64s9 num3 den4 out5 piece7 at8 i9 t34 t35 m1_0 m1_1 m1_2)) := by kernel_rfl
noncomputable def f64c37 := codeAt (bodyOf Try.f64) [1,1,1,0,1,0,0,1,1,0,0,1,1,1,1,0,1,0,0,1,0,0,1,0]
theorem f64t37 {ρ : Type} (N : Nat) (num3 : List Int) (den4 : List Int) (out5 : List Int) (piece7 : List Int) (at8 : Int) (i9 : Int) (t34 : Int) (t35 : Int) (m1_0 : Int) (m1_1 : Int) (m1_2 : List Int) (K : KT ρ) : f64i N f64c37 .n (f64s9 num3 den4 out5 piece7 at8 i9 t34 t35 m1_0 m1_1 m1_2) (joinK (some f64l10) K) =
  impl_factors.Z37 N num3 den4 out5 piece7 at8 i9 t34 t35 m1_0 m1_1 m1_2 (fun num3 den4 out5 piece7 at8 i9 t34 t35 t62 t63 m1_0 m1_1 m1_2 => K .nrm (f64s10 num3 den4 out5 piece7 at8 i9 t34 t35 t62 t63 m1_0 m1_1 m1_2)) := by kernel_rfl
noncomputable def f64c41 := codeAt (bodyOf Try.f64) [1,1,1,0,1,0,0,1,1,0,0,1,1,1,1,0,1,0,0,1,0,0,1,1,0,0,0]
theorem f64t41 {ρ : Type} (N : Nat) (num3 : List Int) (den4 : List Int) (out5 : List Int) (piece7 : List Int) (at8 : Int) (i9 : Int) (t34 : Int) (t35 : Int) (t62 : Int) (t63 : Int) (m1_0 : Int) (m1_1 : Int) (m1_2 : List Int) (K : KT ρ) : f64i N f64c41 .n (f64s10 num3 den4 out5 piece7 at8 i9 t34 t35 t62 t63 m1_0 m1_1 m1_2) (joinK (some f64l11) K) =
  impl_factors.Z41 N num3 den4 out5 piece7 at8 i9 t34 t35 t62 t63 m1_0 m1_1 m1_2 (fun num3 den4 out5 piece7 at8 i9 t34 t35 t62 t63 t64 m1_0 m1_1 m1_2 => K .nrm (f64s11 num3 den4 out5 piece7 at8 i9 t34 t35 t62 t63 t64 m1_0 m1_1 m1_2)) := by kernel_rfl
noncomputable def f64c43 := codeAt (bodyOf Try.f64) [1,1,1,0,1,0,0,1,1,0,0,1,1,1,1,0,1,0,0,1,0,0,1,1,0,0,1,0]
theorem f64t43 {ρ : Type} (N : Nat) (num3 : List Int) (den4 : List Int) (out5 : List Int) (piece7 : List Int) (at8 : Int) (i9 : Int) (t34 : Int) (t35 : Int) (t62 : Int) (t63 : Int) (t64 : Bool) (m1_0 : Int) (m1_1 : Int) (m1_2 : List Int) (K : KT ρ) : f64i N f64c43 .n (f64s11 num3 den4 out5 piece7 at8 i9 t34 t35 t62 t63 t64 m1_0 m1_1 m1_2) (joinK (some f64l10) K) =
  impl_factors.Z43 N num3 den4 out5 piece7 at8 i9 t34 t35 t62 t63 t64 m1_0 m1_1 m1_2 (fun num3 den4 out5 piece7 at8 i9 t34 t35 t62 t63 m1_0 m1_1 m1_2 => K .nrm (f64s10 num3 den4 out5 piece7 at8 i9 t34 t35 t62 t63 m1_0 m1_1 m1_2)) (fun num3 den4 out5 piece7 at8 t34 t35 m1_0 m1_1 m1_2 => K (.exit 4) (f64s8 num3 den4 out5 piece7 at8 t34 t35 m1_0 m1_1 m1_2)) := by kernel_rfl
noncomputable def f64c47 := codeAt (bodyOf Try.f64) [1,1,1,0,1,0,0,1,1,0,0,1,1,1,1,0,1,0,0,1,0,0,1,1,0,0,1,1,0,0,0]
theorem f64t47 {ρ : Type} (N : Nat) (num3 : List Int) (den4 : List Int) (out5 : List Int) (piece7 : List Int) (at8 : Int) (i9 : Int) (t34 : Int) (t35 : Int) (t62 : Int) (t63 : Int) (m1_0 : Int) (m1_1 : Int) (m1_2 : List Int) (K : KT ρ) : f64i N f64c47 .n (f64s10 num3 den4 out5 piece7 at8 i9 t34 t35 t62 t63 m1_0 m1_1 m1_2) (joinK (some f64l12) K) =
  impl_factors.Z47 N num3 den4 out5 piece7 at8 i9 t34 t35 t62 t63 m1_0 m1_1 m1_2 (fun num3 den4 out5 piece7 at8 i9 j10 t34 t35 t62 t63 m1_0 m1_1 m1_2 => K .nrm (f64s12 num3 den4 out5 piece7 at8 i9 j10 t34 t35 t62 t63 m1_0 m1_1 m1_2)) := by kernel_rfl
noncomputable def f64c49 := codeAt (bodyOf Try.f64) [1,1,1,0,1,0,0,1,1,0,0,1,1,1,1,0,1,0,0,1,0,0,1,1,0,0,1,1,0,0,1,0]
theorem f64t49 {ρ : Type} (N : Nat) (num3 : List Int) (den4 : List Int) (out5 : List Int) (piece7 : List Int) (at8 : Int) (i9 : Int) (j10 : Int) (t34 : Int) (t35 : Int) (t62 : Int) (t63 : Int) (m1_0 : Int) (m1_1 : Int) (m1_2 : List Int) (K : KT ρ) : f64i N f64c49 .n (f64s12 num3 den4 out5 piece7 at8 i9 j10 t34 t35 t62 t63 m1_0 m1_1 m1_2) (joinK (some f64l13) K) =
  impl_factors.Z49 N num3 den4 out5 piece7 at8 i9 j10 t34 t35 t62 t63 m1_0 m1_1 m1_2 (fun num3 den4 out5 piece7 at8 i9 j10 p11 q12 t34 t35 t62 t63 m1_0 m1_1 m1_2 => K .nrm (f64s13 num3 den4 out5 piece7 at8 i9 j10 p11 q12 t34 t35 t62 t63 m1_0 m1_1 m1_2)) := by kernel_rfl
noncomputable def f64c51 := codeAt (bodyOf Try.f64) [1,1,1,0,1,0,0,1,1,0,0,1,1,1,1,0,1,0,0,1,0,0,1,1,0,0,1,1,0,0,1,1,0]
theorem f64t51 {ρ : Type} (N : Nat) (num3 : List Int) (den4 : List Int) (out5 : List Int) (piece7 : List Int) (at8 : Int) (i9 : Int) (j10 : Int) (p11 : Int) (q12 : Int) (t34 : Int) (t35 : Int) (t62 : Int) (t63 : Int) (m1_0 : Int) (m1_1 : Int) (m1_2 : List Int) (K : KT ρ) : f64i N f64c51 .n (f64s13 num3 den4 out5 piece7 at8 i9 j10 p11 q12 t34 t35 t62 t63 m1_0 m1_1 m1_2) (joinK (some f64l13) K) =
  impl_factors.Z51 N num3 den4 out5 piece7 at8 i9 j10 p11 q12 t34 t35 t62 t63 m1_0 m1_1 m1_2 (fun num3 den4 out5 piece7 at8 i9 j10 p11 q12 t34 t35 t62 t63 m1_0 m1_1 m1_2 => K .nrm (f64s13 num3 den4 out5 piece7 at8 i9 j10 p11 q12 t34 t35 t62 t63 m1_0 m1_1 m1_2)) (fun num3 den4 out5 piece7 at8 i9 t34 t35 t62 t63 m1_0 m1_1 m1_2 => K (.exit 5) (f64s10 num3 den4 out5 piece7 at8 i9 t34 t35 t62 t63 m1_0 m1_1 m1_2)) := by kernel_rfl
noncomputable def f64c52 := codeAt (bodyOf Try.f64) [1,1,1,0,1,0,0,1,1,0,0,1,1,1,1,0,1,0,0,1,0,0,1,1,0,0,1,1,0,0,1,1,1]
theorem f64t52 {ρ : Type} (N : Nat) (num3 : List Int) (den4 : List Int) (out5 : List Int) (piece7 : List Int) (at8 : Int) (i9 : Int) (j10 : Int) (p11 : Int) (q12 : Int) (t34 : Int) (t35 : Int) (t62 : Int) (t63 : Int) (m1_0 : Int) (m1_1 : Int) (m1_2 : List Int) (K : KT ρ) : f64i N f64c52 .n (f64s13 num3 den4 out5 piece7 at8 i9 j10 p11 q12 t34 t35 t62 t63 m1_0 m1_1 m1_2) (joinK (some f64l10) K) =
  impl_factors.Z52 N num3 den4 out5 piece7 at8 i9 j10 p11 q12 t34 t35 t62 t63 m1_0 m1_1 m1_2 (fun num3 den4 out5 piece7 at8 i9 t34 t35 t62 t63 m1_0 m1_1 m1_2 => K .nrm (f64s10 num3 den4 out5 piece7 at8 i9 t34 t35 t62 t63 m1_0 m1_1 m1_2)) (fun t2 => K .ret (f64s21 t2)) := by kernel_rfl
noncomputable def f64c50 := codeAt (bodyOf Try.f64) [1,1,1,0,1,0,0,1,1,0,0,1,1,1,1,0,1,0,0,1,0,0,1,1,0,0,1,1,0,0,1,1]
noncomputable def f64p50 : Plan := .mk (some f64l13) none .n .n
theorem f64t50 {ρ : Type} (N : Nat) (num3 : List Int) (den4 : List Int) (out5 : List Int) (piece7 : List Int) (at8 : Int) (i9 : Int) (j10 : Int) (p11 : Int) (q12 : Int) (t34 : Int) (t35 : Int) (t62 : Int) (t63 : Int) (m1_0 : Int) (m1_1 : Int) (m1_2 : List Int) (K : KT ρ) : f64i N f64c50 f64p50 (f64s13 num3 den4 out5 piece7 at8 i9 j10 p11 q12 t34 t35 t62 t63 m1_0 m1_1 m1_2) (joinK (some f64l10) K) =
  impl_factors.Z50 N num3 den4 out5 piece7 at8 i9 j10 p11 q12 t34 t35 t62 t63 m1_0 m1_1 m1_2 (fun num3 den4 out5 piece7 at8 i9 t34 t35 t62 t63 m1_0 m1_1 m1_2 => K .nrm (f64s10 num3 den4 out5 piece7 at8 i9 t34 t35 t62 t63 m1_0 m1_1 m1_2)) (fun num3 den4 out5 piece7 at8 i9 t34 t35 t62 t63 m1_0 m1_1 m1_2 => K (.exit 5) (f64s10 num3 den4 out5 piece7 at8 i9 t34 t35 t62 t63 m1_0 m1_1 m1_2)) (fun t2 => K .ret (f64s21 t2)) :=
  viaSeq (fun k => impl_factors.Z51 N num3 den4 out5 piece7 at8 i9 j10 p11 q12 t34 t35 t62 t63 m1_0 m1_1 m1_2 k (fun num3 den4 out5 piece7 at8 i9 t34 t35 t62 t63 m1_0 m1_1 m1_2 => K (.exit 5) (f64s10 num3 den4 out5 piece7 at8 i9 t34 t35 t62 t63 m1_0 m1_1 m1_2))) (by kernel_rfl) (by kernel_rfl) (f64t51 N num3 den4 out5 piece7 at8 i9 j10 p11 q12 t34 t35 t62 t63 m1_0 m1_1 m1_2 (seqK (fun σ => f64i N f64c52 .n σ (joinK (some f64l10) K)) (joinK (some f64l10) K))) (funext fun num3 => funext fun den4 => funext fun out5 => funext fun piece7 => funext fun at8 => funext fun i9 => funext fun j10 => funext fun p11 => funext fun q12 => funext fun t34 => funext fun t35 => funext fun t62 => funext fun t63 => funext fun m1_0 => funext fun m1_1 => funext fun m1_2 => f64t52 N num3 den4 out5 piece7 at8 i9 j10 p11 q12 t34 t35 t62 t63 m1_0 m1_1 m1_2 K) (by kernel_rfl) (by kernel_rfl)
noncomputable def f64c48 := codeAt (bodyOf Try.f64) [1,1,1,0,1,0,0,1,1,0,0,1,1,1,1,0,1,0,0,1,0,0,1,1,0,0,1,1,0,0,1]
noncomputable def f64p48 : Plan := .mk (some f64l13) none .n f64p50
theorem f64t48 {ρ : Type} (N : Nat) (num3 : List Int) (den4 : List Int) (out5 : List Int) (piece7 : List Int) (at8 : Int) (i9 : Int) (j10 : Int) (t34 : Int) (t35 : Int) (t62 : Int) (t63 : Int) (m1_0 : Int) (m1_1 : Int) (m1_2 : List Int) (K : KT ρ) : f64i N f64c48 f64p48 (f64s12 num3 den4 out5 piece7 at8 i9 j10 t34 t35 t62 t63 m1_0 m1_1 m1_2) (joinK (some f64l10) K) =
  impl_factors.Z48 N num3 den4 out5 piece7 at8 i9 j10 t34 t35 t62 t63 m1_0 m1_1 m1_2 (fun num3 den4 out5 piece7 at8 i9 t34 t35 t62 t63 m1_0 m1_1 m1_2 => K .nrm (f64s10 num3 den4 out5 piece7 at8 i9 t34 t35 t62 t63 m1_0 m1_1 m1_2)) (fun num3 den4 out5 piece7 at8 i9 t34 t35 t62 t63 m1_0 m1_1 m1_2 => K (.exit 5) (f64s10 num3 den4 out5 piece7 at8 i9 t34 t35 t62 t63 m1_0 m1_1 m1_2)) (fun t2 => K .ret (f64s21 t2)) :=
  viaSeq (fun k => impl_factors.Z49 N num3 den4 out5 piece7 at8 i9 j10 t34 t35 t62 t63 m1_0 m1_1 m1_2 k) (by kernel_rfl) (by kernel_rfl) (f64t49 N num3 den4 out5 piece7 at8 i9 j10 t34 t35 t62 t63 m1_0 m1_1 m1_2 (seqK (fun σ => f64i N f64c50 f64p50 σ (joinK (some f64l10) K)) (joinK (some f64l10) K))) (funext fun num3 => funext fun den4 => funext fun out5 => funext fun piece7 => funext fun at8 => funext fun i9 => funext fun j10 => funext fun p11 => funext fun q12 => funext fun t34 => funext fun t35 => funext fun t62 => funext fun t63 => funext fun m1_0 => funext fun m1_1 => funext fun m1_2 => f64t50 N num3 den4 out5 piece7 at8 i9 j10 p11 q12 t34 t35 t62 t63 m1_0 m1_1 m1_2 K) (by kernel_rfl) (by kernel_rfl)
noncomputable def f64c46 := codeAt (bodyOf Try.f64) [1,1,1,0,1,0,0,1,1,0,0,1,1,1,1,0,1,0,0,1,0,0,1,1,0,0,1,1,0,0]
noncomputable def f64p46 : Plan := .mk (some f64l12) none .n f64p48
theorem f64t46 {ρ : Type} (N : Nat) (num3 : List Int) (den4 : List Int) (out5 : List Int) (piece7 : List Int) (at8 : Int) (i9 : Int) (t34 : Int) (t35 : Int) (t62 : Int) (t63 : Int) (m1_0 : Int) (m1_1 : Int) (m1_2 : List Int) (K : KT ρ) : f64i N f64c46 f64p46 (f64s10 num3 den4 out5 piece7 at8 i9 t34 t35 t62 t63 m1_0 m1_1 m1_2) (joinK (some f64l10) K) =
  impl_factors.Z46 N num3 den4 out5 piece7 at8 i9 t34 t35 t62 t63 m1_0 m1_1 m1_2 (fun num3 den4 out5 piece7 at8 i9 t34 t35 t62 t63 m1_0 m1_1 m1_2 => K .nrm (f64s10 num3 den4 out5 piece7 at8 i9 t34 t35 t62 t63 m1_0 m1_1 m1_2)) (fun num3 den4 out5 piece7 at8 i9 t34 t35 t62 t63 m1_0 m1_1 m1_2 => K (.exit 5) (f64s10 num3 den4 out5 piece7 at8 i9 t34 t35 t62 t63 m1_0 m1_1 m1_2)) (fun t2 => K .ret (f64s21 t2)) :=
  viaSeq (fun k => impl_factors.Z47 N num3 den4 out5 piece7 at8 i9 t34 t35 t62 t63 m1_0 m1_1 m1_2 k) (by kernel_rfl) (by kernel_rfl) (f64t47 N num3 den4 out5 piece7 at8 i9 t34 t35 t62 t63 m1_0 m1_1 m1_2 (seqK (fun σ => f64i N f64c48 f64p48 σ (joinK (some f64l10) K)) (joinK (some f64l10) K))) (funext fun num3 => funext fun den4 => funext fun out5 => funext fun piece7 => funext fun at8 => funext fun i9 => funext fun j10 => funext fun t34 => funext fun t35 => funext fun t62 => funext fun t63 => funext fun m1_0 => funext fun m1_1 => funext fun m1_2 => f64t48 N num3 den4 out5 piece7 at8 i9 j10 t34 t35 t62 t63 m1_0 m1_1 m1_2 K) (by kernel_rfl) (by kernel_rfl)
noncomputable def f64c45 := codeAt (bodyOf Try.f64) [1,1,1,0,1,0,0,1,1,0,0,1,1,1,1,0,1,0,0,1,0,0,1,1,0,0,1,1,0]
noncomputable def f64p45 : Plan := .mk (some f64l10) none f64p46 .n
theorem f64t45 {ρ : Type} (N : Nat) (num3 : List Int) (den4 : List Int) (out5 : List Int) (piece7 : List Int) (at8 : Int) (i9 : Int) (t34 : Int) (t35 : Int) (t62 : Int) (t63 : Int) (m1_0 : Int) (m1_1 : Int) (m1_2 : List Int) (K : KT ρ) : f64i N f64c45 f64p45 (f64s10 num3 den4 out5 piece7 at8 i9 t34 t35 t62 t63 m1_0 m1_1 m1_2) (joinK (some f64l10) K) =
  impl_factors.Z45 N num3 den4 out5 piece7 at8 i9 t34 t35 t62 t63 m1_0 m1_1 m1_2 (fun num3 den4 out5 piece7 at8 i9 t34 t35 t62 t63 m1_0 m1_1 m1_2 => K .nrm (f64s10 num3 den4 out5 piece7 at8 i9 t34 t35 t62 t63 m1_0 m1_1 m1_2)) (fun t2 => K .ret (f64s21 t2)) :=
  viaBlock (by kernel_rfl) (by kernel_rfl) (f64t46 N num3 den4 out5 piece7 at8 i9 t34 t35 t62 t63 m1_0 m1_1 m1_2 (blockK 5 (joinK (some f64l10) K))) (by kernel_rfl)
noncomputable def f64c53 := codeAt (bodyOf Try.f64) [1,1,1,0,1,0,0,1,1,0,0,1,1,1,1,0,1,0,0,1,0,0,1,1,0,0,1,1,1]
theorem f64t53 {ρ : Type} (N : Nat) (num3 : List Int) (den4 : List Int) (out5 : List Int) (piece7 : List Int) (at8 : Int) (i9 : Int) (t34 : Int) (t35 : Int) (t62 : Int) (t63 : Int) (m1_0 : Int) (m1_1 : Int) (m1_2 : List Int) (K : KT ρ) : f64i N f64c53 .n (f64s10 num3 den4 out5 piece7 at8 i9 t34 t35 t62 t63 m1_0 m1_1 m1_2) (joinK (some f64l10) K) =
  impl_factors.Z53 N num3 den4 out5 piece7 at8 i9 t34 t35 t62 t63 m1_0 m1_1 m1_2 (fun num3 den4 out5 piece7 at8 i9 t34 t35 t62 t63 m1_0 m1_1 m1_2 => K .nrm (f64s10 num3 den4 out5 piece7 at8 i9 t34 t35 t62 t63 m1_0 m1_1 m1_2)) := by kernel_rfl
noncomputable def f64c44 := codeAt (bodyOf Try.f64) [1,1,1,0,1,0,0,1,1,0,0,1,1,1,1,0,1,0,0,1,0,0,1,1,0,0,1,1]
noncomputable def f64p44 : Plan := .mk (some f64l10) none f64p45 .n
theorem f64t44 {ρ : Type} (N : Nat) (num3 : List Int) (den4 : List Int) (out5 : List Int) (piece7 : List Int) (at8 : Int) (i9 : Int) (t34 : Int) (t35 : Int) (t62 : Int) (t63 : Int) (m1_0 : Int) (m1_1 : Int) (m1_2 : List Int) (K : KT ρ) : f64i N f64c44 f64p44 (f64s10 num3 den4 out5 piece7 at8 i9 t34 t35 t62 t63 m1_0 m1_1 m1_2) (joinK (some f64l10) K) =
  impl_factors.Z44 N num3 den4 out5 piece7 at8 i9 t34 t35 t62 t63 m1_0 m1_1 m1_2 (fun num3 den4 out5 piece7 at8 i9 t34 t35 t62 t63 m1_0 m1_1 m1_2 => K .nrm (f64s10 num3 den4 out5 piece7 at8 i9 t34 t35 t62 t63 m1_0 m1_1 m1_2)) (fun t2 => K .ret (f64s21 t2)) :=
  viaSeq (fun k => impl_factors.Z45 N num3 den4 out5 piece7 at8 i9 t34 t35 t62 t63 m1_0 m1_1 m1_2 k (fun t2 => K .ret (f64s21 t2))) (by kernel_rfl) (by kernel_rfl) (f64t45 N num3 den4 out5 piece7 at8 i9 t34 t35 t62 t63 m1_0 m1_1 m1_2 (seqK (fun σ => f64i N f64c53 .n σ (joinK (some f64l10) K)) (joinK (some f64l10) K))) (funext fun num3 => funext fun den4 => funext fun out5 => funext fun piece7 => funext fun at8 => funext fun i9 => funext fun t34 => funext fun t35 => funext fun t62 => funext fun t63 => funext fun m1_0 => funext fun m1_1 => funext fun m1_2 => f64t53 N num3 den4 out5 piece7 at8 i9 t34 t35 t62 t63 m1_0 m1_1 m1_2 K) (by kernel_rfl) (by kernel_rfl)
noncomputable def f64c42 := codeAt (bodyOf Try.f64) [1,1,1,0,1,0,0,1,1,0,0,1,1,1,1,0,1,0,0,1,0,0,1,1,0,0,1]
noncomputable def f64p42 : Plan := .mk (some f64l10) none .n f64p44
theorem f64t42 {ρ : Type} (N : Nat) (num3 : List Int) (den4 : List Int) (out5 : List Int) (piece7 : List Int) (at8 : Int) (i9 : Int) (t34 : Int) (t35 : Int) (t62 : Int) (t63 : Int) (t64 : Bool) (m1_0 : Int) (m1_1 : Int) (m1_2 : List Int) (K : KT ρ) : f64i N f64c42 f64p42 (f64s11 num3 den4 out5 piece7 at8 i9 t34 t35 t62 t63 t64 m1_0 m1_1 m1_2) (joinK (some f64l10) K) =
  impl_factors.Z42 N num3 den4 out5 piece7 at8 i9 t34 t35 t62 t63 t64 m1_0 m1_1 m1_2 (fun num3 den4 out5 piece7 at8 i9 t34 t35 t62 t63 m1_0 m1_1 m1_2 => K .nrm (f64s10 num3 den4 out5 piece7 at8 i9 t34 t35 t62 t63 m1_0 m1_1 m1_2)) (fun num3 den4 out5 piece7 at8 t34 t35 m1_0 m1_1 m1_2 => K (.exit 4) (f64s8 num3 den4 out5 piece7 at8 t34 t35 m1_0 m1_1 m1_2)) (fun t2 => K .ret (f64s21 t2)) :=
  viaSeq (fun k => impl_factors.Z43 N num3 den4 out5 piece7 at8 i9 t34 t35 t62 t63 t64 m1_0 m1_1 m1_2 k (fun num3 den4 out5 piece7 at8 t34 t35 m1_0 m1_1 m1_2 => K (.exit 4) (f64s8 num3 den4 out5 piece7 at8 t34 t35 m1_0 m1_1 m1_2))) (by kernel_rfl) (by kernel_rfl) (f64t43 N num3 den4 out5 piece7 at8 i9 t34 t35 t62 t63 t64 m1_0 m1_1 m1_2 (seqK (fun σ => f64i N f64c44 f64p44 σ (joinK (some f64l10) K)) (joinK (some f64l10) K))) (funext fun num3 => funext fun den4 => funext fun out5 => funext fun piece7 => funext fun at8 => funext fun i9 => funext fun t34 => funext fun t35 => funext fun t62 => funext fun t63 => funext fun m1_0 => funext fun m1_1 => funext fun m1_2 => f64t44 N num3 den4 out5 piece7 at8 i9 t34 t35 t62 t63 m1_0 m1_1 m1_2 K) (by kernel_rfl) (by kernel_rfl)
noncomputable def f64c40 := codeAt (bodyOf Try.f64) [1,1,1,0,1,0,0,1,1,0,0,1,1,1,1,0,1,0,0,1,0,0,1,1,0,0]
noncomputable def f64p40 : Plan := .mk (some f64l11) none .n f64p42
theorem f64t40 {ρ : Type} (N : Nat) (num3 : List Int) (den4 : List Int) (out5 : List Int) (piece7 : List Int) (at8 : Int) (i9 : Int) (t34 : Int) (t35 : Int) (t62 : Int) (t63 : Int) (m1_0 : Int) (m1_1 : Int) (m1_2 : List Int) (K : KT ρ) : f64i N f64c40 f64p40 (f64s10 num3 den4 out5 piece7 at8 i9 t34 t35 t62 t63 m1_0 m1_1 m1_2) (joinK (some f64l10) K) =
  impl_factors.Z40 N num3 den4 out5 piece7 at8 i9 t34 t35 t62 t63 m1_0 m1_1 m1_2 (fun num3 den4 out5 piece7 at8 i9 t34 t35 t62 t63 m1_0 m1_1 m1_2 => K .nrm (f64s10 num3 den4 out5 piece7 at8 i9 t34 t35 t62 t63 m1_0 m1_1 m1_2)) (fun num3 den4 out5 piece7 at8 t34 t35 m1_0 m1_1 m1_2 => K (.exit 4) (f64s8 num3 den4 out5 piece7 at8 t34 t35 m1_0 m1_1 m1_2)) (fun t2 => K .ret (f64s21 t2)) :=
  viaSeq (fun k => impl_factors.Z41 N num3 den4 out5 piece7 at8 i9 t34 t35 t62 t63 m1_0 m1_1 m1_2 k) (by kernel_rfl) (by kernel_rfl) (f64t41 N num3 den4 out5 piece7 at8 i9 t34 t35 t62 t63 m1_0 m1_1 m1_2 (seqK (fun σ => f64i N f64c42 f64p42 σ (joinK (some f64l10) K)) (joinK (some f64l10) K))) (funext fun num3 => funext fun den4 => funext fun out5 => funext fun piece7 => funext fun at8 => funext fun i9 => funext fun t34 => funext fun t35 => funext fun t62 => funext fun t63 => funext fun t64 => funext fun m1_0 => funext fun m1_1 => funext fun m1_2 => f64t42 N num3 den4 out5 piece7 at8 i9 t34 t35 t62 t63 t64 m1_0 m1_1 m1_2 K) (by kernel_rfl) (by kernel_rfl)
noncomputable def f64c39 := codeAt (bodyOf Try.f64) [1,1,1,0,1,0,0,1,1,0,0,1,1,1,1,0,1,0,0,1,0,0,1,1,0]
noncomputable def f64p39 : Plan := .mk none (some f64l10) f64p40 .n
noncomputable abbrev f64w39 {ρ : Type} (N : Nat) (M : Nat) (σ : St) (K : KT ρ) : Option ρ := loopC (fun σ K => f64i N f64c40 f64p40 σ K) f64l10 M σ K
theorem f64t39L {ρ : Type} (N : Nat) (K : KT ρ) : ∀ (M : Nat) (num3 : List Int) (den4 : List Int) (out5 : List Int) (piece7 : List Int) (at8 : Int) (i9 : Int) (t34 : Int) (t35 : Int) (t62 : Int) (t63 : Int) (m1_0 : Int) (m1_1 : Int) (m1_2 : List Int), f64w39 N M (f64s10 num3 den4 out5 piece7 at8 i9 t34 t35 t62 t63 m1_0 m1_1 m1_2) K =
  impl_factors.Z39L N (fun num3 den4 out5 piece7 at8 t34 t35 m1_0 m1_1 m1_2 => K (.exit 4) (f64s8 num3 den4 out5 piece7 at8 t34 t35 m1_0 m1_1 m1_2)) (fun t2 => K .ret (f64s21 t2)) M num3 den4 out5 piece7 at8 i9 t34 t35 t62 t63 m1_0 m1_1 m1_2
  | 0, _, _, _, _, _, _, _, _, _, _, _, _, _ => rfl
  | M + 1, num3, den4, out5, piece7, at8, i9, t34, t35, t62, t63, m1_0, m1_1, m1_2 => viaRound (fun k => impl_factors.Z40 N num3 den4 out5 piece7 at8 i9 t34 t35 t62 t63 m1_0 m1_1 m1_2 k (fun num3 den4 out5 piece7 at8 t34 t35 m1_0 m1_1 m1_2 => K (.exit 4) (f64s8 num3 den4 out5 piece7 at8 t34 t35 m1_0 m1_1 m1_2)) (fun t2 => K .ret (f64s21 t2))) (f64t40 N num3 den4 out5 piece7 at8 i9 t34 t35 t62 t63 m1_0 m1_1 m1_2 (seqK (fun σ => f64w39 N M σ K) K)) (funext fun num3 => funext fun den4 => funext fun out5 => funext fun piece7 => funext fun at8 => funext fun i9 => funext fun t34 => funext fun t35 => funext fun t62 => funext fun t63 => funext fun m1_0 => funext fun m1_1 => funext fun m1_2 => f64t39L N K M num3 den4 out5 piece7 at8 i9 t34 t35 t62 t63 m1_0 m1_1 m1_2) (by kernel_rfl) (by kernel_rfl)
theorem f64t39 {ρ : Type} (N : Nat) (num3 : List Int) (den4 : List Int) (out5 : List Int) (piece7 : List Int) (at8 : Int) (i9 : Int) (t34 : Int) (t35 : Int) (t62 : Int) (t63 : Int) (m1_0 : Int) (m1_1 : Int) (m1_2 : List Int) (K : KT ρ) : f64i N f64c39 f64p39 (f64s10 num3 den4 out5 piece7 at8 i9 t34 t35 t62 t63 m1_0 m1_1 m1_2) (joinK (some f64l8) K) =
  impl_factors.Z39 N num3 den4 out5 piece7 at8 i9 t34 t35 t62 t63 m1_0 m1_1 m1_2 (fun num3 den4 out5 piece7 at8 t34 t35 m1_0 m1_1 m1_2 => K (.exit 4) (f64s8 num3 den4 out5 piece7 at8 t34 t35 m1_0 m1_1 m1_2)) (fun t2 => K .ret (f64s21 t2)) :=
  viaLoop (by kernel_rfl) (by kernel_rfl) (σ' := f64s10 num3 den4 out5 piece7 at8 i9 t34 t35 t62 t63 m1_0 m1_1 m1_2) (by kernel_rfl) (f64t39L N (joinK (some f64l8) K) N num3 den4 out5 piece7 at8 i9 t34 t35 t62 t63 m1_0 m1_1 m1_2) (by kernel_rfl)
noncomputable def f64c38 := codeAt (bodyOf Try.f64) [1,1,1,0,1,0,0,1,1,0,0,1,1,1,1,0,1,0,0,1,0,0,1,1]
noncomputable def f64p38 : Plan := .mk (some f64l8) none f64p39 .n
theorem f64t38 {ρ : Type} (N : Nat) (num3 : List Int) (den4 : List Int) (out5 : List Int) (piece7 : List Int) (at8 : Int) (i9 : Int) (t34 : Int) (t35 : Int) (t62 : Int) (t63 : Int) (m1_0 : Int) (m1_1 : Int) (m1_2 : List Int) (K : KT ρ) : f64i N f64c38 f64p38 (f64s10 num3 den4 out5 piece7 at8 i9 t34 t35 t62 t63 m1_0 m1_1 m1_2) (joinK (some f64l8) K) =
  impl_factors.Z38 N num3 den4 out5 piece7 at8 i9 t34 t35 t62 t63 m1_0 m1_1 m1_2 (fun num3 den4 out5 piece7 at8 t34 t35 m1_0 m1_1 m1_2 => K .nrm (f64s8 num3 den4 out5 piece7 at8 t34 t35 m1_0 m1_1 m1_2)) (fun t2 => K .ret (f64s21 t2)) :=
  viaBlock (by kernel_rfl) (by kernel_rfl) (f64t39 N num3 den4 out5 piece7 at8 i9 t34 t35 t62 t63 m1_0 m1_1 m1_2 (blockK 4 (joinK (some f64l8) K))) (by kernel_rfl)
noncomputable def f64c36 := codeAt (bodyOf Try.f64) [1,1,1,0,1,0,0,1,1,0,0,1,1,1,1,0,1,0,0,1,0,0,1]
noncomputable def f64p36 : Plan := .mk (some f64l10) none .n f64p38
theorem f64t36 {ρ : Type} (N : Nat) (num3 : List Int) (den4 : List Int) (out5 : List Int) (piece7 : List Int) (at8 : Int) (i9 : Int) (t34 : Int) (t35 : Int) (m1_0 : Int) (m1_1 : Int) (m1_2 : List Int) (K : KT ρ) : f64i N f64c36 f64p36 (f64s9 num3 den4 out5 piece7 at8 i9 t34 t35 m1_0 m1_1 m1_2) (joinK (some f64l8) K) =
  impl_factors.Z36 N num3 den4 out5 piece7 at8 i9 t34 t35 m1_0 m1_1 m1_2 (fun num3 den4 out5 piece7 at8 t34 t35 m1_0 m1_1 m1_2 => K .nrm (f64s8 num3 den4 out5 piece7 at8 t34 t35 m1_0 m1_1 m1_2)) (fun t2 => K .ret (f64s21 t2)) :=
  viaSeq (fun k => impl_factors.Z37 N num3 den4 out5 piece7 at8 i9 t34 t35 m1_0 m1_1 m1_2 k) (by kernel_rfl) (by kernel_rfl) (f64t37 N num3 den4 out5 piece7 at8 i9 t34 t35 m1_0 m1_1 m1_2 (seqK (fun σ => f64i N f64c38 f64p38 σ (joinK (some f64l8) K)) (joinK (some f64l8) K))) (funext fun num3 => funext fun den4 => funext fun out5 => funext fun piece7 => funext fun at8 => funext fun i9 => funext fun t34 => funext fun t35 => funext fun t62 => funext fun t63 => funext fun m1_0 => funext fun m1_1 => funext fun m1_2 => f64t38 N num3 den4 out5 piece7 at8 i9 t34 t35 t62 t63 m1_0 m1_1 m1_2 K) (by kernel_rfl) (by kernel_rfl)
noncomputable def f64c34 := codeAt (bodyOf Try.f64) [1,1,1,0,1,0,0,1,1,0,0,1,1,1,1,0,1,0,0,1,0,0]
noncomputable def f64p34 : Plan := .mk (some f64l9) none .n f64p36
theorem f64t34 {ρ : Type} (N : Nat) (num3 : List Int) (den4 : List Int) (out5 : List Int) (piece7 : List Int) (at8 : Int) (t34 : Int) (t35 : Int) (m1_0 : Int) (m1_1 : Int) (m1_2 : List Int) (K : KT ρ) : f64i N f64c34 f64p34 (f64s8 num3 den4 out5 piece7 at8 t34 t35 m1_0 m1_1 m1_2) (joinK (some f64l8) K) =
  impl_factors.Z34 N num3 den4 out5 piece7 at8 t34 t35 m1_0 m1_1 m1_2 (fun num3 den4 out5 piece7 at8 t34 t35 m1_0 m1_1 m1_2 => K .nrm (f64s8 num3 den4 out5 piece7 at8 t34 t35 m1_0 m1_1 m1_2)) (fun t2 => K .ret (f64s21 t2)) :=
  viaSeq (fun k => impl_factors.Z35 N num3 den4 out5 piece7 at8 t34 t35 m1_0 m1_1 m1_2 k) (by kernel_rfl) (by kernel_rfl) (f64t35 N num3 den4 out5 piece7 at8 t34 t35 m1_0 m1_1 m1_2 (seqK (fun σ => f64i N f64c36 f64p36 σ (joinK (some f64l8) K)) (joinK (some f64l8) K))) (funext fun num3 => funext fun den4 => funext fun out5 => funext fun piece7 => funext fun at8 => funext fun i9 => funext fun t34 => funext fun t35 => funext fun m1_0 => funext fun m1_1 => funext fun m1_2 => f64t36 N num3 den4 out5 piece7 at8 i9 t34 t35 m1_0 m1_1 m1_2 K) (by kernel_rfl) (by kernel_rfl)
noncomputable def f64c33 := codeAt (bodyOf Try.f64) [1,1,1,0,1,0,0,1,1,0,0,1,1,1,1,0,1,0,0,1,0]
noncomputable def f64p33 : Plan := .mk (some f64l8) none f64p34 .n
theorem f64t33 {ρ : Type} (N : Nat) (num3 : List Int) (den4 : List Int) (out5 : List Int) (piece7 : List Int) (at8 : Int) (t34 : Int) (t35 : Int) (m1_0 : Int) (m1_1 : Int) (m1_2 : List Int) (K : KT ρ) : f64i N f64c33 f64p33 (f64s8 num3 den4 out5 piece7 at8 t34 t35 m1_0 m1_1 m1_2) (joinK (some f64l8) K) =
  impl_factors.Z33 N num3 den4 out5 piece7 at8 t34 t35 m1_0 m1_1 m1_2 (fun num3 den4 out5 piece7 at8 t34 t35 m1_0 m1_1 m1_2 => K .nrm (f64s8 num3 den4 out5 piece7 at8 t34 t35 m1_0 m1_1 m1_2)) (fun t2 => K .ret (f64s21 t2)) :=
  viaBlock (by kernel_rfl) (by kernel_rfl) (f64t34 N num3 den4 out5 piece7 at8 t34 t35 m1_0 m1_1 m1_2 (blockK 3 (joinK (some f64l8) K))) (by kernel_rfl)
noncomputable def f64c54 := codeAt (bodyOf Try.f64) [1,1,1,0,1,0,0,1,1,0,0,1,1,1,1,0,1,0,0,1,1]
theorem f64t54 {ρ : Type} (N : Nat) (num3 : List Int) (den4 : List Int) (out5 : List Int) (piece7 : List Int) (at8 : Int) (t34 : Int) (t35 : Int) (m1_0 : Int) (m1_1 : Int) (m1_2 : List Int) (K : KT ρ) : f64i N f64c54 .n (f64s8 num3 den4 out5 piece7 at8 t34 t35 m1_0 m1_1 m1_2) (joinK (some f64l8) K) =
  impl_factors.Z54 N num3 den4 out5 piece7 at8 t34 t35 m1_0 m1_1 m1_2 (fun num3 den4 out5 piece7 at8 t34 t35 m1_0 m1_1 m1_2 => K .nrm (f64s8 num3 den4 out5 piece7 at8 t34 t35 m1_0 m1_1 m1_2)) := by kernel_rfl
noncomputable def f64c32 := codeAt (bodyOf Try.f64) [1,1,1,0,1,0,0,1,1,0,0,1,1,1,1,0,1,0,0,1]
noncomputable def f64p32 : Plan := .mk (some f64l8) none f64p33 .n
theorem f64t32 {ρ : Type} (N : Nat) (num3 : List Int) (den4 : List Int) (out5 : List Int) (piece7 : List Int) (at8 : Int) (t34 : Int) (t35 : Int) (m1_0 : Int) (m1_1 : Int) (m1_2 : List Int) (K : KT ρ) : f64i N f64c32 f64p32 (f64s8 num3 den4 out5 piece7 at8 t34 t35 m1_0 m1_1 m1_2) (joinK (some f64l8) K) =
  impl_factors.Z32 N num3 den4 out5 piece7 at8 t34 t35 m1_0 m1_1 m1_2 (fun num3 den4 out5 piece7 at8 t34 t35 m1_0 m1_1 m1_2 => K .nrm (f64s8 num3 den4 out5 piece7 at8 t34 t35 m1_0 m1_1 m1_2)) (fun t2 => K .ret (f64s21 t2)) :=
  viaSeq (fun k => impl_factors.Z33 N num3 den4 out5 piece7 at8 t34 t35 m1_0 m1_1 m1_2 k (fun t2 => K .ret (f64s21 t2))) (by kernel_rfl) (by kernel_rfl) (f64t33 N num3 den4 out5 piece7 at8 t34 t35 m1_0 m1_1 m1_2 (seqK (fun σ => f64i N f64c54 .n σ (joinK (some f64l8) K)) (joinK (some f64l8) K))) (funext fun num3 => funext fun den4 => funext fun out5 => funext fun piece7 => funext fun at8 => funext fun t34 => funext fun t35 => funext fun m1_0 => funext fun m1_1 => funext fun m1_2 => f64t54 N num3 den4 out5 piece7 at8 t34 t35 m1_0 m1_1 m1_2 K) (by kernel_rfl) (by kernel_rfl)
noncomputable def f64c30 := codeAt (bodyOf Try.f64) [1,1,1,0,1,0,0,1,1,0,0,1,1,1,1,0,1,0,0]
noncomputable def f64p30 : Plan := .mk (some f64l8) none .n f64p32
theorem f64t30 {ρ : Type} (N : Nat) (num3 : List Int) (den4 : List Int) (out5 : List Int) (piece7 : List Int) (at8 : Int) (t34 : Int) (t35 : Int) (m1_0 : Int) (m1_1 : Int) (m1_2 : List Int) (K : KT ρ) : f64i N f64c30 f64p30 (f64s8 num3 den4 out5 piece7 at8 t34 t35 m1_0 m1_1 m1_2) (joinK (some f64l8) K) =
  impl_factors.Z30 N num3 den4 out5 piece7 at8 t34 t35 m1_0 m1_1 m1_2 (fun num3 den4 out5 piece7 at8 t34 t35 m1_0 m1_1 m1_2 => K .nrm (f64s8 num3 den4 out5 piece7 at8 t34 t35 m1_0 m1_1 m1_2)) (fun num3 den4 out5 piece7 t34 t35 m1_0 m1_1 m1_2 => K (.exit 2) (f64s7 num3 den4 out5 piece7 t34 t35 m1_0 m1_1 m1_2)) (fun t2 => K .ret (f64s21 t2)) :=
  viaSeq (fun k => impl_factors.Z31 N num3 den4 out5 piece7 at8 t34 t35 m1_0 m1_1 m1_2 k (fun num3 den4 out5 piece7 t34 t35 m1_0 m1_1 m1_2 => K (.exit 2) (f64s7 num3 den4 out5 piece7 t34 t35 m1_0 m1_1 m1_2))) (by kernel_rfl) (by kernel_rfl) (f64t31 N num3 den4 out5 piece7 at8 t34 t35 m1_0 m1_1 m1_2 (seqK (fun σ => f64i N f64c32 f64p32 σ (joinK (some f64l8) K)) (joinK (some f64l8) K))) (funext fun num3 => funext fun den4 => funext fun out5 => funext fun piece7 => funext fun at8 => funext fun t34 => funext fun t35 => funext fun m1_0 => funext fun m1_1 => funext fun m1_2 => f64t32 N num3 den4 out5 piece7 at8 t34 t35 m1_0 m1_1 m1_2 K) (by kernel_rfl) (by kernel_rfl)
noncomputable def f64c29 := codeAt (bodyOf Try.f64) [1,1,1,0,1,0,0,1,1,0,0,1,1,1,1,0,1,0]
noncomputable def f64p29 : Plan := .mk none (some f64l8) f64p30 .n
noncomputable abbrev f64w29 {ρ : Type} (N : Nat) (M : Nat) (σ : St) (K : KT ρ) : Option ρ := loopC (fun σ K => f64i N f64c30 f64p30 σ K) f64l8 M σ K
theorem f64t29L {ρ : Type} (N : Nat) (K : KT ρ) : ∀ (M : Nat) (num3 : List Int) (den4 : List Int) (out5 : List Int) (piece7 : List Int) (at8 : Int) (t34 : Int) (t35 : Int) (m1_0 : Int) (m1_1 : Int) (m1_2 : List Int), f64w29 N M (f64s8 num3 den4 out5 piece7 at8 t34 t35 m1_0 m1_1 m1_2) K =
  impl_factors.Z29L N (fun num3 den4 out5 piece7 t34 t35 m1_0 m1_1 m1_2 => K (.exit 2) (f64s7 num3 den4 out5 piece7 t34 t35 m1_0 m1_1 m1_2)) (fun t2 => K .ret (f64s21 t2)) M num3 den4 out5 piece7 at8 t34 t35 m1_0 m1_1 m1_2
  | 0, _, _, _, _, _, _, _, _, _, _ => rfl
  | M + 1, num3, den4, out5, piece7, at8, t34, t35, m1_0, m1_1, m1_2 => viaRound (fun k => impl_factors.Z30 N num3 den4 out5 piece7 at8 t34 t35 m1_0 m1_1 m1_2 k (fun num3 den4 out5 piece7 t34 t35 m1_0 m1_1 m1_2 => K (.exit 2) (f64s7 num3 den4 out5 piece7 t34 t35 m1_0 m1_1 m1_2)) (fun t2 => K .ret (f64s21 t2))) (f64t30 N num3 den4 out5 piece7 at8 t34 t35 m1_0 m1_1 m1_2 (seqK (fun σ => f64w29 N M σ K) K)) (funext fun num3 => funext fun den4 => funext fun out5 => funext fun piece7 => funext fun at8 => funext fun t34 => funext fun t35 => funext fun m1_0 => funext fun m1_1 => funext fun m1_2 => f64t29L N K M num3 den4 out5 piece7 at8 t34 t35 m1_0 m1_1 m1_2) (by kernel_rfl) (by kernel_rfl)
theorem f64t29 {ρ : Type} (N : Nat) (num3 : List Int) (den4 : List Int) (out5 : List Int) (piece7 : List Int) (at8 : Int) (t34 : Int) (t35 : Int) (m1_0 : Int) (m1_1 : Int) (m1_2 : List Int) (K : KT ρ) : f64i N f64c29 f64p29 (f64s8 num3 den4 out5 piece7 at8 t34 t35 m1_0 m1_1 m1_2) (joinK (some f64l7) K) =
  impl_factors.Z29 N num3 den4 out5 piece7 at8 t34 t35 m1_0 m1_1 m1_2 (fun num3 den4 out5 piece7 t34 t35 m1_0 m1_1 m1_2 => K (.exit 2) (f64s7 num3 den4 out5 piece7 t34 t35 m1_0 m1_1 m1_2)) (fun t2 => K .ret (f64s21 t2)) :=
  viaLoop (by kernel_rfl) (by kernel_rfl) (σ' := f64s8 num3 den4 out5 piece7 at8 t34 t35 m1_0 m1_1 m1_2) (by kernel_rfl) (f64t29L N (joinK (some f64l7) K) N num3 den4 out5 piece7 at8 t34 t35 m1_0 m1_1 m1_2) (by kernel_rfl)
noncomputable def f64c28 := codeAt (bodyOf Try.f64) [1,1,1,0,1,0,0,1,1,0,0,1,1,1,1,0,1]
noncomputable def f64p28 : Plan := .mk (some f64l7) none f64p29 .n
theorem f64t28 {ρ : Type} (N : Nat) (num3 : List Int) (den4 : List Int) (out5 : List Int) (piece7 : List Int) (at8 : Int) (t34 : Int) (t35 : Int) (m1_0 : Int) (m1_1 : Int) (m1_2 : List Int) (K : KT ρ) : f64i N f64c28 f64p28 (f64s8 num3 den4 out5 piece7 at8 t34 t35 m1_0 m1_1 m1_2) (joinK (some f64l7) K) =
  impl_factors.Z28 N num3 den4 out5 piece7 at8 t34 t35 m1_0 m1_1 m1_2 (fun num3 den4 out5 piece7 t34 t35 m1_0 m1_1 m1_2 => K .nrm (f64s7 num3 den4 out5 piece7 t34 t35 m1_0 m1_1 m1_2)) (fun t2 => K .ret (f64s21 t2)) :=
  viaBlock (by kernel_rfl) (by kernel_rfl) (f64t29 N num3 den4 out5 piece7 at8 t34 t35 m1_0 m1_1 m1_2 (blockK 2 (joinK (some f64l7) K))) (by kernel_rfl)
noncomputable def f64c26 := codeAt (bodyOf Try.f64) [1,1,1,0,1,0,0,1,1,0,0,1,1,1,1,0]
noncomputable def f64p26 : Plan := .mk (some f64l8) none .n f64p28
theorem f64t26 {ρ : Type} (N : Nat) (num3 : List Int) (den4 : List Int) (out5 : List Int) (piece7 : List Int) (t34 : Int) (t35 : Int) (m1_0 : Int) (m1_1 : Int) (m1_2 : List Int) (K : KT ρ) : f64i N f64c26 f64p26 (f64s7 num3 den4 out5 piece7 t34 t35 m1_0 m1_1 m1_2) (joinK (some f64l7) K) =
  impl_factors.Z26 N num3 den4 out5 piece7 t34 t35 m1_0 m1_1 m1_2 (fun num3 den4 out5 piece7 t34 t35 m1_0 m1_1 m1_2 => K .nrm (f64s7 num3 den4 out5 piece7 t34 t35 m1_0 m1_1 m1_2)) (fun t2 => K .ret (f64s21 t2)) :=
  viaSeq (fun k => impl_factors.Z27 N num3 den4 out5 piece7 t34 t35 m1_0 m1_1 m1_2 k) (by kernel_rfl) (by kernel_rfl) (f64t27 N num3 den4 out5 piece7 t34 t35 m1_0 m1_1 m1_2 (seqK (fun σ => f64i N f64c28 f64p28 σ (joinK (some f64l7) K)) (joinK (some f64l7) K))) (funext fun num3 => funext fun den4 => funext fun out5 => funext fun piece7 => funext fun at8 => funext fun t34 => funext fun t35 => funext fun m1_0 => funext fun m1_1 => funext fun m1_2 => f64t28 N num3 den4 out5 piece7 at8 t34 t35 m1_0 m1_1 m1_2 K) (by kernel_rfl) (by kernel_rfl)
noncomputable def f64c56 := codeAt (bodyOf Try.f64) [1,1,1,0,1,0,0,1,1,0,0,1,1,1,1,1,0]
theorem f64t56 {ρ : Type} (N : Nat) (num3 : List Int) (den4 : List Int) (out5 : List Int) (piece7 : List Int) (t34 : Int) (t35 : Int) (m1_0 : Int) (m1_1 : Int) (m1_2 : List Int) (K : KT ρ) : f64i N f64c56 .n (f64s7 num3 den4 out5 piece7 t34 t35 m1_0 m1_1 m1_2) (joinK (some f64l14) K) =
  impl_factors.Z56 N num3 den4 out5 piece7 t34 t35 m1_0 m1_1 m1_2 (fun num3 den4 out5 piece7 common16 t34 t35 m1_0 m1_1 m1_2 => K .nrm (f64s14 num3 den4 out5 piece7 common16 t34 t35 m1_0 m1_1 m1_2)) := by kernel_rfl
noncomputable def f64c59 := codeAt (bodyOf Try.f64) [1,1,1,0,1,0,0,1,1,0,0,1,1,1,1,1,1,0,0]
theorem f64t59 {ρ : Type} (N : Nat) (num3 : List Int) (den4 : List Int) (out5 : List Int) (piece7 : List Int) (common16 : Int) (t34 : Int) (t35 : Int) (m1_0 : Int) (m1_1 : Int) (m1_2 : List Int) (K : KT ρ) : f64i N f64c59 .n (f64s14 num3 den4 out5 piece7 common16 t34 t35 m1_0 m1_1 m1_2) (joinK (some f64l15) K) =
  impl_factors.Z59 N num3 den4 out5 piece7 common16 t34 t35 m1_0 m1_1 m1_2 (fun num3 den4 out5 piece7 common16 t34 t35 t159 t160 m1_0 m1_1 m1_2 => K .nrm (f64s15 num3 den4 out5 piece7 common16 t34 t35 t159 t160 m1_0 m1_1 m1_2)) := by kernel_rfl
noncomputable def f64c62 := codeAt (bodyOf Try.f64) [1,1,1,0,1,0,0,1,1,0,0,1,1,1,1,1,1,0,1,0,0]
theorem f64t62 {ρ : Type} (N : Nat) (num3 : List Int) (den4 : List Int) (out5 : List Int) (piece7 : List Int) (common16 : Int) (t34 : Int) (t35 : Int) (t159 : Int) (t160 : Int) (m1_0 : Int) (m1_1 : Int) (m1_2 : List Int) (K : KT ρ) : f64i N f64c62 .n (f64s15 num3 den4 out5 piece7 common16 t34 t35 t159 t160 m1_0 m1_1 m1_2) (joinK (some f64l15) K) =
  impl_factors.Z62 N num3 den4 out5 piece7 common16 t34 t35 t159 t160 m1_0 m1_1 m1_2 (fun num3 den4 out5 piece7 common16 t34 t35 t159 t160 m1_0 m1_1 m1_2 => K .nrm (f64s15 num3 den4 out5 piece7 common16 t34 t35 t159 t160 m1_0 m1_1 m1_2)) (fun num3 den4 out5 piece7 common16 t34 t35 m1_0 m1_1 m1_2 => K (.exit 6) (f64s14 num3 den4 out5 piece7 common16 t34 t35 m1_0 m1_1 m1_2)) := by kernel_rfl
noncomputable def f64c61 := codeAt (bodyOf Try.f64) [1,1,1,0,1,0,0,1,1,0,0,1,1,1,1,1,1,0,1,0]
noncomputable def f64p61 : Plan := .mk none (some f64l15) .n .n
noncomputable abbrev f64w61 {ρ : Type} (N : Nat) (M : Nat) (σ : St) (K : KT ρ) : Option ρ := loopC (fun σ K => f64i N f64c62 .n σ K) f64l15 M σ K
theorem f64t61L {ρ : Type} (N : Nat) (K : KT ρ) : ∀ (M : Nat) (num3 : List Int) (den4 : List Int) (out5 : List Int) (piece7 : List Int) (common16 : Int) (t34 : Int) (t35 : Int) (t159 : Int) (t160 : Int) (m1_0 : Int) (m1_1 : Int) (m1_2 : List Int), f64w61 N M (f64s15 num3 den4 out5 piece7 common16 t34 t35 t159 t160 m1_0 m1_1 m1_2) K =
  impl_factors.Z61L N (fun num3 den4 out5 piece7 common16 t34 t35 m1_0 m1_1 m1_2 => K (.exit 6) (f64s14 num3 den4 out5 piece7 common16 t34 t35 m1_0 m1_1 m1_2)) M num3 den4 out5 piece7 common16 t34 t35 t159 t160 m1_0 m1_1 m1_2
  | 0, _, _, _, _, _, _, _, _, _, _, _, _ => rfl
  | M + 1, num3, den4, out5, piece7, common16, t34, t35, t159, t160, m1_0, m1_1, m1_2 => viaRound (fun k => impl_factors.Z62 N num3 den4 out5 piece7 common16 t34 t35 t159 t160 m1_0 m1_1 m1_2 k (fun num3 den4 out5 piece7 common16 t34 t35 m1_0 m1_1 m1_2 => K (.exit 6) (f64s14 num3 den4 out5 piece7 common16 t34 t35 m1_0 m1_1 m1_2))) (f64t62 N num3 den4 out5 piece7 common16 t34 t35 t159 t160 m1_0 m1_1 m1_2 (seqK (fun σ => f64w61 N M σ K) K)) (funext fun num3 => funext fun den4 => funext fun out5 => funext fun piece7 => funext fun common16 => funext fun t34 => funext fun t35 => funext fun t159 => funext fun t160 => funext fun m1_0 => funext fun m1_1 => funext fun m1_2 => f64t61L N K M num3 den4 out5 piece7 common16 t34 t35 t159 t160 m1_0 m1_1 m1_2) (by kernel_rfl) (by kernel_rfl)
theorem f64t61 {ρ : Type} (N : Nat) (num3 : List Int) (den4 : List Int) (out5 : List Int) (piece7 : List Int) (common16 : Int) (t34 : Int) (t35 : Int) (t159 : Int) (t160 : Int) (m1_0 : Int) (m1_1 : Int) (m1_2 : List Int) (K : KT ρ) : f64i N f64c61 f64p61 (f64s15 num3 den4 out5 piece7 common16 t34 t35 t159 t160 m1_0 m1_1 m1_2) (joinK (some f64l14) K) =
  impl_factors.Z61 N num3 den4 out5 piece7 common16 t34 t35 t159 t160 m1_0 m1_1 m1_2 (fun num3 den4 out5 piece7 common16 t34 t35 m1_0 m1_1 m1_2 => K (.exit 6) (f64s14 num3 den4 out5 piece7 common16 t34 t35 m1_0 m1_1 m1_2)) :=
  viaLoop (by kernel_rfl) (by kernel_rfl) (σ' := f64s15 num3 den4 out5 piece7 common16 t34 t35 t159 t160 m1_0 m1_1 m1_2) (by kernel_rfl) (f64t61L N (joinK (some f64l14) K) N num3 den4 out5 piece7 common16 t34 t35 t159 t160 m1_0 m1_1 m1_2) (by kernel_rfl)
noncomputable def f64c60 := codeAt (bodyOf Try.f64) [1,1,1,0,1,0,0,1,1,0,0,1,1,1,1,1,1,0,1]
noncomputable def f64p60 : Plan := .mk (some f64l14) none f64p61 .n
theorem f64t60 {ρ : Type} (N : Nat) (num3 : List Int) (den4 : List Int) (out5 : List Int) (piece7 : List Int) (common16 : Int) (t34 : Int) (t35 : Int) (t159 : Int) (t160 : Int) (m1_0 : Int) (m1_1 : Int) (m1_2 : List Int) (K : KT ρ) : f64i N f64c60 f64p60 (f64s15 num3 den4 out5 piece7 common16 t34 t35 t159 t160 m1_0 m1_1 m1_2) (joinK (some f64l14) K) =
  impl_factors.Z60 N num3 den4 out5 piece7 common16 t34 t35 t159 t160 m1_0 m1_1 m1_2 (fun num3 den4 out5 piece7 common16 t34 t35 m1_0 m1_1 m1_2 => K .nrm (f64s14 num3 den4 out5 piece7 common16 t34 t35 m1_0 m1_1 m1_2)) :=
  viaBlock (by kernel_rfl) (by kernel_rfl) (f64t61 N num3 den4 out5 piece7 common16 t34 t35 t159 t160 m1_0 m1_1 m1_2 (blockK 6 (joinK (some f64l14) K))) (by kernel_rfl)
noncomputable def f64c58 := codeAt (bodyOf Try.f64) [1,1,1,0,1,0,0,1,1,0,0,1,1,1,1,1,1,0]
noncomputable def f64p58 : Plan := .mk (some f64l15) none .n f64p60
theorem f64t58 {ρ : Type} (N : Nat) (num3 : List Int) (den4 : List Int) (out5 : List Int) (piece7 : List Int) (common16 : Int) (t34 : Int) (t35 : Int) (m1_0 : Int) (m1_1 : Int) (m1_2 : List Int) (K : KT ρ) : f64i N f64c58 f64p58 (f64s14 num3 den4 out5 piece7 common16 t34 t35 m1_0 m1_1 m1_2) (joinK (some f64l14) K) =
  impl_factors.Z58 N num3 den4 out5 piece7 common16 t34 t35 m1_0 m1_1 m1_2 (fun num3 den4 out5 piece7 common16 t34 t35 m1_0 m1_1 m1_2 => K .nrm (f64s14 num3 den4 out5 piece7 common16 t34 t35 m1_0 m1_1 m1_2)) :=
  viaSeq (fun k => impl_factors.Z59 N num3 den4 out5 piece7 common16 t34 t35 m1_0 m1_1 m1_2 k) (by kernel_rfl) (by kernel_rfl) (f64t59 N num3 den4 out5 piece7 common16 t34 t35 m1_0 m1_1 m1_2 (seqK (fun σ => f64i N f64c60 f64p60 σ (joinK (some f64l14) K)) (joinK (some f64l14) K))) (funext fun num3 => funext fun den4 => funext fun out5 => funext fun piece7 => funext fun common16 => funext fun t34 => funext fun t35 => funext fun t159 => funext fun t160 => funext fun m1_0 => funext fun m1_1 => funext fun m1_2 => f64t60 N num3 den4 out5 piece7 common16 t34 t35 t159 t160 m1_0 m1_1 m1_2 K) (by kernel_rfl) (by kernel_rfl)
noncomputable def f64c64 := codeAt (bodyOf Try.f64) [1,1,1,0,1,0,0,1,1,0,0,1,1,1,1,1,1,1,0]
theorem f64t64 {ρ : Type} (N : Nat) (num3 : List Int) (den4 : List Int) (out5 : List Int) (piece7 : List Int) (common16 : Int) (t34 : Int) (t35 : Int) (m1_0 : Int) (m1_1 : Int) (m1_2 : List Int) (K : KT ρ) : f64i N f64c64 .n (f64s14 num3 den4 out5 piece7 common16 t34 t35 m1_0 m1_1 m1_2) (joinK (some f64l16) K) =
  impl_factors.Z64 N num3 den4 out5 piece7 common16 t34 t35 m1_0 m1_1 m1_2 (fun num3 den4 out5 piece7 common16 g19 t34 t35 m1_0 m1_1 m1_2 => K .nrm (f64s16 num3 den4 out5 piece7 common16 g19 t34 t35 m1_0 m1_1 m1_2)) := by kernel_rfl
noncomputable def f64c67 := codeAt (bodyOf Try.f64) [1,1,1,0,1,0,0,1,1,0,0,1,1,1,1,1,1,1,1,0,0]
theorem f64t67 {ρ : Type} (N : Nat) (num3 : List Int) (den4 : List Int) (out5 : List Int) (piece7 : List Int) (common16 : Int) (g19 : Int) (t34 : Int) (t35 : Int) (m1_0 : Int) (m1_1 : Int) (m1_2 : List Int) (K : KT ρ) : f64i N f64c67 .n (f64s16 num3 den4 out5 piece7 common16 g19 t34 t35 m1_0 m1_1 m1_2) (joinK (some f64l17) K) =
  impl_factors.Z67 N num3 den4 out5 piece7 common16 g19 t34 t35 m1_0 m1_1 m1_2 (fun num3 den4 out5 piece7 common16 g19 t34 t35 t179 t180 m1_0 m1_1 m1_2 => K .nrm (f64s17 num3 den4 out5 piece7 common16 g19 t34 t35 t179 t180 m1_0 m1_1 m1_2)) := by kernel_rfl
noncomputable def f64c70 := codeAt (bodyOf Try.f64) [1,1,1,0,1,0,0,1,1,0,0,1,1,1,1,1,1,1,1,0,1,0,0]
theorem f64t70 {ρ : Type} (N : Nat) (num3 : List Int) (den4 : List Int) (out5 : List Int) (piece7 : List Int) (common16 : Int) (g19 : Int) (t34 : Int) (t35 : Int) (t179 : Int) (t180 : Int) (m1_0 : Int) (m1_1 : Int) (m1_2 : List Int) (K : KT ρ) : f64i N f64c70 .n (f64s17 num3 den4 out5 piece7 common16 g19 t34 t35 t179 t180 m1_0 m1_1 m1_2) (joinK (some f64l17) K) =
  impl_factors.Z70 N num3 den4 out5 piece7 common16 g19 t34 t35 t179 t180 m1_0 m1_1 m1_2 (fun num3 den4 out5 piece7 common16 g19 t34 t35 t179 t180 m1_0 m1_1 m1_2 => K .nrm (f64s17 num3 den4 out5 piece7 common16 g19 t34 t35 t179 t180 m1_0 m1_1 m1_2)) (fun num3 den4 out5 piece7 g19 t34 t35 m1_0 m1_1 m1_2 => K (.exit 8) (f64s18 num3 den4 out5 piece7 g19 t34 t35 m1_0 m1_1 m1_2)) := by kernel_rfl
noncomputable def f64c69 := codeAt (bodyOf Try.f64) [1,1,1,0,1,0,0,1,1,0,0,1,1,1,1,1,1,1,1,0,1,0]
noncomputable def f64p69 : Plan := .mk none (some f64l17) .n .n
noncomputable abbrev f64w69 {ρ : Type} (N : Nat) (M : Nat) (σ : St) (K : KT ρ) : Option ρ := loopC (fun σ K => f64i N f64c70 .n σ K) f64l17 M σ K
theorem f64t69L {ρ : Type} (N : Nat) (K : KT ρ) : ∀ (M : Nat) (num3 : List Int) (den4 : List Int) (out5 : List Int) (piece7 : List Int) (common16 : Int) (g19 : Int) (t34 : Int) (t35 : Int) (t179 : Int) (t180 : Int) (m1_0 : Int) (m1_1 : Int) (m1_2 : List Int), f64w69 N M (f64s17 num3 den4 out5 piece7 common16 g19 t34 t35 t179 t180 m1_0 m1_1 m1_2) K =
  impl_factors.Z69L N (fun num3 den4 out5 piece7 g19 t34 t35 m1_0 m1_1 m1_2 => K (.exit 8) (f64s18 num3 den4 out5 piece7 g19 t34 t35 m1_0 m1_1 m1_2)) M num3 den4 out5 piece7 common16 g19 t34 t35 t179 t180 m1_0 m1_1 m1_2
  | 0, _, _, _, _, _, _, _, _, _, _, _, _, _ => rfl
  | M + 1, num3, den4, out5, piece7, common16, g19, t34, t35, t179, t180, m1_0, m1_1, m1_2 => viaRound (fun k => impl_factors.Z70 N num3 den4 out5 piece7 common16 g19 t34 t35 t179 t180 m1_0 m1_1 m1_2 k (fun num3 den4 out5 piece7 g19 t34 t35 m1_0 m1_1 m1_2 => K (.exit 8) (f64s18 num3 den4 out5 piece7 g19 t34 t35 m1_0 m1_1 m1_2))) (f64t70 N num3 den4 out5 piece7 common16 g19 t34 t35 t179 t180 m1_0 m1_1 m1_2 (seqK (fun σ => f64w69 N M σ K) K)) (funext fun num3 => funext fun den4 => funext fun out5 => funext fun piece7 => funext fun common16 => funext fun g19 => funext fun t34 => funext fun t35 => funext fun t179 => funext fun t180 => funext fun m1_0 => funext fun m1_1 => funext fun m1_2 => f64t69L N K M num3 den4 out5 piece7 common16 g19 t34 t35 t179 t180 m1_0 m1_1 m1_2) (by kernel_rfl) (by kernel_rfl)
theorem f64t69 {ρ : Type} (N : Nat) (num3 : List Int) (den4 : List Int) (out5 : List Int) (piece7 : List Int) (common16 : Int) (g19 : Int) (t34 : Int) (t35 : Int) (t179 : Int) (t180 : Int) (m1_0 : Int) (m1_1 : Int) (m1_2 : List Int) (K : KT ρ) : f64i N f64c69 f64p69 (f64s17 num3 den4 out5 piece7 common16 g19 t34 t35 t179 t180 m1_0 m1_1 m1_2) (joinK (some f64l18) K) =
  impl_factors.Z69 N num3 den4 out5 piece7 common16 g19 t34 t35 t179 t180 m1_0 m1_1 m1_2 (fun num3 den4 out5 piece7 g19 t34 t35 m1_0 m1_1 m1_2 => K (.exit 8) (f64s18 num3 den4 out5 piece7 g19 t34 t35 m1_0 m1_1 m1_2)) :=
  viaLoop (by kernel_rfl) (by kernel_rfl) (σ' := f64s17 num3 den4 out5 piece7 common16 g19 t34 t35 t179 t180 m1_0 m1_1 m1_2) (by kernel_rfl) (f64t69L N (joinK (some f64l18) K) N num3 den4 out5 piece7 common16 g19 t34 t35 t179 t180 m1_0 m1_1 m1_2) (by kernel_rfl)
noncomputable def f64c68 := codeAt (bodyOf Try.f64) [1,1,1,0,1,0,0,1,1,0,0,1,1,1,1,1,1,1,1,0,1]
noncomputable def f64p68 : Plan := .mk (some f64l18) none f64p69 .n
theorem f64t68 {ρ : Type} (N : Nat) (num3 : List Int) (den4 : List Int) (out5 : List Int) (piece7 : List Int) (common16 : Int) (g19 : Int) (t34 : Int) (t35 : Int) (t179 : Int) (t180 : Int) (m1_0 : Int) (m1_1 : Int) (m1_2 : List Int) (K : KT ρ) : f64i N f64c68 f64p68 (f64s17 num3 den4 out5 piece7 common16 g19 t34 t35 t179 t180 m1_0 m1_1 m1_2) (joinK (some f64l18) K) =
  impl_factors.Z68 N num3 den4 out5 piece7 common16 g19 t34 t35 t179 t180 m1_0 m1_1 m1_2 (fun num3 den4 out5 piece7 g19 t34 t35 m1_0 m1_1 m1_2 => K .nrm (f64s18 num3 den4 out5 piece7 g19 t34 t35 m1_0 m1_1 m1_2)) :=
  viaBlock (by kernel_rfl) (by kernel_rfl) (f64t69 N num3 den4 out5 piece7 common16 g19 t34 t35 t179 t180 m1_0 m1_1 m1_2 (blockK 8 (joinK (some f64l18) K))) (by kernel_rfl)
noncomputable def f64c66 := codeAt (bodyOf Try.f64) [1,1,1,0,1,0,0,1,1,0,0,1,1,1,1,1,1,1,1,0]
noncomputable def f64p66 : Plan := .mk (some f64l17) none .n f64p68
theorem f64t66 {ρ : Type} (N : Nat) (num3 : List Int) (den4 : List Int) (out5 : List Int) (piece7 : List Int) (common16 : Int) (g19 : Int) (t34 : Int) (t35 : Int) (m1_0 : Int) (m1_1 : Int) (m1_2 : List Int) (K : KT ρ) : f64i N f64c66 f64p66 (f64s16 num3 den4 out5 piece7 common16 g19 t34 t35 m1_0 m1_1 m1_2) (joinK (some f64l18) K) =
  impl_factors.Z66 N num3 den4 out5 piece7 common16 g19 t34 t35 m1_0 m1_1 m1_2 (fun num3 den4 out5 piece7 g19 t34 t35 m1_0 m1_1 m1_2 => K .nrm (f64s18 num3 den4 out5 piece7 g19 t34 t35 m1_0 m1_1 m1_2)) :=
  viaSeq (fun k => impl_factors.Z67 N num3 den4 out5 piece7 common16 g19 t34 t35 m1_0 m1_1 m1_2 k) (by kernel_rfl) (by kernel_rfl) (f64t67 N num3 den4 out5 piece7 common16 g19 t34 t35 m1_0 m1_1 m1_2 (seqK (fun σ => f64i N f64c68 f64p68 σ (joinK (some f64l18) K)) (joinK (some f64l18) K))) (funext fun num3 => funext fun den4 => funext fun out5 => funext fun piece7 => funext fun common16 => funext fun g19 => funext fun t34 => funext fun t35 => funext fun t179 => funext fun t180 => funext fun m1_0 => funext fun m1_1 => funext fun m1_2 => f64t68 N num3 den4 out5 piece7 common16 g19 t34 t35 t179 t180 m1_0 m1_1 m1_2 K) (by kernel_rfl) (by kernel_rfl)
noncomputable def f64c72 := codeAt (bodyOf Try.f64) [1,1,1,0,1,0,0,1,1,0,0,1,1,1,1,1,1,1,1,1,0]
theorem f64t72 {ρ : Type} (N : Nat) (num3 : List Int) (den4 : List Int) (out5 : List Int) (piece7 : List Int) (g19 : Int) (t34 : Int) (t35 : Int) (m1_0 : Int) (m1_1 : Int) (m1_2 : List Int) (K : KT ρ) : f64i N f64c72 .n (f64s18 num3 den4 out5 piece7 g19 t34 t35 m1_0 m1_1 m1_2) (joinK (some f64l19) K) =
  impl_factors.Z72 N num3 den4 out5 piece7 g19 t34 t35 m1_0 m1_1 m1_2 (fun num3 den4 out5 t205 g19 t34 t35 t206 t207 m1_0 m1_1 m1_2 => K .nrm (f64s19 num3 den4 out5 t205 g19 t34 t35 t206 t207 m1_0 m1_1 m1_2)) := by kernel_rfl
noncomputable def f64c75 := codeAt (bodyOf Try.f64) [1,1,1,0,1,0,0,1,1,0,0,1,1,1,1,1,1,1,1,1,1,0,0]
theorem f64t75 {ρ : Type} (N : Nat) (num3 : List Int) (den4 : List Int) (out5 : List Int) (t205 : List Int) (g19 : Int) (t34 : Int) (t35 : Int) (t206 : Int) (t207 : Int) (m1_0 : Int) (m1_1 : Int) (m1_2 : List Int) (K : KT ρ) : f64i N f64c75 .n (f64s19 num3 den4 out5 t205 g19 t34 t35 t206 t207 m1_0 m1_1 m1_2) (joinK (some f64l19) K) =
  impl_factors.Z75 N num3 den4 out5 t205 g19 t34 t35 t206 t207 m1_0 m1_1 m1_2 (fun num3 den4 out5 t205 g19 t34 t35 t206 t207 m1_0 m1_1 m1_2 => K .nrm (f64s19 num3 den4 out5 t205 g19 t34 t35 t206 t207 m1_0 m1_1 m1_2)) (fun num3 den4 out5 t34 t35 m1_0 m1_1 m1_2 => K (.exit 10) (f64s4 num3 den4 out5 t34 t35 m1_0 m1_1 m1_2)) := by kernel_rfl
noncomputable def f64c74 := codeAt (bodyOf Try.f64) [1,1,1,0,1,0,0,1,1,0,0,1,1,1,1,1,1,1,1,1,1,0]
noncomputable def f64p74 : Plan := .mk none (some f64l19) .n .n
noncomputable abbrev f64w74 {ρ : Type} (N : Nat) (M : Nat) (σ : St) (K : KT ρ) : Option ρ := loopC (fun σ K => f64i N f64c75 .n σ K) f64l19 M σ K
theorem f64t74L {ρ : Type} (N : Nat) (K : KT ρ) : ∀ (M : Nat) (num3 : List Int) (den4 : List Int) (out5 : List Int) (t205 : List Int) (g19 : Int) (t34 : Int) (t35 : Int) (t206 : Int) (t207 : Int) (m1_0 : Int) (m1_1 : Int) (m1_2 : List Int), f64w74 N M (f64s19 num3 den4 out5 t205 g19 t34 t35 t206 t207 m1_0 m1_1 m1_2) K =
  impl_factors.Z74L N (fun num3 den4 out5 t34 t35 m1_0 m1_1 m1_2 => K (.exit 10) (f64s4 num3 den4 out5 t34 t35 m1_0 m1_1 m1_2)) M num3 den4 out5 t205 g19 t34 t35 t206 t207 m1_0 m1_1 m1_2
  | 0, _, _, _, _, _, _, _, _, _, _, _, _ => rfl
  | M + 1, num3, den4, out5, t205, g19, t34, t35, t206, t207, m1_0, m1_1, m1_2 => viaRound (fun k => impl_factors.Z75 N num3 den4 out5 t205 g19 t34 t35 t206 t207 m1_0 m1_1 m1_2 k (fun num3 den4 out5 t34 t35 m1_0 m1_1 m1_2 => K (.exit 10) (f64s4 num3 den4 out5 t34 t35 m1_0 m1_1 m1_2))) (f64t75 N num3 den4 out5 t205 g19 t34 t35 t206 t207 m1_0 m1_1 m1_2 (seqK (fun σ => f64w74 N M σ K) K)) (funext fun num3 => funext fun den4 => funext fun out5 => funext fun t205 => funext fun g19 => funext fun t34 => funext fun t35 => funext fun t206 => funext fun t207 => funext fun m1_0 => funext fun m1_1 => funext fun m1_2 => f64t74L N K M num3 den4 out5 t205 g19 t34 t35 t206 t207 m1_0 m1_1 m1_2) (by kernel_rfl) (by kernel_rfl)
theorem f64t74 {ρ : Type} (N : Nat) (num3 : List Int) (den4 : List Int) (out5 : List Int) (t205 : List Int) (g19 : Int) (t34 : Int) (t35 : Int) (t206 : Int) (t207 : Int) (m1_0 : Int) (m1_1 : Int) (m1_2 : List Int) (K : KT ρ) : f64i N f64c74 f64p74 (f64s19 num3 den4 out5 t205 g19 t34 t35 t206 t207 m1_0 m1_1 m1_2) (joinK (some f64l4) K) =
  impl_factors.Z74 N num3 den4 out5 t205 g19 t34 t35 t206 t207 m1_0 m1_1 m1_2 (fun num3 den4 out5 t34 t35 m1_0 m1_1 m1_2 => K (.exit 10) (f64s4 num3 den4 out5 t34 t35 m1_0 m1_1 m1_2)) :=
  viaLoop (by kernel_rfl) (by kernel_rfl) (σ' := f64s19 num3 den4 out5 t205 g19 t34 t35 t206 t207 m1_0 m1_1 m1_2) (by kernel_rfl) (f64t74L N (joinK (some f64l4) K) N num3 den4 out5 t205 g19 t34 t35 t206 t207 m1_0 m1_1 m1_2) (by kernel_rfl)
noncomputable def f64c73 := codeAt (bodyOf Try.f64) [1,1,1,0,1,0,0,1,1,0,0,1,1,1,1,1,1,1,1,1,1]
noncomputable def f64p73 : Plan := .mk (some f64l4) none f64p74 .n
theorem f64t73 {ρ : Type} (N : Nat) (num3 : List Int) (den4 : List Int) (out5 : List Int) (t205 : List Int) (g19 : Int) (t34 : Int) (t35 : Int) (t206 : Int) (t207 : Int) (m1_0 : Int) (m1_1 : Int) (m1_2 : List Int) (K : KT ρ) : f64i N f64c73 f64p73 (f64s19 num3 den4 out5 t205 g19 t34 t35 t206 t207 m1_0 m1_1 m1_2) (joinK (some f64l4) K) =
  impl_factors.Z73 N num3 den4 out5 t205 g19 t34 t35 t206 t207 m1_0 m1_1 m1_2 (fun num3 den4 out5 t34 t35 m1_0 m1_1 m1_2 => K .nrm (f64s4 num3 den4 out5 t34 t35 m1_0 m1_1 m1_2)) :=
  viaBlock (by kernel_rfl) (by kernel_rfl) (f64t74 N num3 den4 out5 t205 g19 t34 t35 t206 t207 m1_0 m1_1 m1_2 (blockK 10 (joinK (some f64l4) K))) (by kernel_rfl)
noncomputable def f64c71 := codeAt (bodyOf Try.f64) [1,1,1,0,1,0,0,1,1,0,0,1,1,1,1,1,1,1,1,1]
noncomputable def f64p71 : Plan := .mk (some f64l19) none .n f64p73
theorem f64t71 {ρ : Type} (N : Nat) (num3 : List Int) (den4 : List Int) (out5 : List Int) (piece7 : List Int) (g19 : Int) (t34 : Int) (t35 : Int) (m1_0 : Int) (m1_1 : Int) (m1_2 : List Int) (K : KT ρ) : f64i N f64c71 f64p71 (f64s18 num3 den4 out5 piece7 g19 t34 t35 m1_0 m1_1 m1_2) (joinK (some f64l4) K) =
  impl_factors.Z71 N num3 den4 out5 piece7 g19 t34 t35 m1_0 m1_1 m1_2 (fun num3 den4 out5 t34 t35 m1_0 m1_1 m1_2 => K .nrm (f64s4 num3 den4 out5 t34 t35 m1_0 m1_1 m1_2)) :=
  viaSeq (fun k => impl_factors.Z72 N num3 den4 out5 piece7 g19 t34 t35 m1_0 m1_1 m1_2 k) (by kernel_rfl) (by kernel_rfl) (f64t72 N num3 den4 out5 piece7 g19 t34 t35 m1_0 m1_1 m1_2 (seqK (fun σ => f64i N f64c73 f64p73 σ (joinK (some f64l4) K)) (joinK (some f64l4) K))) (funext fun num3 => funext fun den4 => funext fun out5 => funext fun t205 => funext fun g19 => funext fun t34 => funext fun t35 => funext fun t206 => funext fun t207 => funext fun m1_0 => funext fun m1_1 => funext fun m1_2 => f64t73 N num3 den4 out5 t205 g19 t34 t35 t206 t207 m1_0 m1_1 m1_2 K) (by kernel_rfl) (by kernel_rfl)
noncomputable def f64c65 := codeAt (bodyOf Try.f64) [1,1,1,0,1,0,0,1,1,0,0,1,1,1,1,1,1,1,1]
noncomputable def f64p65 : Plan := .mk (some f64l18) none f64p66 f64p71
theorem f64t65 {ρ : Type} (N : Nat) (num3 : List Int) (den4 : List Int) (out5 : List Int) (piece7 : List Int) (common16 : Int) (g19 : Int) (t34 : Int) (t35 : Int) (m1_0 : Int) (m1_1 : Int) (m1_2 : List Int) (K : KT ρ) : f64i N f64c65 f64p65 (f64s16 num3 den4 out5 piece7 common16 g19 t34 t35 m1_0 m1_1 m1_2) (joinK (some f64l4) K) =
  impl_factors.Z65 N num3 den4 out5 piece7 common16 g19 t34 t35 m1_0 m1_1 m1_2 (fun num3 den4 out5 t34 t35 m1_0 m1_1 m1_2 => K .nrm (f64s4 num3 den4 out5 t34 t35 m1_0 m1_1 m1_2)) :=
  viaSeq (fun k => impl_factors.Z66 N num3 den4 out5 piece7 common16 g19 t34 t35 m1_0 m1_1 m1_2 k) (by kernel_rfl) (by kernel_rfl) (f64t66 N num3 den4 out5 piece7 common16 g19 t34 t35 m1_0 m1_1 m1_2 (seqK (fun σ => f64i N f64c71 f64p71 σ (joinK (some f64l4) K)) (joinK (some f64l4) K))) (funext fun num3 => funext fun den4 => funext fun out5 => funext fun piece7 => funext fun g19 => funext fun t34 => funext fun t35 => funext fun m1_0 => funext fun m1_1 => funext fun m1_2 => f64t71 N num3 den4 out5 piece7 g19 t34 t35 m1_0 m1_1 m1_2 K) (by kernel_rfl) (by kernel_rfl)
noncomputable def f64c63 := codeAt (bodyOf Try.f64) [1,1,1,0,1,0,0,1,1,0,0,1,1,1,1,1,1,1]
noncomputable def f64p63 : Plan := .mk (some f64l16) none .n f64p65
theorem f64t63 {ρ : Type} (N : Nat) (num3 : List Int) (den4 : List Int) (out5 : List Int) (piece7 : List Int) (common16 : Int) (t34 : Int) (t35 : Int) (m1_0 : Int) (m1_1 : Int) (m1_2 : List Int) (K : KT ρ) : f64i N f64c63 f64p63 (f64s14 num3 den4 out5 piece7 common16 t34 t35 m1_0 m1_1 m1_2) (joinK (some f64l4) K) =
  impl_factors.Z63 N num3 den4 out5 piece7 common16 t34 t35 m1_0 m1_1 m1_2 (fun num3 den4 out5 t34 t35 m1_0 m1_1 m1_2 => K .nrm (f64s4 num3 den4 out5 t34 t35 m1_0 m1_1 m1_2)) :=
  viaSeq (fun k => impl_factors.Z64 N num3 den4 out5 piece7 common16 t34 t35 m1_0 m1_1 m1_2 k) (by kernel_rfl) (by kernel_rfl) (f64t64 N num3 den4 out5 piece7 common16 t34 t35 m1_0 m1_1 m1_2 (seqK (fun σ => f64i N f64c65 f64p65 σ (joinK (some f64l4) K)) (joinK (some f64l4) K))) (funext fun num3 => funext fun den4 => funext fun out5 => funext fun piece7 => funext fun common16 => funext fun g19 => funext fun t34 => funext fun t35 => funext fun m1_0 => funext fun m1_1 => funext fun m1_2 => f64t65 N num3 den4 out5 piece7 common16 g19 t34 t35 m1_0 m1_1 m1_2 K) (by kernel_rfl) (by kernel_rfl)
noncomputable def f64c57 := codeAt (bodyOf Try.f64) [1,1,1,0,1,0,0,1,1,0,0,1,1,1,1,1,1]
noncomputable def f64p57 : Plan := .mk (some f64l14) none f64p58 f64p63
theorem f64t57 {ρ : Type} (N : Nat) (num3 : List Int) (den4 : List Int) (out5 : List Int) (piece7 : List Int) (common16 : Int) (t34 : Int) (t35 : Int) (m1_0 : Int) (m1_1 : Int) (m1_2 : List Int) (K : KT ρ) : f64i N f64c57 f64p57 (f64s14 num3 den4 out5 piece7 common16 t34 t35 m1_0 m1_1 m1_2) (joinK (some f64l4) K) =
  impl_factors.Z57 N num3 den4 out5 piece7 common16 t34 t35 m1_0 m1_1 m1_2 (fun num3 den4 out5 t34 t35 m1_0 m1_1 m1_2 => K .nrm (f64s4 num3 den4 out5 t34 t35 m1_0 m1_1 m1_2)) :=
  viaSeq (fun k => impl_factors.Z58 N num3 den4 out5 piece7 common16 t34 t35 m1_0 m1_1 m1_2 k) (by kernel_rfl) (by kernel_rfl) (f64t58 N num3 den4 out5 piece7 common16 t34 t35 m1_0 m1_1 m1_2 (seqK (fun σ => f64i N f64c63 f64p63 σ (joinK (some f64l4) K)) (joinK (some f64l4) K))) (funext fun num3 => funext fun den4 => funext fun out5 => funext fun piece7 => funext fun common16 => funext fun t34 => funext fun t35 => funext fun m1_0 => funext fun m1_1 => funext fun m1_2 => f64t63 N num3 den4 out5 piece7 common16 t34 t35 m1_0 m1_1 m1_2 K) (by kernel_rfl) (by kernel_rfl)
noncomputable def f64c55 := codeAt (bodyOf Try.f64) [1,1,1,0,1,0,0,1,1,0,0,1,1,1,1,1]
noncomputable def f64p55 : Plan := .mk (some f64l14) none .n f64p57
theorem f64t55 {ρ : Type} (N : Nat) (num3 : List Int) (den4 : List Int) (out5 : List Int) (piece7 : List Int) (t34 : Int) (t35 : Int) (m1_0 : Int) (m1_1 : Int) (m1_2 : List Int) (K : KT ρ) : f64i N f64c55 f64p55 (f64s7 num3 den4 out5 piece7 t34 t35 m1_0 m1_1 m1_2) (joinK (some f64l4) K) =
  impl_factors.Z55 N num3 den4 out5 piece7 t34 t35 m1_0 m1_1 m1_2 (fun num3 den4 out5 t34 t35 m1_0 m1_1 m1_2 => K .nrm (f64s4 num3 den4 out5 t34 t35 m1_0 m1_1 m1_2)) :=
  viaSeq (fun k => impl_factors.Z56 N num3 den4 out5 piece7 t34 t35 m1_0 m1_1 m1_2 k) (by kernel_rfl) (by kernel_rfl) (f64t56 N num3 den4 out5 piece7 t34 t35 m1_0 m1_1 m1_2 (seqK (fun σ => f64i N f64c57 f64p57 σ (joinK (some f64l4) K)) (joinK (some f64l4) K))) (funext fun num3 => funext fun den4 => funext fun out5 => funext fun piece7 => funext fun common16 => funext fun t34 => funext fun t35 => funext fun m1_0 => funext fun m1_1 => funext fun m1_2 => f64t57 N num3 den4 out5 piece7 common16 t34 t35 m1_0 m1_1 m1_2 K) (by kernel_rfl) (by kernel_rfl)
noncomputable def f64c25 := codeAt (bodyOf Try.f64) [1,1,1,0,1,0,0,1,1,0,0,1,1,1,1]
noncomputable def f64p25 : Plan := .mk (some f64l7) none f64p26 f64p55
theorem f64t25 {ρ : Type} (N : Nat) (num3 : List Int) (den4 : List Int) (out5 : List Int) (piece7 : List Int) (t34 : Int) (t35 : Int) (m1_0 : Int) (m1_1 : Int) (m1_2 : List Int) (K : KT ρ) : f64i N f64c25 f64p25 (f64s7 num3 den4 out5 piece7 t34 t35 m1_0 m1_1 m1_2) (joinK (some f64l4) K) =
  impl_factors.Z25 N num3 den4 out5 piece7 t34 t35 m1_0 m1_1 m1_2 (fun num3 den4 out5 t34 t35 m1_0 m1_1 m1_2 => K .nrm (f64s4 num3 den4 out5 t34 t35 m1_0 m1_1 m1_2)) (fun t2 => K .ret (f64s21 t2)) :=
  viaSeq (fun k => impl_factors.Z26 N num3 den4 out5 piece7 t34 t35 m1_0 m1_1 m1_2 k (fun t2 => K .ret (f64s21 t2))) (by kernel_rfl) (by kernel_rfl) (f64t26 N num3 den4 out5 piece7 t34 t35 m1_0 m1_1 m1_2 (seqK (fun σ => f64i N f64c55 f64p55 σ (joinK (some f64l4) K)) (joinK (some f64l4) K))) (funext fun num3 => funext fun den4 => funext fun out5 => funext fun piece7 => funext fun t34 => funext fun t35 => funext fun m1_0 => funext fun m1_1 => funext fun m1_2 => f64t55 N num3 den4 out5 piece7 t34 t35 m1_0 m1_1 m1_2 K) (by kernel_rfl) (by kernel_rfl)
noncomputable def f64c23 := codeAt (bodyOf Try.f64) [1,1,1,0,1,0,0,1,1,0,0,1,1,1]
noncomputable def f64p23 : Plan := .mk (some f64l7) none .n f64p25
theorem f64t23 {ρ : Type} (N : Nat) (num3 : List Int) (den4 : List Int) (out5 : List Int) (s6 : Int) (t34 : Int) (t35 : Int) (m1_0 : Int) (m1_1 : Int) (m1_2 : List Int) (K : KT ρ) : f64i N f64c23 f64p23 (f64s6 num3 den4 out5 s6 t34 t35 m1_0 m1_1 m1_2) (joinK (some f64l4) K) =
  impl_factors.Z23 N num3 den4 out5 s6 t34 t35 m1_0 m1_1 m1_2 (fun num3 den4 out5 t34 t35 m1_0 m1_1 m1_2 => K .nrm (f64s4 num3 den4 out5 t34 t35 m1_0 m1_1 m1_2)) (fun t2 => K .ret (f64s21 t2)) :=
  viaSeq (fun k => impl_factors.Z24 N num3 den4 out5 s6 t34 t35 m1_0 m1_1 m1_2 k) (by kernel_rfl) (by kernel_rfl) (f64t24 N num3 den4 out5 s6 t34 t35 m1_0 m1_1 m1_2 (seqK (fun σ => f64i N f64c25 f64p25 σ (joinK (some f64l4) K)) (joinK (some f64l4) K))) (funext fun num3 => funext fun den4 => funext fun out5 => funext fun piece7 => funext fun t34 => funext fun t35 => funext fun m1_0 => funext fun m1_1 => funext fun m1_2 => f64t25 N num3 den4 out5 piece7 t34 t35 m1_0 m1_1 m1_2 K) (by kernel_rfl) (by kernel_rfl)
noncomputable def f64c21 := codeAt (bodyOf Try.f64) [1,1,1,0,1,0,0,1,1,0,0,1,1]
noncomputable def f64p21 : Plan := .mk (some f64l6) none .n f64p23
theorem f64t21 {ρ : Type} (N : Nat) (num3 : List Int) (den4 : List Int) (out5 : List Int) (s6 : Int) (t34 : Int) (t35 : Int) (m1_0 : Int) (m1_1 : Int) (m1_2 : List Int) (K : KT ρ) : f64i N f64c21 f64p21 (f64s6 num3 den4 out5 s6 t34 t35 m1_0 m1_1 m1_2) (joinK (some f64l4) K) =
  impl_factors.Z21 N num3 den4 out5 s6 t34 t35 m1_0 m1_1 m1_2 (fun num3 den4 out5 t34 t35 m1_0 m1_1 m1_2 => K .nrm (f64s4 num3 den4 out5 t34 t35 m1_0 m1_1 m1_2)) (fun t2 => K .ret (f64s21 t2)) :=
  viaSeq (fun k => impl_factors.Z22 N num3 den4 out5 s6 t34 t35 m1_0 m1_1 m1_2 k) (by kernel_rfl) (by kernel_rfl) (f64t22 N num3 den4 out5 s6 t34 t35 m1_0 m1_1 m1_2 (seqK (fun σ => f64i N f64c23 f64p23 σ (joinK (some f64l4) K)) (joinK (some f64l4) K))) (funext fun num3 => funext fun den4 => funext fun out5 => funext fun s6 => funext fun t34 => funext fun t35 => funext fun m1_0 => funext fun m1_1 => funext fun m1_2 => f64t23 N num3 den4 out5 s6 t34 t35 m1_0 m1_1 m1_2 K) (by kernel_rfl) (by kernel_rfl)
noncomputable def f64c19 := codeAt (bodyOf Try.f64) [1,1,1,0,1,0,0,1,1,0,0,1]
noncomputable def f64p19 : Plan := .mk (some f64l6) none .n f64p21
theorem f64t19 {ρ : Type} (N : Nat) (num3 : List Int) (den4 : List Int) (out5 : List Int) (s6 : Int) (t34 : Int) (t35 : Int) (m1_0 : Int) (m1_1 : Int) (m1_2 : List Int) (K : KT ρ) : f64i N f64c19 f64p19 (f64s6 num3 den4 out5 s6 t34 t35 m1_0 m1_1 m1_2) (joinK (some f64l4) K) =
  impl_factors.Z19 N num3 den4 out5 s6 t34 t35 m1_0 m1_1 m1_2 (fun num3 den4 out5 t34 t35 m1_0 m1_1 m1_2 => K .nrm (f64s4 num3 den4 out5 t34 t35 m1_0 m1_1 m1_2)) (fun num3 den4 out5 t34 t35 m1_0 m1_1 m1_2 => K (.exit 1) (f64s4 num3 den4 out5 t34 t35 m1_0 m1_1 m1_2)) (fun t2 => K .ret (f64s21 t2)) :=
  viaSeq (fun k => impl_factors.Z20 N num3 den4 out5 s6 t34 t35 m1_0 m1_1 m1_2 k (fun num3 den4 out5 t34 t35 m1_0 m1_1 m1_2 => K (.exit 1) (f64s4 num3 den4 out5 t34 t35 m1_0 m1_1 m1_2))) (by kernel_rfl) (by kernel_rfl) (f64t20 N num3 den4 out5 s6 t34 t35 m1_0 m1_1 m1_2 (seqK (fun σ => f64i N f64c21 f64p21 σ (joinK (some f64l4) K)) (joinK (some f64l4) K))) (funext fun num3 => funext fun den4 => funext fun out5 => funext fun s6 => funext fun t34 => funext fun t35 => funext fun m1_0 => funext fun m1_1 => funext fun m1_2 => f64t21 N num3 den4 out5 s6 t34 t35 m1_0 m1_1 m1_2 K) (by kernel_rfl) (by kernel_rfl)
noncomputable def f64c17 := codeAt (bodyOf Try.f64) [1,1,1,0,1,0,0,1,1,0,0]
noncomputable def f64p17 : Plan := .mk (some f64l6) none .n f64p19
theorem f64t17 {ρ : Type} (N : Nat) (num3 : List Int) (den4 : List Int) (out5 : List Int) (t34 : Int) (t35 : Int) (m1_0 : Int) (m1_1 : Int) (m1_2 : List Int) (K : KT ρ) : f64i N f64c17 f64p17 (f64s4 num3 den4 out5 t34 t35 m1_0 m1_1 m1_2) (joinK (some f64l4) K) =
  impl_factors.Z17 N num3 den4 out5 t34 t35 m1_0 m1_1 m1_2 (fun num3 den4 out5 t34 t35 m1_0 m1_1 m1_2 => K .nrm (f64s4 num3 den4 out5 t34 t35 m1_0 m1_1 m1_2)) (fun num3 den4 out5 t34 t35 m1_0 m1_1 m1_2 => K (.exit 1) (f64s4 num3 den4 out5 t34 t35 m1_0 m1_1 m1_2)) (fun t2 => K .ret (f64s21 t2)) :=
  viaSeq (fun k => impl_factors.Z18 N num3 den4 out5 t34 t35 m1_0 m1_1 m1_2 k) (by kernel_rfl) (by kernel_rfl) (f64t18 N num3 den4 out5 t34 t35 m1_0 m1_1 m1_2 (seqK (fun σ => f64i N f64c19 f64p19 σ (joinK (some f64l4) K)) (joinK (some f64l4) K))) (funext fun num3 => funext fun den4 => funext fun out5 => funext fun s6 => funext fun t34 => funext fun t35 => funext fun m1_0 => funext fun m1_1 => funext fun m1_2 => f64t19 N num3 den4 out5 s6 t34 t35 m1_0 m1_1 m1_2 K) (by kernel_rfl) (by kernel_rfl)
noncomputable def f64c16 := codeAt (bodyOf Try.f64) [1,1,1,0,1,0,0,1,1,0]
noncomputable def f64p16 : Plan := .mk (some f64l4) none f64p17 .n
theorem f64t16 {ρ : Type} (N : Nat) (num3 : List Int) (den4 : List Int) (out5 : List Int) (t34 : Int) (t35 : Int) (m1_0 : Int) (m1_1 : Int) (m1_2 : List Int) (K : KT ρ) : f64i N f64c16 f64p16 (f64s4 num3 den4 out5 t34 t35 m1_0 m1_1 m1_2) (joinK (some f64l4) K) =
  impl_factors.Z16 N num3 den4 out5 t34 t35 m1_0 m1_1 m1_2 (fun num3 den4 out5 t34 t35 m1_0 m1_1 m1_2 => K .nrm (f64s4 num3 den4 out5 t34 t35 m1_0 m1_1 m1_2)) (fun t2 => K .ret (f64s21 t2)) :=
  viaBlock (by kernel_rfl) (by kernel_rfl) (f64t17 N num3 den4 out5 t34 t35 m1_0 m1_1 m1_2 (blockK 1 (joinK (some f64l4) K))) (by kernel_rfl)
noncomputable def f64c76 := codeAt (bodyOf Try.f64) [1,1,1,0,1,0,0,1,1,1]
theorem f64t76 {ρ : Type} (N : Nat) (num3 : List Int) (den4 : List Int) (out5 : List Int) (t34 : Int) (t35 : Int) (m1_0 : Int) (m1_1 : Int) (m1_2 : List Int) (K : KT ρ) : f64i N f64c76 .n (f64s4 num3 den4 out5 t34 t35 m1_0 m1_1 m1_2) (joinK (some f64l4) K) =
  impl_factors.Z76 N num3 den4 out5 t34 t35 m1_0 m1_1 m1_2 (fun num3 den4 out5 t34 t35 m1_0 m1_1 m1_2 => K .nrm (f64s4 num3 den4 out5 t34 t35 m1_0 m1_1 m1_2)) := by kernel_rfl
noncomputable def f64c15 := codeAt (bodyOf Try.f64) [1,1,1,0,1,0,0,1,1]
noncomputable def f64p15 : Plan := .mk (some f64l4) none f64p16 .n
theorem f64t15 {ρ : Type} (N : Nat) (num3 : List Int) (den4 : List Int) (out5 : List Int) (t34 : Int) (t35 : Int) (m1_0 : Int) (m1_1 : Int) (m1_2 : List Int) (K : KT ρ) : f64i N f64c15 f64p15 (f64s4 num3 den4 out5 t34 t35 m1_0 m1_1 m1_2) (joinK (some f64l4) K) =
  impl_factors.Z15 N num3 den4 out5 t34 t35 m1_0 m1_1 m1_2 (fun num3 den4 out5 t34 t35 m1_0 m1_1 m1_2 => K .nrm (f64s4 num3 den4 out5 t34 t35 m1_0 m1_1 m1_2)) (fun t2 => K .ret (f64s21 t2)) :=
  viaSeq (fun k => impl_factors.Z16 N num3 den4 out5 t34 t35 m1_0 m1_1 m1_2 k (fun t2 => K .ret (f64s21 t2))) (by kernel_rfl) (by kernel_rfl) (f64t16 N num3 den4 out5 t34 t35 m1_0 m1_1 m1_2 (seqK (fun σ => f64i N f64c76 .n σ (joinK (some f64l4) K)) (joinK (some f64l4) K))) (funext fun num3 => funext fun den4 => funext fun out5 => funext fun t34 => funext fun t35 => funext fun m1_0 => funext fun m1_1 => funext fun m1_2 => f64t76 N num3 den4 out5 t34 t35 m1_0 m1_1 m1_2 K) (by kernel_rfl) (by kernel_rfl)
noncomputable def f64c13 := codeAt (bodyOf Try.f64) [1,1,1,0,1,0,0,1]
noncomputable def f64p13 : Plan := .mk (some f64l4) none .n f64p15
theorem f64t13 {ρ : Type} (N : Nat) (num3 : List Int) (den4 : List Int) (out5 : List Int) (t34 : Int) (t35 : Int) (t36 : Bool) (m1_0 : Int) (m1_1 : Int) (m1_2 : List Int) (K : KT ρ) : f64i N f64c13 f64p13 (f64s5 num3 den4 out5 t34 t35 t36 m1_0 m1_1 m1_2) (joinK (some f64l4) K) =
  impl_factors.Z13 N num3 den4 out5 t34 t35 t36 m1_0 m1_1 m1_2 (fun num3 den4 out5 t34 t35 m1_0 m1_1 m1_2 => K .nrm (f64s4 num3 den4 out5 t34 t35 m1_0 m1_1 m1_2)) (fun out5 => K (.exit 0) (f64s20 out5)) (fun t2 => K .ret (f64s21 t2)) :=
  viaSeq (fun k => impl_factors.Z14 N num3 den4 out5 t34 t35 t36 m1_0 m1_1 m1_2 k (fun out5 => K (.exit 0) (f64s20 out5))) (by kernel_rfl) (by kernel_rfl) (f64t14 N num3 den4 out5 t34 t35 t36 m1_0 m1_1 m1_2 (seqK (fun σ => f64i N f64c15 f64p15 σ (joinK (some f64l4) K)) (joinK (some f64l4) K))) (funext fun num3 => funext fun den4 => funext fun out5 => funext fun t34 => funext fun t35 => funext fun m1_0 => funext fun m1_1 => funext fun m1_2 => f64t15 N num3 den4 out5 t34 t35 m1_0 m1_1 m1_2 K) (by kernel_rfl) (by kernel_rfl)
noncomputable def f64c11 := codeAt (bodyOf Try.f64) [1,1,1,0,1,0,0]
noncomputable def f64p11 : Plan := .mk (some f64l5) none .n f64p13
theorem f64t11 {ρ : Type} (N : Nat) (num3 : List Int) (den4 : List Int) (out5 : List Int) (t34 : Int) (t35 : Int) (m1_0 : Int) (m1_1 : Int) (m1_2 : List Int) (K : KT ρ) : f64i N f64c11 f64p11 (f64s4 num3 den4 out5 t34 t35 m1_0 m1_1 m1_2) (joinK (some f64l4) K) =
  impl_factors.Z11 N num3 den4 out5 t34 t35 m1_0 m1_1 m1_2 (fun num3 den4 out5 t34 t35 m1_0 m1_1 m1_2 => K .nrm (f64s4 num3 den4 out5 t34 t35 m1_0 m1_1 m1_2)) (fun out5 => K (.exit 0) (f64s20 out5)) (fun t2 => K .ret (f64s21 t2)) :=
  viaSeq (fun k => impl_factors.Z12 N num3 den4 out5 t34 t35 m1_0 m1_1 m1_2 k) (by kernel_rfl) (by kernel_rfl) (f64t12 N num3 den4 out5 t34 t35 m1_0 m1_1 m1_2 (seqK (fun σ => f64i N f64c13 f64p13 σ (joinK (some f64l4) K)) (joinK (some f64l4) K))) (funext fun num3 => funext fun den4 => funext fun out5 => funext fun t34 => funext fun t35 => funext fun t36 => funext fun m1_0 => funext fun m1_1 => funext fun m1_2 => f64t13 N num3 den4 out5 t34 t35 t36 m1_0 m1_1 m1_2 K) (by kernel_rfl) (by kernel_rfl)
noncomputable def f64c10 := codeAt (bodyOf Try.f64) [1,1,1,0,1,0]
noncomputable def f64p10 : Plan := .mk none (some f64l4) f64p11 .n
noncomputable abbrev f64w10 {ρ : Type} (N : Nat) (M : Nat) (σ : St) (K : KT ρ) : Option ρ := loopC (fun σ K => f64i N f64c11 f64p11 σ K) f64l4 M σ K
theorem f64t10L {ρ : Type} (N : Nat) (K : KT ρ) : ∀ (M : Nat) (num3 : List Int) (den4 : List Int) (out5 : List Int) (t34 : Int) (t35 : Int) (m1_0 : Int) (m1_1 : Int) (m1_2 : List Int), f64w10 N M (f64s4 num3 den4 out5 t34 t35 m1_0 m1_1 m1_2) K =
  impl_factors.Z10L N (fun out5 => K (.exit 0) (f64s20 out5)) (fun t2 => K .ret (f64s21 t2)) M num3 den4 out5 t34 t35 m1_0 m1_1 m1_2
  | 0, _, _, _, _, _, _, _, _ => rfl
  | M + 1, num3, den4, out5, t34, t35, m1_0, m1_1, m1_2 => viaRound (fun k => impl_factors.Z11 N num3 den4 out5 t34 t35 m1_0 m1_1 m1_2 k (fun out5 => K (.exit 0) (f64s20 out5)) (fun t2 => K .ret (f64s21 t2))) (f64t11 N num3 den4 out5 t34 t35 m1_0 m1_1 m1_2 (seqK (fun σ => f64w10 N M σ K) K)) (funext fun num3 => funext fun den4 => funext fun out5 => funext fun t34 => funext fun t35 => funext fun m1_0 => funext fun m1_1 => funext fun m1_2 => f64t10L N K M num3 den4 out5 t34 t35 m1_0 m1_1 m1_2) (by kernel_rfl) (by kernel_rfl)
theorem f64t10 {ρ : Type} (N : Nat) (num3 : List Int) (den4 : List Int) (out5 : List Int) (t34 : Int) (t35 : Int) (m1_0 : Int) (m1_1 : Int) (m1_2 : List Int) (K : KT ρ) : f64i N f64c10 f64p10 (f64s4 num3 den4 out5 t34 t35 m1_0 m1_1 m1_2) (joinK (some f64l20) K) =
  impl_factors.Z10 N num3 den4 out5 t34 t35 m1_0 m1_1 m1_2 (fun out5 => K (.exit 0) (f64s20 out5)) (fun t2 => K .ret (f64s21 t2)) :=
  viaLoop (by kernel_rfl) (by kernel_rfl) (σ' := f64s4 num3 den4 out5 t34 t35 m1_0 m1_1 m1_2) (by kernel_rfl) (f64t10L N (joinK (some f64l20) K) N num3 den4 out5 t34 t35 m1_0 m1_1 m1_2) (by kernel_rfl)
noncomputable def f64c9 := codeAt (bodyOf Try.f64) [1,1,1,0,1]
noncomputable def f64p9 : Plan := .mk (some f64l20) none f64p10 .n
theorem f64t9 {ρ : Type} (N : Nat) (num3 : List Int) (den4 : List Int) (out5 : List Int) (t34 : Int) (t35 : Int) (m1_0 : Int) (m1_1 : Int) (m1_2 : List Int) (K : KT ρ) : f64i N f64c9 f64p9 (f64s4 num3 den4 out5 t34 t35 m1_0 m1_1 m1_2) (joinK (some f64l20) K) =
  impl_factors.Z9 N num3 den4 out5 t34 t35 m1_0 m1_1 m1_2 (fun out5 => K .nrm (f64s20 out5)) (fun t2 => K .ret (f64s21 t2)) :=
  viaBlock (by kernel_rfl) (by kernel_rfl) (f64t10 N num3 den4 out5 t34 t35 m1_0 m1_1 m1_2 (blockK 0 (joinK (some f64l20) K))) (by kernel_rfl)
noncomputable def f64c7 := codeAt (bodyOf Try.f64) [1,1,1,0]
noncomputable def f64p7 : Plan := .mk (some f64l4) none .n f64p9
theorem f64t7 {ρ : Type} (N : Nat) (num3 : List Int) (den4 : List Int) (out5 : List Int) (m1_0 : Int) (m1_1 : Int) (m1_2 : List Int) (K : KT ρ) : f64i N f64c7 f64p7 (f64s3 num3 den4 out5 m1_0 m1_1 m1_2) (joinK (some f64l20) K) =
  impl_factors.Z7 N num3 den4 out5 m1_0 m1_1 m1_2 (fun out5 => K .nrm (f64s20 out5)) (fun t2 => K .ret (f64s21 t2)) :=
  viaSeq (fun k => impl_factors.Z8 N num3 den4 out5 m1_0 m1_1 m1_2 k) (by kernel_rfl) (by kernel_rfl) (f64t8 N num3 den4 out5 m1_0 m1_1 m1_2 (seqK (fun σ => f64i N f64c9 f64p9 σ (joinK (some f64l20) K)) (joinK (some f64l20) K))) (funext fun num3 => funext fun den4 => funext fun out5 => funext fun t34 => funext fun t35 => funext fun m1_0 => funext fun m1_1 => funext fun m1_2 => f64t9 N num3 den4 out5 t34 t35 m1_0 m1_1 m1_2 K) (by kernel_rfl) (by kernel_rfl)
noncomputable def f64c77 := codeAt (bodyOf Try.f64) [1,1,1,1]
theorem f64t77 {ρ : Type} (N : Nat) (out5 : List Int) (K : KT ρ) : f64i N f64c77 .n (f64s20 out5) (joinK (some f64lE) K) =
  impl_factors.Z77 N out5 (fun t2 => K .ret (f64s21 t2)) := by kernel_rfl
noncomputable def f64c6 := codeAt (bodyOf Try.f64) [1,1,1]
noncomputable def f64p6 : Plan := .mk (some f64l20) none f64p7 .n
theorem f64t6 {ρ : Type} (N : Nat) (num3 : List Int) (den4 : List Int) (out5 : List Int) (m1_0 : Int) (m1_1 : Int) (m1_2 : List Int) (K : KT ρ) : f64i N f64c6 f64p6 (f64s3 num3 den4 out5 m1_0 m1_1 m1_2) (joinK (some f64lE) K) =
  impl_factors.Z6 N num3 den4 out5 m1_0 m1_1 m1_2 (fun t2 => K .ret (f64s21 t2)) :=
  viaSeq (fun k => impl_factors.Z7 N num3 den4 out5 m1_0 m1_1 m1_2 k (fun t2 => K .ret (f64s21 t2))) (by kernel_rfl) (by kernel_rfl) (f64t7 N num3 den4 out5 m1_0 m1_1 m1_2 (seqK (fun σ => f64i N f64c77 .n σ (joinK (some f64lE) K)) (joinK (some f64lE) K))) (funext fun out5 => f64t77 N out5 K) (by kernel_rfl) (by kernel_rfl)
noncomputable def f64c4 := codeAt (bodyOf Try.f64) [1,1]
noncomputable def f64p4 : Plan := .mk (some f64l3) none .n f64p6
theorem f64t4 {ρ : Type} (N : Nat) (num3 : List Int) (den4 : List Int) (m1_0 : Int) (m1_1 : Int) (m1_2 : List Int) (K : KT ρ) : f64i N f64c4 f64p4 (f64s2 num3 den4 m1_0 m1_1 m1_2) (joinK (some f64lE) K) =
  impl_factors.Z4 N num3 den4 m1_0 m1_1 m1_2 (fun t2 => K .ret (f64s21 t2)) :=
  viaSeq (fun k => impl_factors.Z5 N num3 den4 m1_0 m1_1 m1_2 k) (by kernel_rfl) (by kernel_rfl) (f64t5 N num3 den4 m1_0 m1_1 m1_2 (seqK (fun σ => f64i N f64c6 f64p6 σ (joinK (some f64lE) K)) (joinK (some f64lE) K))) (funext fun num3 => funext fun den4 => funext fun out5 => funext fun m1_0 => funext fun m1_1 => funext fun m1_2 => f64t6 N num3 den4 out5 m1_0 m1_1 m1_2 K) (by kernel_rfl) (by kernel_rfl)
noncomputable def f64c2 := codeAt (bodyOf Try.f64) [1]
noncomputable def f64p2 : Plan := .mk (some f64l2) none .n f64p4
theorem f64t2 {ρ : Type} (N : Nat) (m1_0 : Int) (m1_1 : Int) (m1_2 : List Int) (K : KT ρ) : f64i N f64c2 f64p2 (f64s1 m1_0 m1_1 m1_2) (joinK (some f64lE) K) =
  impl_factors.Z2 N m1_0 m1_1 m1_2 (fun t2 => K .ret (f64s21 t2)) :=
  viaSeq (fun k => impl_factors.Z3 N m1_0 m1_1 m1_2 k) (by kernel_rfl) (by kernel_rfl) (f64t3 N m1_0 m1_1 m1_2 (seqK (fun σ => f64i N f64c4 f64p4 σ (joinK (some f64lE) K)) (joinK (some f64lE) K))) (funext fun num3 => funext fun den4 => funext fun m1_0 => funext fun m1_1 => funext fun m1_2 => f64t4 N num3 den4 m1_0 m1_1 m1_2 K) (by kernel_rfl) (by kernel_rfl)
noncomputable def f64c0 := codeAt (bodyOf Try.f64) []
noncomputable def f64p0 : Plan := .mk (some f64l1) none .n f64p2
theorem f64t0 {ρ : Type} (N : Nat) (m0 : Int × Int × List Int) (K : KT ρ) : f64i N f64c0 f64p0 (f64s0 m0) (joinK (some f64lE) K) =
  impl_factors.Z0 N m0 (fun t2 => K .ret (f64s21 t2)) :=
  viaSeq (fun k => impl_factors.Z1 N m0 k) (by kernel_rfl) (by kernel_rfl) (f64t1 N m0 (seqK (fun σ => f64i N f64c2 f64p2 σ (joinK (some f64lE) K)) (joinK (some f64lE) K))) (funext fun m1_0 => funext fun m1_1 => funext fun m1_2 => f64t2 N m1_0 m1_1 m1_2 K) (by kernel_rfl) (by kernel_rfl)
theorem f64m (N : Nat) (m0 : Int × Int × List Int) : f64i N f64c0 f64p0 (f64s0 m0) (joinK (some f64lE) (finK tab f64sig Try.f64.results.toList)) = impl_factors.Z0 N m0 (fun t2 => some ((), (t2, ()))) :=
  (f64t0 N m0 (finK tab f64sig Try.f64.results.toList)).trans (by kernel_rfl)
theorem f64ok (h : impl_factors.Spec) : EntryOk Try.prog 64 e64 :=
  entry_of_code (sig := f64sig) (c := f64c0) (pl := f64p0) (je := (some f64lE)) (B := f64B) Try.func64 (by kernel_rfl) (by kernel_rfl) (by kernel_rfl) tabOk f64GOk (by kernel_rfl) (by kernel_rfl) (by kernel_rfl) (by kernel_rfl) fun X hb hp => by
    obtain ⟨m0, _⟩ := X
    obtain ⟨N, h⟩ := h m0 hb.1 hp
    exact ⟨N, (f64m N m0).trans (h N (Nat.le_refl N))⟩
theorem e64ok : EntryOk Try.prog 64 e64 := f64ok impl_factors.ok
end Go.Fw
set_option linter.unusedVariables false
set_option linter.unusedSimpArgs false
set_option maxRecDepth 100000
namespace Go.Fw
open Go.Proofs
/-! ### loop.example/g03115/impl.MatrixOk -/
noncomputable def f61sig : Sig := ⟨[⟨.pair (.int .i64) (.pair (.int .i64) (.sl 3 (.int .i64))), true, false⟩], [⟨.bool, false, false⟩]⟩
noncomputable def e61 : Entry := ⟨f61sig, none, fun X => ((), ((impl_MatrixOk.g X.1), ()))⟩
noncomputable def f61G : Nat → Option Entry := addG (addG (fun _ => none) 63 e63) 64 e64
theorem f61GOk : GOk Try.prog f61G := ((GOk.nil).add e63ok (by kernel_rfl)).add e64ok (by kernel_rfl)
noncomputable def f61lE : Clean := ⟨[], [], [], [], []⟩
noncomputable def f61s0 (m0 : Int × Int × List Int) : St := initSt f61sig.ps (m0, ())
noncomputable def f61s1 (t2 : Bool) : St := stOf [(2, .c (.bool t2))] [] []
noncomputable def f61l1 : Clean := ⟨[2], [], [], [], []⟩
noncomputable def f61B : Nat → Option Clean := lookL [(1000000, f61l1)]
noncomputable abbrev f61i {ρ : Type} (N : Nat) (c : Code) (p : Plan) (σ : St) (K : KT ρ) : Option ρ := iCode f61G tab f61B N c p σ K
noncomputable def f61c0 := codeAt (bodyOf Try.f61) []
theorem f61t0 {ρ : Type} (N : Nat) (m0 : Int × Int × List Int) (K : KT ρ) : f61i N f61c0 .n (f61s0 m0) (joinK (some f61lE) K) =
  impl_MatrixOk.Z0 N m0 (fun t2 => K .ret (f61s1 t2)) := by kernel_rfl
theorem f61m (N : Nat) (m0 : Int × Int × List Int) : f61i N f61c0 .n (f61s0 m0) (joinK (some f61lE) (finK tab f61sig Try.f61.results.toList)) = impl_MatrixOk.Z0 N m0 (fun t2 => some ((), (t2, ()))) :=
  (f61t0 N m0 (finK tab f61sig Try.f61.results.toList)).trans (by kernel_rfl)
theorem f61ok (h : impl_MatrixOk.Spec) : EntryOk Try.prog 61 e61 :=
  entry_of_code (sig := f61sig) (c := f61c0) (pl := .n) (je := (some f61lE)) (B := f61B) Try.func61 (by kernel_rfl) (by kernel_rfl) (by kernel_rfl) tabOk f61GOk (by kernel_rfl) (by kernel_rfl) (by kernel_rfl) (by kernel_rfl) fun X hb hp => by
    obtain ⟨m0, _⟩ := X
    obtain ⟨N, h⟩ := h m0 hb.1
    exact ⟨N, (f61m N m0).trans (h N (Nat.le_refl N))⟩
theorem e61ok : EntryOk Try.prog 61 e61 := f61ok impl_MatrixOk.ok
end Go.Fw
set_option linter.unusedVariables false
set_option linter.unusedSimpArgs false
set_option maxRecDepth 100000
namespace Go.Fw
open Go.Proofs
/-! ### slices.Clone[[]int,int] -/
noncomputable def f62sig : Sig := ⟨[⟨.sl 3 (.int .i64), false, false⟩], [⟨.sl 3 (.int .i64), false, false⟩]⟩
noncomputable def e62 : Entry := ⟨f62sig, (some fun X => slices_Clone_int_int.P X.1), fun X => ((), ((slices_Clone_int_int.g X.1), ()))⟩
noncomputable def f62G : Nat → Option Entry := (fun _ => none)
theorem f62GOk : GOk Try.prog f62G := GOk.nil
noncomputable def f62lE : Clean := ⟨[], [], [], [], []⟩
noncomputable def f62s0 (s0 : List Int) : St := initSt f62sig.ps (s0, ())
noncomputable def f62s1 (t2 : List Int) : St := stOf [(2, .c (.own 1000128))] [] [(1000128, (⟨3, .int .i64, t2, true, false⟩ : Row))]
noncomputable def f62l1 : Clean := ⟨[2], [], [⟨⟨false, 2, 0⟩, 30000000, 3, .int .i64, true⟩], [], [(⟨false, 2, 0⟩, 1000128)]⟩
noncomputable def f62B : Nat → Option Clean := lookL [(1000000, f62l1)]
noncomputable abbrev f62i {ρ : Type} (N : Nat) (c : Code) (p : Plan) (σ : St) (K : KT ρ) : Option ρ := iCode f62G tab f62B N c p σ K
noncomputable def f62c0 := codeAt (bodyOf Try.f62) []
theorem f62t0 {ρ : Type} (N : Nat) (s0 : List Int) (K : KT ρ) : f62i N f62c0 .n (f62s0 s0) (joinK (some f62lE) K) =
  slices_Clone_int_int.Z0 N s0 (fun t2 => K .ret (f62s1 t2)) := by kernel_rfl
theorem f62m (N : Nat) (s0 : List Int) : f62i N f62c0 .n (f62s0 s0) (joinK (some f62lE) (finK tab f62sig Try.f62.results.toList)) = slices_Clone_int_int.Z0 N s0 (fun t2 => some ((), (t2, ()))) :=
  (f62t0 N s0 (finK tab f62sig Try.f62.results.toList)).trans (by kernel_rfl)
theorem f62ok (h : slices_Clone_int_int.Spec) : EntryOk Try.prog 62 e62 :=
  entry_of_code (sig := f62sig) (c := f62c0) (pl := .n) (je := (some f62lE)) (B := f62B) Try.func62 (by kernel_rfl) (by kernel_rfl) (by kernel_rfl) tabOk f62GOk (by kernel_rfl) (by kernel_rfl) (by kernel_rfl) (by kernel_rfl) fun X hb hp => by
    obtain ⟨s0, _⟩ := X
    obtain ⟨N, h⟩ := h s0 hb.1 hp
    exact ⟨N, (f62m N s0).trans (h N (Nat.le_refl N))⟩
theorem e62ok : EntryOk Try.prog 62 e62 := f62ok slices_Clone_int_int.ok
end Go.Fw
set_option linter.unusedVariables false
set_option linter.unusedSimpArgs false
set_option maxRecDepth 100000
namespace Go.Fw
open Go.Proofs
/-! ### loop.example/g03115/impl.mutated -/
noncomputable def f79sig : Sig := ⟨[⟨.pair (.int .i64) (.pair (.int .i64) (.sl 3 (.int .i64))), true, false⟩, ⟨.int .i64, false, false⟩], [⟨.pair (.int .i64) (.pair (.int .i64) (.sl 3 (.int .i64))), true, false⟩]⟩
noncomputable def e79 : Entry := ⟨f79sig, (some fun X => impl_mutated.P X.1 X.2.1), fun X => ((), ((impl_mutated.g X.1 X.2.1), ()))⟩
noncomputable def f79G : Nat → Option Entry := addG (addG (fun _ => none) 60 e60) 62 e62
theorem f79GOk : GOk Try.prog f79G := ((GOk.nil).add e60ok (by kernel_rfl)).add e62ok (by kernel_rfl)
noncomputable def f79lE : Clean := ⟨[], [], [], [], []⟩
noncomputable def f79s0 (m0 : Int × Int × List Int) (k1 : Int) : St := initSt f79sig.ps (m0, (k1, ()))
noncomputable def f79s1 (k1 : Int) (m2_0 : Int) (m2_1 : Int) (m2_2 : List Int) (t4_0 : Int) (t4_1 : Int) : St := stOf [(1, .c (.int .i64 k1)), (2, .c (.box 2 0)), (4, .c (.box 4 0))] [(2, (26, [.int .i64 m2_0, .int .i64 m2_1, .sn 3 (.int .i64) m2_2 none])), (4, (26, [.int .i64 t4_0, .int .i64 t4_1, .nil]))] []
noncomputable def f79l1 : Clean := ⟨[1, 2, 4], [2, 4], [], [], []⟩
noncomputable def f79s2 (out5_2 : List Int) (k1 : Int) (m2_0 : Int) (m2_1 : Int) (m2_2 : List Int) (t4_0 : Int) (t4_1 : Int) (out5_0 : Int) (out5_1 : Int) : St := stOf [(1, .c (.int .i64 k1)), (2, .c (.box 2 0)), (4, .c (.box 4 0)), (5, .c (.box 5 0))] [(2, (26, [.int .i64 m2_0, .int .i64 m2_1, .sn 3 (.int .i64) m2_2 none])), (4, (26, [.int .i64 t4_0, .int .i64 t4_1, .nil])), (5, (26, [.int .i64 out5_0, .int .i64 out5_1, .own 20000322]))] [(20000322, (⟨3, .int .i64, out5_2, true, false⟩ : Row))]
noncomputable def f79l2 : Clean := ⟨[1, 2, 4, 5], [2, 4, 5], [], [], [(⟨true, 5, 2⟩, 20000322)]⟩
noncomputable def f79s3 (out5_2 : List Int) (k1 : Int) (i6 : Int) (m2_0 : Int) (m2_1 : Int) (m2_2 : List Int) (t4_0 : Int) (t4_1 : Int) (out5_0 : Int) (out5_1 : Int) : St := stOf [(1, .c (.int .i64 k1)), (2, .c (.box 2 0)), (4, .c (.box 4 0)), (5, .c (.box 5 0)), (6, .c (.int .i64 i6))] [(2, (26, [.int .i64 m2_0, .int .i64 m2_1, .sn 3 (.int .i64) m2_2 none])), (4, (26, [.int .i64 t4_0, .int .i64 t4_1, .nil])), (5, (26, [.int .i64 out5_0, .int .i64 out5_1, .own 20000322]))] [(20000322, (⟨3, .int .i64, out5_2, true, false⟩ : Row))]
noncomputable def f79l3 : Clean := ⟨[1, 2, 4, 5, 6], [2, 4, 5], [], [], [(⟨true, 5, 2⟩, 20000322)]⟩
noncomputable def f79s4 (out5_2 : List Int) (k1 : Int) (i6 : Int) (j7 : Int) (m2_0 : Int) (m2_1 : Int) (m2_2 : List Int) (t4_0 : Int) (t4_1 : Int) (out5_0 : Int) (out5_1 : Int) : St := stOf [(1, .c (.int .i64 k1)), (2, .c (.box 2 0)), (4, .c (.box 4 0)), (5, .c (.box 5 0)), (6, .c (.int .i64 i6)), (7, .c (.int .i64 j7))] [(2, (26, [.int .i64 m2_0, .int .i64 m2_1, .sn 3 (.int .i64) m2_2 none])), (4, (26, [.int .i64 t4_0, .int .i64 t4_1, .nil])), (5, (26, [.int .i64 out5_0, .int .i64 out5_1, .own 20000322]))] [(20000322, (⟨3, .int .i64, out5_2, true, false⟩ : Row))]
noncomputable def f79l4 : Clean := ⟨[1, 2, 4, 5, 6, 7], [2, 4, 5], [], [], [(⟨true, 5, 2⟩, 20000322)]⟩
noncomputable def f79s5 (out5_2 : List Int) (k1 : Int) (i6 : Int) (j7 : Int) (p8 : Int) (m2_0 : Int) (m2_1 : Int) (m2_2 : List Int) (t4_0 : Int) (t4_1 : Int) (out5_0 : Int) (out5_1 : Int) : St := stOf [(1, .c (.int .i64 k1)), (2, .c (.box 2 0)), (4, .c (.box 4 0)), (5, .c (.box 5 0)), (6, .c (.int .i64 i6)), (7, .c (.int .i64 j7)), (8, .c (.elt 20000322 p8 0))] [(2, (26, [.int .i64 m2_0, .int .i64 m2_1, .sn 3 (.int .i64) m2_2 none])), (4, (26, [.int .i64 t4_0, .int .i64 t4_1, .nil])), (5, (26, [.int .i64 out5_0, .int .i64 out5_1, .own 20000322]))] [(20000322, (⟨3, .int .i64, out5_2, true, false⟩ : Row))]
noncomputable def f79l5 : Clean := ⟨[1, 2, 4, 5, 6, 7, 8], [2, 4, 5], [], [], [(⟨true, 5, 2⟩, 20000322)]⟩
noncomputable def f79s6 (out5_2 : List Int) (k1 : Int) (i6 : Int) (j7 : Int) (p8 : Int) (a9 : Int) (b10 : Int) (m2_0 : Int) (m2_1 : Int) (m2_2 : List Int) (t4_0 : Int) (t4_1 : Int) (out5_0 : Int) (out5_1 : Int) : St := stOf [(1, .c (.int .i64 k1)), (2, .c (.box 2 0)), (4, .c (.box 4 0)), (5, .c (.box 5 0)), (6, .c (.int .i64 i6)), (7, .c (.int .i64 j7)), (8, .c (.elt 20000322 p8 0)), (9, .c (.int .i64 a9)), (10, .c (.int .i64 b10))] [(2, (26, [.int .i64 m2_0, .int .i64 m2_1, .sn 3 (.int .i64) m2_2 none])), (4, (26, [.int .i64 t4_0, .int .i64 t4_1, .nil])), (5, (26, [.int .i64 out5_0, .int .i64 out5_1, .own 20000322]))] [(20000322, (⟨3, .int .i64, out5_2, true, false⟩ : Row))]
noncomputable def f79l6 : Clean := ⟨[1, 2, 4, 5, 6, 7, 8, 9, 10], [2, 4, 5], [], [], [(⟨true, 5, 2⟩, 20000322)]⟩
noncomputable def f79s7 (out5_2 : List Int) (k1 : Int) (i6 : Int) (j7 : Int) (p8 : Int) (a9 : Int) (b10 : Int) (t48 : Bool) (m2_0 : Int) (m2_1 : Int) (m2_2 : List Int) (t4_0 : Int) (t4_1 : Int) (out5_0 : Int) (out5_1 : Int) : St := stOf [(1, .c (.int .i64 k1)), (2, .c (.box 2 0)), (4, .c (.box 4 0)), (5, .c (.box 5 0)), (6, .c (.int .i64 i6)), (7, .c (.int .i64 j7)), (8, .c (.elt 20000322 p8 0)), (9, .c (.int .i64 a9)), (10, .c (.int .i64 b10)), (48, .c (.bool t48))] [(2, (26, [.int .i64 m2_0, .int .i64 m2_1, .sn 3 (.int .i64) m2_2 none])), (4, (26, [.int .i64 t4_0, .int .i64 t4_1, .nil])), (5, (26, [.int .i64 out5_0, .int .i64 out5_1, .own 20000322]))] [(20000322, (⟨3, .int .i64, out5_2, true, false⟩ : Row))]
noncomputable def f79l7 : Clean := ⟨[1, 2, 4, 5, 6, 7, 8, 9, 10, 48], [2, 4, 5], [], [], [(⟨true, 5, 2⟩, 20000322)]⟩
noncomputable def f79s8 (out5_2 : List Int) (t4_0 : Int) (t4_1 : Int) (out5_0 : Int) (out5_1 : Int) : St := stOf [(4, .c (.box 4 0)), (5, .c (.box 5 0))] [(4, (26, [.int .i64 t4_0, .int .i64 t4_1, .nil])), (5, (26, [.int .i64 out5_0, .int .i64 out5_1, .own 20000322]))] [(20000322, (⟨3, .int .i64, out5_2, true, false⟩ : Row))]
noncomputable def f79l8 : Clean := ⟨[4, 5], [4, 5], [], [], [(⟨true, 5, 2⟩, 20000322)]⟩
noncomputable def f79s9 (t4_2 : List Int) (t4_0 : Int) (t4_1 : Int) : St := stOf [(4, .c (.box 4 0))] [(4, (26, [.int .i64 t4_0, .int .i64 t4_1, .own 20000258]))] [(20000258, (⟨3, .int .i64, t4_2, true, false⟩ : Row))]
noncomputable def f79l9 : Clean := ⟨[4], [4], [], [], [(⟨true, 4, 2⟩, 20000258)]⟩
noncomputable def f79B : Nat → Option Clean := lookL [(4, f79l4), (3, f79l4), (2, f79l3), (1, f79l3), (0, f79l8), (1000000, f79l9)]
noncomputable abbrev f79i {ρ : Type} (N : Nat) (c : Code) (p : Plan) (σ : St) (K : KT ρ) : Option ρ := iCode f79G tab f79B N c p σ K
noncomputable def f79c1 := codeAt (bodyOf Try.f79) [0]
theorem f79t1 {ρ : Type} (N : Nat) (m0 : Int × Int × List Int) (k1 : Int) (K : KT ρ) : f79i N f79c1 .n (f79s0 m0 k1) (joinK (some f79l1) K) =
  impl_mutated.Z1 N m0 k1 (fun k1 m2_0 m2_1 m2_2 t4_0 t4_1 => K .nrm (f79s1 k1 m2_0 m2_1 m2_2 t4_0 t4_1)) := by kernel_rfl
noncomputable def f79c3 := codeAt (bodyOf Try.f79) [1,0]
theorem f79t3 {ρ : Type} (N : Nat) (k1 : Int) (m2_0 : Int) (m2_1 : Int) (m2_2 : List Int) (t4_0 : Int) (t4_1 : Int) (K : KT ρ) : f79i N f79c3 .n (f79s1 k1 m2_0 m2_1 m2_2 t4_0 t4_1) (joinK (some f79l2) K) =
  impl_mutated.Z3 N k1 m2_0 m2_1 m2_2 t4_0 t4_1 (fun out5_2 k1 m2_0 m2_1 m2_2 t4_0 t4_1 out5_0 out5_1 => K .nrm (f79s2 out5_2 k1 m2_0 m2_1 m2_2 t4_0 t4_1 out5_0 out5_1)) := by kernel_rfl
noncomputable def f79c6 := codeAt (bodyOf Try.f79) [1,1,0,0]
theorem f79t6 {ρ : Type} (N : Nat) (out5_2 : List Int) (k1 : Int) (m2_0 : Int) (m2_1 : Int) (m2_2 : List Int) (t4_0 : Int) (t4_1 : Int) (out5_0 : Int) (out5_1 : Int) (K : KT ρ) : f79i N f79c6 .n (f79s2 out5_2 k1 m2_0 m2_1 m2_2 t4_0 t4_1 out5_0 out5_1) (joinK (some f79l3) K) =
  impl_mutated.Z6 N out5_2 k1 m2_0 m2_1 m2_2 t4_0 t4_1 out5_0 out5_1 (fun out5_2 k1 i6 m2_0 m2_1 m2_2 t4_0 t4_1 out5_0 out5_1 => K .nrm (f79s3 out5_2 k1 i6 m2_0 m2_1 m2_2 t4_0 t4_1 out5_0 out5_1)) := by kernel_rfl
noncomputable def f79c10 := codeAt (bodyOf Try.f79) [1,1,0,1,0,0,0]
theorem f79t10 {ρ : Type} (N : Nat) (out5_2 : List Int) (k1 : Int) (i6 : Int) (m2_0 : Int) (m2_1 : Int) (m2_2 : List Int) (t4_0 : Int) (t4_1 : Int) (out5_0 : Int) (out5_1 : Int) (K : KT ρ) : f79i N f79c10 .n (f79s3 out5_2 k1 i6 m2_0 m2_1 m2_2 t4_0 t4_1 out5_0 out5_1) (joinK (some f79l3) K) =
  impl_mutated.Z10 N out5_2 k1 i6 m2_0 m2_1 m2_2 t4_0 t4_1 out5_0 out5_1 (fun out5_2 k1 i6 m2_0 m2_1 m2_2 t4_0 t4_1 out5_0 out5_1 => K .nrm (f79s3 out5_2 k1 i6 m2_0 m2_1 m2_2 t4_0 t4_1 out5_0 out5_1)) (fun out5_2 t4_0 t4_1 out5_0 out5_1 => K (.exit 0) (f79s8 out5_2 t4_0 t4_1 out5_0 out5_1)) := by kernel_rfl
noncomputable def f79c14 := codeAt (bodyOf Try.f79) [1,1,0,1,0,0,1,0,0,0]
theorem f79t14 {ρ : Type} (N : Nat) (out5_2 : List Int) (k1 : Int) (i6 : Int) (m2_0 : Int) (m2_1 : Int) (m2_2 : List Int) (t4_0 : Int) (t4_1 : Int) (out5_0 : Int) (out5_1 : Int) (K : KT ρ) : f79i N f79c14 .n (f79s3 out5_2 k1 i6 m2_0 m2_1 m2_2 t4_0 t4_1 out5_0 out5_1) (joinK (some f79l4) K) =
  impl_mutated.Z14 N out5_2 k1 i6 m2_0 m2_1 m2_2 t4_0 t4_1 out5_0 out5_1 (fun out5_2 k1 i6 j7 m2_0 m2_1 m2_2 t4_0 t4_1 out5_0 out5_1 => K .nrm (f79s4 out5_2 k1 i6 j7 m2_0 m2_1 m2_2 t4_0 t4_1 out5_0 out5_1)) := by kernel_rfl
noncomputable def f79c18 := codeAt (bodyOf Try.f79) [1,1,0,1,0,0,1,0,0,1,0,0,0]
theorem f79t18 {ρ : Type} (N : Nat) (out5_2 : List Int) (k1 : Int) (i6 : Int) (j7 : Int) (m2_0 : Int) (m2_1 : Int) (m2_2 : List Int) (t4_0 : Int) (t4_1 : Int) (out5_0 : Int) (out5_1 : Int) (K : KT ρ) : f79i N f79c18 .n (f79s4 out5_2 k1 i6 j7 m2_0 m2_1 m2_2 t4_0 t4_1 out5_0 out5_1) (joinK (some f79l4) K) =
  impl_mutated.Z18 N out5_2 k1 i6 j7 m2_0 m2_1 m2_2 t4_0 t4_1 out5_0 out5_1 (fun out5_2 k1 i6 j7 m2_0 m2_1 m2_2 t4_0 t4_1 out5_0 out5_1 => K .nrm (f79s4 out5_2 k1 i6 j7 m2_0 m2_1 m2_2 t4_0 t4_1 out5_0 out5_1)) (fun out5_2 k1 i6 m2_0 m2_1 m2_2 t4_0 t4_1 out5_0 out5_1 => K (.exit 2) (f79s3 out5_2 k1 i6 m2_0 m2_1 m2_2 t4_0 t4_1 out5_0 out5_1)) := by kernel_rfl
noncomputable def f79c22 := codeAt (bodyOf Try.f79) [1,1,0,1,0,0,1,0,0,1,0,0,1,0,0,0]
theorem f79t22 {ρ : Type} (N : Nat) (out5_2 : List Int) (k1 : Int) (i6 : Int) (j7 : Int) (m2_0 : Int) (m2_1 : Int) (m2_2 : List Int) (t4_0 : Int) (t4_1 : Int) (out5_0 : Int) (out5_1 : Int) (K : KT ρ) : f79i N f79c22 .n (f79s4 out5_2 k1 i6 j7 m2_0 m2_1 m2_2 t4_0 t4_1 out5_0 out5_1) (joinK (some f79l5) K) =
  impl_mutated.Z22 N out5_2 k1 i6 j7 m2_0 m2_1 m2_2 t4_0 t4_1 out5_0 out5_1 (fun out5_2 k1 i6 j7 p8 m2_0 m2_1 m2_2 t4_0 t4_1 out5_0 out5_1 => K .nrm (f79s5 out5_2 k1 i6 j7 p8 m2_0 m2_1 m2_2 t4_0 t4_1 out5_0 out5_1)) := by kernel_rfl
noncomputable def f79c24 := codeAt (bodyOf Try.f79) [1,1,0,1,0,0,1,0,0,1,0,0,1,0,0,1,0]
theorem f79t24 {ρ : Type} (N : Nat) (out5_2 : List Int) (k1 : Int) (i6 : Int) (j7 : Int) (p8 : Int) (m2_0 : Int) (m2_1 : Int) (m2_2 : List Int) (t4_0 : Int) (t4_1 : Int) (out5_0 : Int) (out5_1 : Int) (K : KT ρ) : f79i N f79c24 .n (f79s5 out5_2 k1 i6 j7 p8 m2_0 m2_1 m2_2 t4_0 t4_1 out5_0 out5_1) (joinK (some f79l6) K) =
  impl_mutated.Z24 N out5_2 k1 i6 j7 p8 m2_0 m2_1 m2_2 t4_0 t4_1 out5_0 out5_1 (fun out5_2 k1 i6 j7 p8 a9 b10 m2_0 m2_1 m2_2 t4_0 t4_1 out5_0 out5_1 => K .nrm (f79s6 out5_2 k1 i6 j7 p8 a9 b10 m2_0 m2_1 m2_2 t4_0 t4_1 out5_0 out5_1)) := by kernel_rfl
noncomputable def f79c27 := codeAt (bodyOf Try.f79) [1,1,0,1,0,0,1,0,0,1,0,0,1,0,0,1,1,0,0]
theorem f79t27 {ρ : Type} (N : Nat) (out5_2 : List Int) (k1 : Int) (i6 : Int) (j7 : Int) (p8 : Int) (a9 : Int) (b10 : Int) (m2_0 : Int) (m2_1 : Int) (m2_2 : List Int) (t4_0 : Int) (t4_1 : Int) (out5_0 : Int) (out5_1 : Int) (K : KT ρ) : f79i N f79c27 .n (f79s6 out5_2 k1 i6 j7 p8 a9 b10 m2_0 m2_1 m2_2 t4_0 t4_1 out5_0 out5_1) (joinK (some f79l7) K) =
  impl_mutated.Z27 N out5_2 k1 i6 j7 p8 a9 b10 m2_0 m2_1 m2_2 t4_0 t4_1 out5_0 out5_1 (fun out5_2 k1 i6 j7 p8 a9 b10 t48 m2_0 m2_1 m2_2 t4_0 t4_1 out5_0 out5_1 => K .nrm (f79s7 out5_2 k1 i6 j7 p8 a9 b10 t48 m2_0 m2_1 m2_2 t4_0 t4_1 out5_0 out5_1)) := by kernel_rfl
noncomputable def f79c28 := codeAt (bodyOf Try.f79) [1,1,0,1,0,0,1,0,0,1,0,0,1,0,0,1,1,0,1]
theorem f79t28 {ρ : Type} (N : Nat) (out5_2 : List Int) (k1 : Int) (i6 : Int) (j7 : Int) (p8 : Int) (a9 : Int) (b10 : Int) (t48 : Bool) (m2_0 : Int) (m2_1 : Int) (m2_2 : List Int) (t4_0 : Int) (t4_1 : Int) (out5_0 : Int) (out5_1 : Int) (K : KT ρ) : f79i N f79c28 .n (f79s7 out5_2 k1 i6 j7 p8 a9 b10 t48 m2_0 m2_1 m2_2 t4_0 t4_1 out5_0 out5_1) (joinK (some f79l4) K) =
  impl_mutated.Z28 N out5_2 k1 i6 j7 p8 a9 b10 t48 m2_0 m2_1 m2_2 t4_0 t4_1 out5_0 out5_1 (fun out5_2 k1 i6 j7 m2_0 m2_1 m2_2 t4_0 t4_1 out5_0 out5_1 => K .nrm (f79s4 out5_2 k1 i6 j7 m2_0 m2_1 m2_2 t4_0 t4_1 out5_0 out5_1)) := by kernel_rfl
noncomputable def f79c26 := codeAt (bodyOf Try.f79) [1,1,0,1,0,0,1,0,0,1,0,0,1,0,0,1,1,0]
noncomputable def f79p26 : Plan := .mk (some f79l7) none .n .n
theorem f79t26 {ρ : Type} (N : Nat) (out5_2 : List Int) (k1 : Int) (i6 : Int) (j7 : Int) (p8 : Int) (a9 : Int) (b10 : Int) (m2_0 : Int) (m2_1 : Int) (m2_2 : List Int) (t4_0 : Int) (t4_1 : Int) (out5_0 : Int) (out5_1 : Int) (K : KT ρ) : f79i N f79c26 f79p26 (f79s6 out5_2 k1 i6 j7 p8 a9 b10 m2_0 m2_1 m2_2 t4_0 t4_1 out5_0 out5_1) (joinK (some f79l4) K) =
  impl_mutated.Z26 N out5_2 k1 i6 j7 p8 a9 b10 m2_0 m2_1 m2_2 t4_0 t4_1 out5_0 out5_1 (fun out5_2 k1 i6 j7 m2_0 m2_1 m2_2 t4_0 t4_1 out5_0 out5_1 => K .nrm (f79s4 out5_2 k1 i6 j7 m2_0 m2_1 m2_2 t4_0 t4_1 out5_0 out5_1)) :=
  viaSeq (fun k => impl_mutated.Z27 N out5_2 k1 i6 j7 p8 a9 b10 m2_0 m2_1 m2_2 t4_0 t4_1 out5_0 out5_1 k) (by kernel_rfl) (by kernel_rfl) (f79t27 N out5_2 k1 i6 j7 p8 a9 b10 m2_0 m2_1 m2_2 t4_0 t4_1 out5_0 out5_1 (seqK (fun σ => f79i N f79c28 .n σ (joinK (some f79l4) K)) (joinK (some f79l4) K))) (funext fun out5_2 => funext fun k1 => funext fun i6 => funext fun j7 => funext fun p8 => funext fun a9 => funext fun b10 => funext fun t48 => funext fun m2_0 => funext fun m2_1 => funext fun m2_2 => funext fun t4_0 => funext fun t4_1 => funext fun out5_0 => funext fun out5_1 => f79t28 N out5_2 k1 i6 j7 p8 a9 b10 t48 m2_0 m2_1 m2_2 t4_0 t4_1 out5_0 out5_1 K) (by kernel_rfl) (by kernel_rfl)
noncomputable def f79c25 := codeAt (bodyOf Try.f79) [1,1,0,1,0,0,1,0,0,1,0,0,1,0,0,1,1]
noncomputable def f79p25 : Plan := .mk (some f79l4) none f79p26 .n
theorem f79t25 {ρ : Type} (N : Nat) (out5_2 : List Int) (k1 : Int) (i6 : Int) (j7 : Int) (p8 : Int) (a9 : Int) (b10 : Int) (m2_0 : Int) (m2_1 : Int) (m2_2 : List Int) (t4_0 : Int) (t4_1 : Int) (out5_0 : Int) (out5_1 : Int) (K : KT ρ) : f79i N f79c25 f79p25 (f79s6 out5_2 k1 i6 j7 p8 a9 b10 m2_0 m2_1 m2_2 t4_0 t4_1 out5_0 out5_1) (joinK (some f79l4) K) =
  impl_mutated.Z25 N out5_2 k1 i6 j7 p8 a9 b10 m2_0 m2_1 m2_2 t4_0 t4_1 out5_0 out5_1 (fun out5_2 k1 i6 j7 m2_0 m2_1 m2_2 t4_0 t4_1 out5_0 out5_1 => K .nrm (f79s4 out5_2 k1 i6 j7 m2_0 m2_1 m2_2 t4_0 t4_1 out5_0 out5_1)) :=
  viaBlock (by kernel_rfl) (by kernel_rfl) (f79t26 N out5_2 k1 i6 j7 p8 a9 b10 m2_0 m2_1 m2_2 t4_0 t4_1 out5_0 out5_1 (blockK 4 (joinK (some f79l4) K))) (by kernel_rfl)
noncomputable def f79c23 := codeAt (bodyOf Try.f79) [1,1,0,1,0,0,1,0,0,1,0,0,1,0,0,1]
noncomputable def f79p23 : Plan := .mk (some f79l6) none .n f79p25
theorem f79t23 {ρ : Type} (N : Nat) (out5_2 : List Int) (k1 : Int) (i6 : Int) (j7 : Int) (p8 : Int) (m2_0 : Int) (m2_1 : Int) (m2_2 : List Int) (t4_0 : Int) (t4_1 : Int) (out5_0 : Int) (out5_1 : Int) (K : KT ρ) : f79i N f79c23 f79p23 (f79s5 out5_2 k1 i6 j7 p8 m2_0 m2_1 m2_2 t4_0 t4_1 out5_0 out5_1) (joinK (some f79l4) K) =
  impl_mutated.Z23 N out5_2 k1 i6 j7 p8 m2_0 m2_1 m2_2 t4_0 t4_1 out5_0 out5_1 (fun out5_2 k1 i6 j7 m2_0 m2_1 m2_2 t4_0 t4_1 out5_0 out5_1 => K .nrm (f79s4 out5_2 k1 i6 j7 m2_0 m2_1 m2_2 t4_0 t4_1 out5_0 out5_1)) :=
  viaSeq (fun k => impl_mutated.Z24 N out5_2 k1 i6 j7 p8 m2_0 m2_1 m2_2 t4_0 t4_1 out5_0 out5_1 k) (by kernel_rfl) (by kernel_rfl) (f79t24 N out5_2 k1 i6 j7 p8 m2_0 m2_1 m2_2 t4_0 t4_1 out5_0 out5_1 (seqK (fun σ => f79i N f79c25 f79p25 σ (joinK (some f79l4) K)) (joinK (some f79l4) K))) (funext fun out5_2 => funext fun k1 => funext fun i6 => funext fun j7 => funext fun p8 => funext fun a9 => funext fun b10 => funext fun m2_0 => funext fun m2_1 => funext fun m2_2 => funext fun t4_0 => funext fun t4_1 => funext fun out5_0 => funext fun out5_1 => f79t25 N out5_2 k1 i6 j7 p8 a9 b10 m2_0 m2_1 m2_2 t4_0 t4_1 out5_0 out5_1 K) (by kernel_rfl) (by kernel_rfl)
noncomputable def f79c21 := codeAt (bodyOf Try.f79) [1,1,0,1,0,0,1,0,0,1,0,0,1,0,0]
noncomputable def f79p21 : Plan := .mk (some f79l5) none .n f79p23
theorem f79t21 {ρ : Type} (N : Nat) (out5_2 : List Int) (k1 : Int) (i6 : Int) (j7 : Int) (m2_0 : Int) (m2_1 : Int) (m2_2 : List Int) (t4_0 : Int) (t4_1 : Int) (out5_0 : Int) (out5_1 : Int) (K : KT ρ) : f79i N f79c21 f79p21 (f79s4 out5_2 k1 i6 j7 m2_0 m2_1 m2_2 t4_0 t4_1 out5_0 out5_1) (joinK (some f79l4) K) =
  impl_mutated.Z21 N out5_2 k1 i6 j7 m2_0 m2_1 m2_2 t4_0 t4_1 out5_0 out5_1 (fun out5_2 k1 i6 j7 m2_0 m2_1 m2_2 t4_0 t4_1 out5_0 out5_1 => K .nrm (f79s4 out5_2 k1 i6 j7 m2_0 m2_1 m2_2 t4_0 t4_1 out5_0 out5_1)) :=
  viaSeq (fun k => impl_mutated.Z22 N out5_2 k1 i6 j7 m2_0 m2_1 m2_2 t4_0 t4_1 out5_0 out5_1 k) (by kernel_rfl) (by kernel_rfl) (f79t22 N out5_2 k1 i6 j7 m2_0 m2_1 m2_2 t4_0 t4_1 out5_0 out5_1 (seqK (fun σ => f79i N f79c23 f79p23 σ (joinK (some f79l4) K)) (joinK (some f79l4) K))) (funext fun out5_2 => funext fun k1 => funext fun i6 => funext fun j7 => funext fun p8 => funext fun m2_0 => funext fun m2_1 => funext fun m2_2 => funext fun t4_0 => funext fun t4_1 => funext fun out5_0 => funext fun out5_1 => f79t23 N out5_2 k1 i6 j7 p8 m2_0 m2_1 m2_2 t4_0 t4_1 out5_0 out5_1 K) (by kernel_rfl) (by kernel_rfl)
noncomputable def f79c20 := codeAt (bodyOf Try.f79) [1,1,0,1,0,0,1,0,0,1,0,0,1,0]
noncomputable def f79p20 : Plan := .mk (some f79l4) none f79p21 .n
theorem f79t20 {ρ : Type} (N : Nat) (out5_2 : List Int) (k1 : Int) (i6 : Int) (j7 : Int) (m2_0 : Int) (m2_1 : Int) (m2_2 : List Int) (t4_0 : Int) (t4_1 : Int) (out5_0 : Int) (out5_1 : Int) (K : KT ρ) : f79i N f79c20 f79p20 (f79s4 out5_2 k1 i6 j7 m2_0 m2_1 m2_2 t4_0 t4_1 out5_0 out5_1) (joinK (some f79l4) K) =
  impl_mutated.Z20 N out5_2 k1 i6 j7 m2_0 m2_1 m2_2 t4_0 t4_1 out5_0 out5_1 (fun out5_2 k1 i6 j7 m2_0 m2_1 m2_2 t4_0 t4_1 out5_0 out5_1 => K .nrm (f79s4 out5_2 k1 i6 j7 m2_0 m2_1 m2_2 t4_0 t4_1 out5_0 out5_1)) :=
  viaBlock (by kernel_rfl) (by kernel_rfl) (f79t21 N out5_2 k1 i6 j7 m2_0 m2_1 m2_2 t4_0 t4_1 out5_0 out5_1 (blockK 3 (joinK (some f79l4) K))) (by kernel_rfl)
noncomputable def f79c29 := codeAt (bodyOf Try.f79) [1,1,0,1,0,0,1,0,0,1,0,0,1,1]
theorem f79t29 {ρ : Type} (N : Nat) (out5_2 : List Int) (k1 : Int) (i6 : Int) (j7 : Int) (m2_0 : Int) (m2_1 : Int) (m2_2 : List Int) (t4_0 : Int) (t4_1 : Int) (out5_0 : Int) (out5_1 : Int) (K : KT ρ) : f79i N f79c29 .n (f79s4 out5_2 k1 i6 j7 m2_0 m2_1 m2_2 t4_0 t4_1 out5_0 out5_1) (joinK (some f79l4) K) =
  impl_mutated.Z29 N out5_2 k1 i6 j7 m2_0 m2_1 m2_2 t4_0 t4_1 out5_0 out5_1 (fun out5_2 k1 i6 j7 m2_0 m2_1 m2_2 t4_0 t4_1 out5_0 out5_1 => K .nrm (f79s4 out5_2 k1 i6 j7 m2_0 m2_1 m2_2 t4_0 t4_1 out5_0 out5_1)) := by kernel_rfl
noncomputable def f79c19 := codeAt (bodyOf Try.f79) [1,1,0,1,0,0,1,0,0,1,0,0,1]
noncomputable def f79p19 : Plan := .mk (some f79l4) none f79p20 .n
theorem f79t19 {ρ : Type} (N : Nat) (out5_2 : List Int) (k1 : Int) (i6 : Int) (j7 : Int) (m2_0 : Int) (m2_1 : Int) (m2_2 : List Int) (t4_0 : Int) (t4_1 : Int) (out5_0 : Int) (out5_1 : Int) (K : KT ρ) : f79i N f79c19 f79p19 (f79s4 out5_2 k1 i6 j7 m2_0 m2_1 m2_2 t4_0 t4_1 out5_0 out5_1) (joinK (some f79l4) K) =
  impl_mutated.Z19 N out5_2 k1 i6 j7 m2_0 m2_1 m2_2 t4_0 t4_1 out5_0 out5_1 (fun out5_2 k1 i6 j7 m2_0 m2_1 m2_2 t4_0 t4_1 out5_0 out5_1 => K .nrm (f79s4 out5_2 k1 i6 j7 m2_0 m2_1 m2_2 t4_0 t4_1 out5_0 out5_1)) :=
  viaSeq (fun k => impl_mutated.Z20 N out5_2 k1 i6 j7 m2_0 m2_1 m2_2 t4_0 t4_1 out5_0 out5_1 k) (by kernel_rfl) (by kernel_rfl) (f79t20 N out5_2 k1 i6 j7 m2_0 m2_1 m2_2 t4_0 t4_1 out5_0 out5_1 (seqK (fun σ => f79i N f79c29 .n σ (joinK (some f79l4) K)) (joinK (some f79l4) K))) (funext fun out5_2 => funext fun k1 => funext fun i6 => funext fun j7 => funext fun m2_0 => funext fun m2_1 => funext fun m2_2 => funext fun t4_0 => funext fun t4_1 => funext fun out5_0 => funext fun out5_1 => f79t29 N out5_2 k1 i6 j7 m2_0 m2_1 m2_2 t4_0 t4_1 out5_0 out5_1 K) (by kernel_rfl) (by kernel_rfl)
noncomputable def f79c17 := codeAt (bodyOf Try.f79) [1,1,0,1,0,0,1,0,0,1,0,0]
noncomputable def f79p17 : Plan := .mk (some f79l4) none .n f79p19
theorem f79t17 {ρ : Type} (N : Nat) (out5_2 : List Int) (k1 : Int) (i6 : Int) (j7 : Int) (m2_0 : Int) (m2_1 : Int) (m2_2 : List Int) (t4_0 : Int) (t4_1 : Int) (out5_0 : Int) (out5_1 : Int) (K : KT ρ) : f79i N f79c17 f79p17 (f79s4 out5_2 k1 i6 j7 m2_0 m2_1 m2_2 t4_0 t4_1 out5_0 out5_1) (joinK (some f79l4) K) =
  impl_mutated.Z17 N out5_2 k1 i6 j7 m2_0 m2_1 m2_2 t4_0 t4_1 out5_0 out5_1 (fun out5_2 k1 i6 j7 m2_0 m2_1 m2_2 t4_0 t4_1 out5_0 out5_1 => K .nrm (f79s4 out5_2 k1 i6 j7 m2_0 m2_1 m2_2 t4_0 t4_1 out5_0 out5_1)) (fun out5_2 k1 i6 m2_0 m2_1 m2_2 t4_0 t4_1 out5_0 out5_1 => K (.exit 2) (f79s3 out5_2 k1 i6 m2_0 m2_1 m2_2 t4_0 t4_1 out5_0 out5_1)) :=
  viaSeq (fun k => impl_mutated.Z18 N out5_2 k1 i6 j7 m2_0 m2_1 m2_2 t4_0 t4_1 out5_0 out5_1 k (fun out5_2 k1 i6 m2_0 m2_1 m2_2 t4_0 t4_1 out5_0 out5_1 => K (.exit 2) (f79s3 out5_2 k1 i6 m2_0 m2_1 m2_2 t4_0 t4_1 out5_0 out5_1))) (by kernel_rfl) (by kernel_rfl) (f79t18 N out5_2 k1 i6 j7 m2_0 m2_1 m2_2 t4_0 t4_1 out5_0 out5_1 (seqK (fun σ => f79i N f79c19 f79p19 σ (joinK (some f79l4) K)) (joinK (some f79l4) K))) (funext fun out5_2 => funext fun k1 => funext fun i6 => funext fun j7 => funext fun m2_0 => funext fun m2_1 => funext fun m2_2 => funext fun t4_0 => funext fun t4_1 => funext fun out5_0 => funext fun out5_1 => f79t19 N out5_2 k1 i6 j7 m2_0 m2_1 m2_2 t4_0 t4_1 out5_0 out5_1 K) (by kernel_rfl) (by kernel_rfl)
noncomputable def f79c16 := codeAt (bodyOf Try.f79) [1,1,0,1,0,0,1,0,0,1,0]
noncomputable def f79p16 : Plan := .mk none (some f79l4) f79p17 .n
noncomputable abbrev f79w16 {ρ : Type} (N : Nat) (M : Nat) (σ : St) (K : KT ρ) : Option ρ := loopC (fun σ K => f79i N f79c17 f79p17 σ K) f79l4 M σ K
theorem f79t16L {ρ : Type} (N : Nat) (K : KT ρ) : ∀ (M : Nat) (out5_2 : List Int) (k1 : Int) (i6 : Int) (j7 : Int) (m2_0 : Int) (m2_1 : Int) (m2_2 : List Int) (t4_0 : Int) (t4_1 : Int) (out5_0 : Int) (out5_1 : Int), f79w16 N M (f79s4 out5_2 k1 i6 j7 m2_0 m2_1 m2_2 t4_0 t4_1 out5_0 out5_1) K =
  impl_mutated.Z16L N (fun out5_2 k1 i6 m2_0 m2_1 m2_2 t4_0 t4_1 out5_0 out5_1 => K (.exit 2) (f79s3 out5_2 k1 i6 m2_0 m2_1 m2_2 t4_0 t4_1 out5_0 out5_1)) M out5_2 k1 i6 j7 m2_0 m2_1 m2_2 t4_0 t4_1 out5_0 out5_1
  | 0, _, _, _, _, _, _, _, _, _, _, _ => rfl
  | M + 1, out5_2, k1, i6, j7, m2_0, m2_1, m2_2, t4_0, t4_1, out5_0, out5_1 => viaRound (fun k => impl_mutated.Z17 N out5_2 k1 i6 j7 m2_0 m2_1 m2_2 t4_0 t4_1 out5_0 out5_1 k (fun out5_2 k1 i6 m2_0 m2_1 m2_2 t4_0 t4_1 out5_0 out5_1 => K (.exit 2) (f79s3 out5_2 k1 i6 m2_0 m2_1 m2_2 t4_0 t4_1 out5_0 out5_1))) (f79t17 N out5_2 k1 i6 j7 m2_0 m2_1 m2_2 t4_0 t4_1 out5_0 out5_1 (seqK (fun σ => f79w16 N M σ K) K)) (funext fun out5_2 => funext fun k1 => funext fun i6 => funext fun j7 => funext fun m2_0 => funext fun m2_1 => funext fun m2_2 => funext fun t4_0 => funext fun t4_1 => funext fun out5_0 => funext fun out5_1 => f79t16L N K M out5_2 k1 i6 j7 m2_0 m2_1 m2_2 t4_0 t4_1 out5_0 out5_1) (by kernel_rfl) (by kernel_rfl)
theorem f79t16 {ρ : Type} (N : Nat) (out5_2 : List Int) (k1 : Int) (i6 : Int) (j7 : Int) (m2_0 : Int) (m2_1 : Int) (m2_2 : List Int) (t4_0 : Int) (t4_1 : Int) (out5_0 : Int) (out5_1 : Int) (K : KT ρ) : f79i N f79c16 f79p16 (f79s4 out5_2 k1 i6 j7 m2_0 m2_1 m2_2 t4_0 t4_1 out5_0 out5_1) (joinK (some f79l3) K) =
  impl_mutated.Z16 N out5_2 k1 i6 j7 m2_0 m2_1 m2_2 t4_0 t4_1 out5_0 out5_1 (fun out5_2 k1 i6 m2_0 m2_1 m2_2 t4_0 t4_1 out5_0 out5_1 => K (.exit 2) (f79s3 out5_2 k1 i6 m2_0 m2_1 m2_2 t4_0 t4_1 out5_0 out5_1)) :=
  viaLoop (by kernel_rfl) (by kernel_rfl) (σ' := f79s4 out5_2 k1 i6 j7 m2_0 m2_1 m2_2 t4_0 t4_1 out5_0 out5_1) (by kernel_rfl) (f79t16L N (joinK (some f79l3) K) N out5_2 k1 i6 j7 m2_0 m2_1 m2_2 t4_0 t4_1 out5_0 out5_1) (by kernel_rfl)
noncomputable def f79c15 := codeAt (bodyOf Try.f79) [1,1,0,1,0,0,1,0,0,1]
noncomputable def f79p15 : Plan := .mk (some f79l3) none f79p16 .n
theorem f79t15 {ρ : Type} (N : Nat) (out5_2 : List Int) (k1 : Int) (i6 : Int) (j7 : Int) (m2_0 : Int) (m2_1 : Int) (m2_2 : List Int) (t4_0 : Int) (t4_1 : Int) (out5_0 : Int) (out5_1 : Int) (K : KT ρ) : f79i N f79c15 f79p15 (f79s4 out5_2 k1 i6 j7 m2_0 m2_1 m2_2 t4_0 t4_1 out5_0 out5_1) (joinK (some f79l3) K) =
  impl_mutated.Z15 N out5_2 k1 i6 j7 m2_0 m2_1 m2_2 t4_0 t4_1 out5_0 out5_1 (fun out5_2 k1 i6 m2_0 m2_1 m2_2 t4_0 t4_1 out5_0 out5_1 => K .nrm (f79s3 out5_2 k1 i6 m2_0 m2_1 m2_2 t4_0 t4_1 out5_0 out5_1)) :=
  viaBlock (by kernel_rfl) (by kernel_rfl) (f79t16 N out5_2 k1 i6 j7 m2_0 m2_1 m2_2 t4_0 t4_1 out5_0 out5_1 (blockK 2 (joinK (some f79l3) K))) (by kernel_rfl)
noncomputable def f79c13 := codeAt (bodyOf Try.f79) [1,1,0,1,0,0,1,0,0]
noncomputable def f79p13 : Plan := .mk (some f79l4) none .n f79p15
theorem f79t13 {ρ : Type} (N : Nat) (out5_2 : List Int) (k1 : Int) (i6 : Int) (m2_0 : Int) (m2_1 : Int) (m2_2 : List Int) (t4_0 : Int) (t4_1 : Int) (out5_0 : Int) (out5_1 : Int) (K : KT ρ) : f79i N f79c13 f79p13 (f79s3 out5_2 k1 i6 m2_0 m2_1 m2_2 t4_0 t4_1 out5_0 out5_1) (joinK (some f79l3) K) =
  impl_mutated.Z13 N out5_2 k1 i6 m2_0 m2_1 m2_2 t4_0 t4_1 out5_0 out5_1 (fun out5_2 k1 i6 m2_0 m2_1 m2_2 t4_0 t4_1 out5_0 out5_1 => K .nrm (f79s3 out5_2 k1 i6 m2_0 m2_1 m2_2 t4_0 t4_1 out5_0 out5_1)) :=
  viaSeq (fun k => impl_mutated.Z14 N out5_2 k1 i6 m2_0 m2_1 m2_2 t4_0 t4_1 out5_0 out5_1 k) (by kernel_rfl) (by kernel_rfl) (f79t14 N out5_2 k1 i6 m2_0 m2_1 m2_2 t4_0 t4_1 out5_0 out5_1 (seqK (fun σ => f79i N f79c15 f79p15 σ (joinK (some f79l3) K)) (joinK (some f79l3) K))) (funext fun out5_2 => funext fun k1 => funext fun i6 => funext fun j7 => funext fun m2_0 => funext fun m2_1 => funext fun m2_2 => funext fun t4_0 => funext fun t4_1 => funext fun out5_0 => funext fun out5_1 => f79t15 N out5_2 k1 i6 j7 m2_0 m2_1 m2_2 t4_0 t4_1 out5_0 out5_1 K) (by kernel_rfl) (by kernel_rfl)
noncomputable def f79c12 := codeAt (bodyOf Try.f79) [1,1,0,1,0,0,1,0]
noncomputable def f79p12 : Plan := .mk (some f79l3) none f79p13 .n
theorem f79t12 {ρ : Type} (N : Nat) (out5_2 : List Int) (k1 : Int) (i6 : Int) (m2_0 : Int) (m2_1 : Int) (m2_2 : List Int) (t4_0 : Int) (t4_1 : Int) (out5_0 : Int) (out5_1 : Int) (K : KT ρ) : f79i N f79c12 f79p12 (f79s3 out5_2 k1 i6 m2_0 m2_1 m2_2 t4_0 t4_1 out5_0 out5_1) (joinK (some f79l3) K) =
  impl_mutated.Z12 N out5_2 k1 i6 m2_0 m2_1 m2_2 t4_0 t4_1 out5_0 out5_1 (fun out5_2 k1 i6 m2_0 m2_1 m2_2 t4_0 t4_1 out5_0 out5_1 => K .nrm (f79s3 out5_2 k1 i6 m2_0 m2_1 m2_2 t4_0 t4_1 out5_0 out5_1)) :=
  viaBlock (by kernel_rfl) (by kernel_rfl) (f79t13 N out5_2 k1 i6 m2_0 m2_1 m2_2 t4_0 t4_1 out5_0 out5_1 (blockK 1 (joinK (some f79l3) K))) (by kernel_rfl)
noncomputable def f79c30 := codeAt (bodyOf Try.f79) [1,1,0,1,0,0,1,1]
theorem f79t30 {ρ : Type} (N : Nat) (out5_2 : List Int) (k1 : Int) (i6 : Int) (m2_0 : Int) (m2_1 : Int) (m2_2 : List Int) (t4_0 : Int) (t4_1 : Int) (out5_0 : Int) (out5_1 : Int) (K : KT ρ) : f79i N f79c30 .n (f79s3 out5_2 k1 i6 m2_0 m2_1 m2_2 t4_0 t4_1 out5_0 out5_1) (joinK (some f79l3) K) =
  impl_mutated.Z30 N out5_2 k1 i6 m2_0 m2_1 m2_2 t4_0 t4_1 out5_0 out5_1 (fun out5_2 k1 i6 m2_0 m2_1 m2_2 t4_0 t4_1 out5_0 out5_1 => K .nrm (f79s3 out5_2 k1 i6 m2_0 m2_1 m2_2 t4_0 t4_1 out5_0 out5_1)) := by kernel_rfl
noncomputable def f79c11 := codeAt (bodyOf Try.f79) [1,1,0,1,0,0,1]
noncomputable def f79p11 : Plan := .mk (some f79l3) none f79p12 .n
theorem f79t11 {ρ : Type} (N : Nat) (out5_2 : List Int) (k1 : Int) (i6 : Int) (m2_0 : Int) (m2_1 : Int) (m2_2 : List Int) (t4_0 : Int) (t4_1 : Int) (out5_0 : Int) (out5_1 : Int) (K : KT ρ) : f79i N f79c11 f79p11 (f79s3 out5_2 k1 i6 m2_0 m2_1 m2_2 t4_0 t4_1 out5_0 out5_1) (joinK (some f79l3) K) =
  impl_mutated.Z11 N out5_2 k1 i6 m2_0 m2_1 m2_2 t4_0 t4_1 out5_0 out5_1 (fun out5_2 k1 i6 m2_0 m2_1 m2_2 t4_0 t4_1 out5_0 out5_1 => K .nrm (f79s3 out5_2 k1 i6 m2_0 m2_1 m2_2 t4_0 t4_1 out5_0 out5_1)) :=
  viaSeq (fun k => impl_mutated.Z12 N out5_2 k1 i6 m2_0 m2_1 m2_2 t4_0 t4_1 out5_0 out5_1 k) (by kernel_rfl) (by kernel_rfl) (f79t12 N out5_2 k1 i6 m2_0 m2_1 m2_2 t4_0 t4_1 out5_0 out5_1 (seqK (fun σ => f79i N f79c30 .n σ (joinK (some f79l3) K)) (joinK (some f79l3) K))) (funext fun out5_2 => funext fun k1 => funext fun i6 => funext fun m2_0 => funext fun m2_1 => funext fun m2_2 => funext fun t4_0 => funext fun t4_1 => funext fun out5_0 => funext fun out5_1 => f79t30 N out5_2 k1 i6 m2_0 m2_1 m2_2 t4_0 t4_1 out5_0 out5_1 K) (by kernel_rfl) (by kernel_rfl)
noncomputable def f79c9 := codeAt (bodyOf Try.f79) [1,1,0,1,0,0]
noncomputable def f79p9 : Plan := .mk (some f79l3) none .n f79p11
theorem f79t9 {ρ : Type} (N : Nat) (out5_2 : List Int) (k1 : Int) (i6 : Int) (m2_0 : Int) (m2_1 : Int) (m2_2 : List Int) (t4_0 : Int) (t4_1 : Int) (out5_0 : Int) (out5_1 : Int) (K : KT ρ) : f79i N f79c9 f79p9 (f79s3 out5_2 k1 i6 m2_0 m2_1 m2_2 t4_0 t4_1 out5_0 out5_1) (joinK (some f79l3) K) =
  impl_mutated.Z9 N out5_2 k1 i6 m2_0 m2_1 m2_2 t4_0 t4_1 out5_0 out5_1 (fun out5_2 k1 i6 m2_0 m2_1 m2_2 t4_0 t4_1 out5_0 out5_1 => K .nrm (f79s3 out5_2 k1 i6 m2_0 m2_1 m2_2 t4_0 t4_1 out5_0 out5_1)) (fun out5_2 t4_0 t4_1 out5_0 out5_1 => K (.exit 0) (f79s8 out5_2 t4_0 t4_1 out5_0 out5_1)) :=
  viaSeq (fun k => impl_mutated.Z10 N out5_2 k1 i6 m2_0 m2_1 m2_2 t4_0 t4_1 out5_0 out5_1 k (fun out5_2 t4_0 t4_1 out5_0 out5_1 => K (.exit 0) (f79s8 out5_2 t4_0 t4_1 out5_0 out5_1))) (by kernel_rfl) (by kernel_rfl) (f79t10 N out5_2 k1 i6 m2_0 m2_1 m2_2 t4_0 t4_1 out5_0 out5_1 (seqK (fun σ => f79i N f79c11 f79p11 σ (joinK (some f79l3) K)) (joinK (some f79l3) K))) (funext fun out5_2 => funext fun k1 => funext fun i6 => funext fun m2_0 => funext fun m2_1 => funext fun m2_2 => funext fun t4_0 => funext fun t4_1 => funext fun out5_0 => funext fun out5_1 => f79t11 N out5_2 k1 i6 m2_0 m2_1 m2_2 t4_0 t4_1 out5_0 out5_1 K) (by kernel_rfl) (by kernel_rfl)
noncomputable def f79c8 := codeAt (bodyOf Try.f79) [1,1,0,1,0]
noncomputable def f79p8 : Plan := .mk none (some f79l3) f79p9 .n
noncomputable abbrev f79w8 {ρ : Type} (N : Nat) (M : Nat) (σ : St) (K : KT ρ) : Option ρ := loopC (fun σ K => f79i N f79c9 f79p9 σ K) f79l3 M σ K
theorem f79t8L {ρ : Type} (N : Nat) (K : KT ρ) : ∀ (M : Nat) (out5_2 : List Int) (k1 : Int) (i6 : Int) (m2_0 : Int) (m2_1 : Int) (m2_2 : List Int) (t4_0 : Int) (t4_1 : Int) (out5_0 : Int) (out5_1 : Int), f79w8 N M (f79s3 out5_2 k1 i6 m2_0 m2_1 m2_2 t4_0 t4_1 out5_0 out5_1) K =
  impl_mutated.Z8L N (fun out5_2 t4_0 t4_1 out5_0 out5_1 => K (.exit 0) (f79s8 out5_2 t4_0 t4_1 out5_0 out5_1)) M out5_2 k1 i6 m2_0 m2_1 m2_2 t4_0 t4_1 out5_0 out5_1
  | 0, _, _, _, _, _, _, _, _, _, _ => rfl
  | M + 1, out5_2, k1, i6, m2_0, m2_1, m2_2, t4_0, t4_1, out5_0, out5_1 => viaRound (fun k => impl_mutated.Z9 N out5_2 k1 i6 m2_0 m2_1 m2_2 t4_0 t4_1 out5_0 out5_1 k (fun out5_2 t4_0 t4_1 out5_0 out5_1 => K (.exit 0) (f79s8 out5_2 t4_0 t4_1 out5_0 out5_1))) (f79t9 N out5_2 k1 i6 m2_0 m2_1 m2_2 t4_0 t4_1 out5_0 out5_1 (seqK (fun σ => f79w8 N M σ K) K)) (funext fun out5_2 => funext fun k1 => funext fun i6 => funext fun m2_0 => funext fun m2_1 => funext fun m2_2 => funext fun t4_0 => funext fun t4_1 => funext fun out5_0 => funext fun out5_1 => f79t8L N K M out5_2 k1 i6 m2_0 m2_1 m2_2 t4_0 t4_1 out5_0 out5_1) (by kernel_rfl) (by kernel_rfl)
theorem f79t8 {ρ : Type} (N : Nat) (out5_2 : List Int) (k1 : Int) (i6 : Int) (m2_0 : Int) (m2_1 : Int) (m2_2 : List Int) (t4_0 : Int) (t4_1 : Int) (out5_0 : Int) (out5_1 : Int) (K : KT ρ) : f79i N f79c8 f79p8 (f79s3 out5_2 k1 i6 m2_0 m2_1 m2_2 t4_0 t4_1 out5_0 out5_1) (joinK (some f79l8) K) =
  impl_mutated.Z8 N out5_2 k1 i6 m2_0 m2_1 m2_2 t4_0 t4_1 out5_0 out5_1 (fun out5_2 t4_0 t4_1 out5_0 out5_1 => K (.exit 0) (f79s8 out5_2 t4_0 t4_1 out5_0 out5_1)) :=
  viaLoop (by kernel_rfl) (by kernel_rfl) (σ' := f79s3 out5_2 k1 i6 m2_0 m2_1 m2_2 t4_0 t4_1 out5_0 out5_1) (by kernel_rfl) (f79t8L N (joinK (some f79l8) K) N out5_2 k1 i6 m2_0 m2_1 m2_2 t4_0 t4_1 out5_0 out5_1) (by kernel_rfl)
noncomputable def f79c7 := codeAt (bodyOf Try.f79) [1,1,0,1]
noncomputable def f79p7 : Plan := .mk (some f79l8) none f79p8 .n
theorem f79t7 {ρ : Type} (N : Nat) (out5_2 : List Int) (k1 : Int) (i6 : Int) (m2_0 : Int) (m2_1 : Int) (m2_2 : List Int) (t4_0 : Int) (t4_1 : Int) (out5_0 : Int) (out5_1 : Int) (K : KT ρ) : f79i N f79c7 f79p7 (f79s3 out5_2 k1 i6 m2_0 m2_1 m2_2 t4_0 t4_1 out5_0 out5_1) (joinK (some f79l8) K) =
  impl_mutated.Z7 N out5_2 k1 i6 m2_0 m2_1 m2_2 t4_0 t4_1 out5_0 out5_1 (fun out5_2 t4_0 t4_1 out5_0 out5_1 => K .nrm (f79s8 out5_2 t4_0 t4_1 out5_0 out5_1)) :=
  viaBlock (by kernel_rfl) (by kernel_rfl) (f79t8 N out5_2 k1 i6 m2_0 m2_1 m2_2 t4_0 t4_1 out5_0 out5_1 (blockK 0 (joinK (some f79l8) K))) (by kernel_rfl)
noncomputable def f79c5 := codeAt (bodyOf Try.f79) [1,1,0]
noncomputable def f79p5 : Plan := .mk (some f79l3) none .n f79p7
theorem f79t5 {ρ : Type} (N : Nat) (out5_2 : List Int) (k1 : Int) (m2_0 : Int) (m2_1 : Int) (m2_2 : List Int) (t4_0 : Int) (t4_1 : Int) (out5_0 : Int) (out5_1 : Int) (K : KT ρ) : f79i N f79c5 f79p5 (f79s2 out5_2 k1 m2_0 m2_1 m2_2 t4_0 t4_1 out5_0 out5_1) (joinK (some f79l8) K) =
  impl_mutated.Z5 N out5_2 k1 m2_0 m2_1 m2_2 t4_0 t4_1 out5_0 out5_1 (fun out5_2 t4_0 t4_1 out5_0 out5_1 => K .nrm (f79s8 out5_2 t4_0 t4_1 out5_0 out5_1)) :=
  viaSeq (fun k => impl_mutated.Z6 N out5_2 k1 m2_0 m2_1 m2_2 t4_0 t4_1 out5_0 out5_1 k) (by kernel_rfl) (by kernel_rfl) (f79t6 N out5_2 k1 m2_0 m2_1 m2_2 t4_0 t4_1 out5_0 out5_1 (seqK (fun σ => f79i N f79c7 f79p7 σ (joinK (some f79l8) K)) (joinK (some f79l8) K))) (funext fun out5_2 => funext fun k1 => funext fun i6 => funext fun m2_0 => funext fun m2_1 => funext fun m2_2 => funext fun t4_0 => funext fun t4_1 => funext fun out5_0 => funext fun out5_1 => f79t7 N out5_2 k1 i6 m2_0 m2_1 m2_2 t4_0 t4_1 out5_0 out5_1 K) (by kernel_rfl) (by kernel_rfl)
noncomputable def f79c31 := codeAt (bodyOf Try.f79) [1,1,1]
theorem f79t31 {ρ : Type} (N : Nat) (out5_2 : List Int) (t4_0 : Int) (t4_1 : Int) (out5_0 : Int) (out5_1 : Int) (K : KT ρ) : f79i N f79c31 .n (f79s8 out5_2 t4_0 t4_1 out5_0 out5_1) (joinK (some f79lE) K) =
  impl_mutated.Z31 N out5_2 t4_0 t4_1 out5_0 out5_1 (fun t4_2 t4_0 t4_1 => K .ret (f79s9 t4_2 t4_0 t4_1)) := by kernel_rfl
noncomputable def f79c4 := codeAt (bodyOf Try.f79) [1,1]
noncomputable def f79p4 : Plan := .mk (some f79l8) none f79p5 .n
theorem f79t4 {ρ : Type} (N : Nat) (out5_2 : List Int) (k1 : Int) (m2_0 : Int) (m2_1 : Int) (m2_2 : List Int) (t4_0 : Int) (t4_1 : Int) (out5_0 : Int) (out5_1 : Int) (K : KT ρ) : f79i N f79c4 f79p4 (f79s2 out5_2 k1 m2_0 m2_1 m2_2 t4_0 t4_1 out5_0 out5_1) (joinK (some f79lE) K) =
  impl_mutated.Z4 N out5_2 k1 m2_0 m2_1 m2_2 t4_0 t4_1 out5_0 out5_1 (fun t4_2 t4_0 t4_1 => K .ret (f79s9 t4_2 t4_0 t4_1)) :=
  viaSeq (fun k => impl_mutated.Z5 N out5_2 k1 m2_0 m2_1 m2_2 t4_0 t4_1 out5_0 out5_1 k) (by kernel_rfl) (by kernel_rfl) (f79t5 N out5_2 k1 m2_0 m2_1 m2_2 t4_0 t4_1 out5_0 out5_1 (seqK (fun σ => f79i N f79c31 .n σ (joinK (some f79lE) K)) (joinK (some f79lE) K))) (funext fun out5_2 => funext fun t4_0 => funext fun t4_1 => funext fun out5_0 => funext fun out5_1 => f79t31 N out5_2 t4_0 t4_1 out5_0 out5_1 K) (by kernel_rfl) (by kernel_rfl)
noncomputable def f79c2 := codeAt (bodyOf Try.f79) [1]
noncomputable def f79p2 : Plan := .mk (some f79l2) none .n f79p4
theorem f79t2 {ρ : Type} (N : Nat) (k1 : Int) (m2_0 : Int) (m2_1 : Int) (m2_2 : List Int) (t4_0 : Int) (t4_1 : Int) (K : KT ρ) : f79i N f79c2 f79p2 (f79s1 k1 m2_0 m2_1 m2_2 t4_0 t4_1) (joinK (some f79lE) K) =
  impl_mutated.Z2 N k1 m2_0 m2_1 m2_2 t4_0 t4_1 (fun t4_2 t4_0 t4_1 => K .ret (f79s9 t4_2 t4_0 t4_1)) :=
  viaSeq (fun k => impl_mutated.Z3 N k1 m2_0 m2_1 m2_2 t4_0 t4_1 k) (by kernel_rfl) (by kernel_rfl) (f79t3 N k1 m2_0 m2_1 m2_2 t4_0 t4_1 (seqK (fun σ => f79i N f79c4 f79p4 σ (joinK (some f79lE) K)) (joinK (some f79lE) K))) (funext fun out5_2 => funext fun k1 => funext fun m2_0 => funext fun m2_1 => funext fun m2_2 => funext fun t4_0 => funext fun t4_1 => funext fun out5_0 => funext fun out5_1 => f79t4 N out5_2 k1 m2_0 m2_1 m2_2 t4_0 t4_1 out5_0 out5_1 K) (by kernel_rfl) (by kernel_rfl)
noncomputable def f79c0 := codeAt (bodyOf Try.f79) []
noncomputable def f79p0 : Plan := .mk (some f79l1) none .n f79p2
theorem f79t0 {ρ : Type} (N : Nat) (m0 : Int × Int × List Int) (k1 : Int) (K : KT ρ) : f79i N f79c0 f79p0 (f79s0 m0 k1) (joinK (some f79lE) K) =
  impl_mutated.Z0 N m0 k1 (fun t4_2 t4_0 t4_1 => K .ret (f79s9 t4_2 t4_0 t4_1)) :=
  viaSeq (fun k => impl_mutated.Z1 N m0 k1 k) (by kernel_rfl) (by kernel_rfl) (f79t1 N m0 k1 (seqK (fun σ => f79i N f79c2 f79p2 σ (joinK (some f79lE) K)) (joinK (some f79lE) K))) (funext fun k1 => funext fun m2_0 => funext fun m2_1 => funext fun m2_2 => funext fun t4_0 => funext fun t4_1 => f79t2 N k1 m2_0 m2_1 m2_2 t4_0 t4_1 K) (by kernel_rfl) (by kernel_rfl)
theorem f79m (N : Nat) (m0 : Int × Int × List Int) (k1 : Int) : f79i N f79c0 f79p0 (f79s0 m0 k1) (joinK (some f79lE) (finK tab f79sig Try.f79.results.toList)) = impl_mutated.Z0 N m0 k1 (fun t4_2 t4_0 t4_1 => some ((), ((t4_0, (t4_1, t4_2)), ()))) :=
  (f79t0 N m0 k1 (finK tab f79sig Try.f79.results.toList)).trans (by kernel_rfl)
theorem f79ok (h : impl_mutated.Spec) : EntryOk Try.prog 79 e79 :=
  entry_of_code (sig := f79sig) (c := f79c0) (pl := f79p0) (je := (some f79lE)) (B := f79B) Try.func79 (by kernel_rfl) (by kernel_rfl) (by kernel_rfl) tabOk f79GOk (by kernel_rfl) (by kernel_rfl) (by kernel_rfl) (by kernel_rfl) fun X hb hp => by
    obtain ⟨m0, k1, _⟩ := X
    obtain ⟨N, h⟩ := h m0 k1 hb.1 hp
    exact ⟨N, (f79m N m0 k1).trans (h N (Nat.le_refl N))⟩
theorem e79ok : EntryOk Try.prog 79 e79 := f79ok impl_mutated.ok
end Go.Fw
set_option linter.unusedVariables false
set_option linter.unusedSimpArgs false
set_option maxRecDepth 100000
namespace Go.Fw
open Go.Proofs
/-! ### loop.example/g03115/impl.MutateMatrix -/
noncomputable def f40sig : Sig := ⟨[⟨.pair (.int .i64) (.pair (.int .i64) (.sl 3 (.int .i64))), true, false⟩, ⟨.int .i64, false, false⟩], [⟨.pair (.int .i64) (.pair (.int .i64) (.sl 3 (.int .i64))), true, false⟩, ⟨.bool, false, false⟩]⟩
noncomputable def e40 : Entry := ⟨f40sig, none, fun X => ((), ((impl_MutateMatrix.g X.1 X.2.1).1, ((impl_MutateMatrix.g X.1 X.2.1).2, ())))⟩
noncomputable def f40G : Nat → Option Entry := addG (addG (addG (fun _ => none) 61 e61) 65 e65) 79 e79
theorem f40GOk : GOk Try.prog f40G := (((GOk.nil).add e61ok (by kernel_rfl)).add e65ok (by kernel_rfl)).add e79ok (by kernel_rfl)
noncomputable def f40lE : Clean := ⟨[], [], [], [], []⟩
noncomputable def f40s0 (m0 : Int × Int × List Int) (k1 : Int) : St := initSt f40sig.ps (m0, (k1, ()))
noncomputable def f40s1 (t4_2 : List Int) (t5 : Bool) (t4_0 : Int) (t4_1 : Int) : St := stOf [(4, .c (.box 4 0)), (5, .c (.bool t5))] [(4, (26, [.int .i64 t4_0, .int .i64 t4_1, .own 20000258]))] [(20000258, (⟨3, .int .i64, t4_2, true, false⟩ : Row))]
noncomputable def f40l1 : Clean := ⟨[4, 5], [4], [⟨⟨true, 4, 2⟩, 30000000, 3, .int .i64, true⟩], [], [(⟨true, 4, 2⟩, 20000258)]⟩
noncomputable def f40B : Nat → Option Clean := lookL [(1000000, f40l1)]
noncomputable abbrev f40i {ρ : Type} (N : Nat) (c : Code) (p : Plan) (σ : St) (K : KT ρ) : Option ρ := iCode f40G tab f40B N c p σ K
noncomputable def f40c0 := codeAt (bodyOf Try.f40) []
theorem f40t0 {ρ : Type} (N : Nat) (m0 : Int × Int × List Int) (k1 : Int) (K : KT ρ) : f40i N f40c0 .n (f40s0 m0 k1) (joinK (some f40lE) K) =
  impl_MutateMatrix.Z0 N m0 k1 (fun t4_2 t5 t4_0 t4_1 => K .ret (f40s1 t4_2 t5 t4_0 t4_1)) := by kernel_rfl
theorem f40m (N : Nat) (m0 : Int × Int × List Int) (k1 : Int) : f40i N f40c0 .n (f40s0 m0 k1) (joinK (some f40lE) (finK tab f40sig Try.f40.results.toList)) = impl_MutateMatrix.Z0 N m0 k1 (fun t4_2 t5 t4_0 t4_1 => some ((), ((t4_0, (t4_1, t4_2)), (t5, ())))) :=
  (f40t0 N m0 k1 (finK tab f40sig Try.f40.results.toList)).trans (by kernel_rfl)
theorem f40ok (h : impl_MutateMatrix.Spec) : EntryOk Try.prog 40 e40 :=
  entry_of_code (sig := f40sig) (c := f40c0) (pl := .n) (je := (some f40lE)) (B := f40B) Try.func40 (by kernel_rfl) (by kernel_rfl) (by kernel_rfl) tabOk f40GOk (by kernel_rfl) (by kernel_rfl) (by kernel_rfl) (by kernel_rfl) fun X hb hp => by
    obtain ⟨m0, k1, _⟩ := X
    obtain ⟨N, h⟩ := h m0 k1 hb.1
    exact ⟨N, (f40m N m0 k1).trans (h N (Nat.le_refl N))⟩
theorem e40ok : EntryOk Try.prog 40 e40 := f40ok impl_MutateMatrix.ok
end Go.Fw
set_option linter.unusedVariables false
set_option linter.unusedSimpArgs false
set_option maxRecDepth 100000
namespace Go.Fw
open Go.Proofs
/-! ### loop.example/g03115/impl.MutateAlong -/
noncomputable def f17sig : Sig := ⟨[⟨.pair (.int .i64) (.pair (.int .i64) (.sl 3 (.int .i64))), true, false⟩, ⟨.sl 3 (.int .i64), false, false⟩], [⟨.pair (.int .i64) (.pair (.int .i64) (.sl 3 (.int .i64))), true, false⟩, ⟨.bool, false, false⟩]⟩
noncomputable def e17 : Entry := ⟨f17sig, none, fun X => ((), ((impl_MutateAlong.g X.1 X.2.1).1, ((impl_MutateAlong.g X.1 X.2.1).2, ())))⟩
noncomputable def f17G : Nat → Option Entry := addG (addG (addG (fun _ => none) 40 e40) 61 e61) 62 e62
theorem f17GOk : GOk Try.prog f17G := (((GOk.nil).add e40ok (by kernel_rfl)).add e61ok (by kernel_rfl)).add e62ok (by kernel_rfl)
noncomputable def f17lE : Clean := ⟨[], [], [], [], []⟩
noncomputable def f17s0 (m0 : Int × Int × List Int) (ks1 : List Int) : St := initSt f17sig.ps (m0, (ks1, ()))
noncomputable def f17s1 (ks1 : List Int) (m2_0 : Int) (m2_1 : Int) (m2_2 : List Int) (t4_0 : Int) (t4_1 : Int) : St := stOf [(1, .c (.sn 3 (.int .i64) ks1 none)), (2, .c (.box 2 0)), (4, .c (.box 4 0))] [(2, (26, [.int .i64 m2_0, .int .i64 m2_1, .sn 3 (.int .i64) m2_2 none])), (4, (26, [.int .i64 t4_0, .int .i64 t4_1, .nil]))] []
noncomputable def f17l1 : Clean := ⟨[1, 2, 4], [2, 4], [], [], []⟩
noncomputable def f17s2 (out6_2 : List Int) (ks1 : List Int) (t4_0 : Int) (t4_1 : Int) (out6_0 : Int) (out6_1 : Int) : St := stOf [(1, .c (.sn 3 (.int .i64) ks1 none)), (4, .c (.box 4 0)), (6, .c (.box 6 0))] [(4, (26, [.int .i64 t4_0, .int .i64 t4_1, .nil])), (6, (26, [.int .i64 out6_0, .int .i64 out6_1, .own 20000386]))] [(20000386, (⟨3, .int .i64, out6_2, true, false⟩ : Row))]
noncomputable def f17l2 : Clean := ⟨[1, 4, 6], [4, 6], [], [], [(⟨true, 6, 2⟩, 20000386)]⟩
noncomputable def f17s3 (out6_2 : List Int) (t27 : List Int) (t28 : Int) (t29 : Int) (t4_0 : Int) (t4_1 : Int) (out6_0 : Int) (out6_1 : Int) : St := stOf [(4, .c (.box 4 0)), (6, .c (.box 6 0)), (27, .c (.sn 3 (.int .i64) t27 none)), (28, .c (.int .i64 t28)), (29, .c (.int .i64 t29))] [(4, (26, [.int .i64 t4_0, .int .i64 t4_1, .nil])), (6, (26, [.int .i64 out6_0, .int .i64 out6_1, .own 20000386]))] [(20000386, (⟨3, .int .i64, out6_2, true, false⟩ : Row))]
noncomputable def f17l3 : Clean := ⟨[4, 6, 27, 28, 29], [4, 6], [], [], [(⟨true, 6, 2⟩, 20000386)]⟩
noncomputable def f17s4 (out6_2 : List Int) (t4_0 : Int) (t4_1 : Int) (out6_0 : Int) (out6_1 : Int) : St := stOf [(4, .c (.box 4 0)), (6, .c (.box 6 0))] [(4, (26, [.int .i64 t4_0, .int .i64 t4_1, .nil])), (6, (26, [.int .i64 out6_0, .int .i64 out6_1, .own 20000386]))] [(20000386, (⟨3, .int .i64, out6_2, true, false⟩ : Row))]
noncomputable def f17l4 : Clean := ⟨[4, 6], [4, 6], [], [], [(⟨true, 6, 2⟩, 20000386)]⟩
noncomputable def f17s5 (t4_2 : List Int) (t5 : Bool) (t4_0 : Int) (t4_1 : Int) : St := stOf [(4, .c (.box 4 0)), (5, .c (.bool t5))] [(4, (26, [.int .i64 t4_0, .int .i64 t4_1, .own 20000258]))] [(20000258, (⟨3, .int .i64, t4_2, true, false⟩ : Row))]
noncomputable def f17l5 : Clean := ⟨[4, 5], [4], [⟨⟨true, 4, 2⟩, 30000000, 3, .int .i64, true⟩], [], [(⟨true, 4, 2⟩, 20000258)]⟩
noncomputable def f17B : Nat → Option Clean := lookL [(0, f17l4), (1000000, f17l5)]
noncomputable abbrev f17i {ρ : Type} (N : Nat) (c : Code) (p : Plan) (σ : St) (K : KT ρ) : Option ρ := iCode f17G tab f17B N c p σ K
noncomputable def f17c1 := codeAt (bodyOf Try.f17) [0]
theorem f17t1 {ρ : Type} (N : Nat) (m0 : Int × Int × List Int) (ks1 : List Int) (K : KT ρ) : f17i N f17c1 .n (f17s0 m0 ks1) (joinK (some f17l1) K) =
  impl_MutateAlong.Z1 N m0 ks1 (fun ks1 m2_0 m2_1 m2_2 t4_0 t4_1 => K .nrm (f17s1 ks1 m2_0 m2_1 m2_2 t4_0 t4_1)) := by kernel_rfl
noncomputable def f17c3 := codeAt (bodyOf Try.f17) [1,0]
theorem f17t3 {ρ : Type} (N : Nat) (ks1 : List Int) (m2_0 : Int) (m2_1 : Int) (m2_2 : List Int) (t4_0 : Int) (t4_1 : Int) (K : KT ρ) : f17i N f17c3 .n (f17s1 ks1 m2_0 m2_1 m2_2 t4_0 t4_1) (joinK (some f17l1) K) =
  impl_MutateAlong.Z3 N ks1 m2_0 m2_1 m2_2 t4_0 t4_1 (fun ks1 m2_0 m2_1 m2_2 t4_0 t4_1 => K .nrm (f17s1 ks1 m2_0 m2_1 m2_2 t4_0 t4_1)) (fun t4_2 t5 t4_0 t4_1 => K .ret (f17s5 t4_2 t5 t4_0 t4_1)) := by kernel_rfl
noncomputable def f17c5 := codeAt (bodyOf Try.f17) [1,1,0]
theorem f17t5 {ρ : Type} (N : Nat) (ks1 : List Int) (m2_0 : Int) (m2_1 : Int) (m2_2 : List Int) (t4_0 : Int) (t4_1 : Int) (K : KT ρ) : f17i N f17c5 .n (f17s1 ks1 m2_0 m2_1 m2_2 t4_0 t4_1) (joinK (some f17l2) K) =
  impl_MutateAlong.Z5 N ks1 m2_0 m2_1 m2_2 t4_0 t4_1 (fun out6_2 ks1 t4_0 t4_1 out6_0 out6_1 => K .nrm (f17s2 out6_2 ks1 t4_0 t4_1 out6_0 out6_1)) := by kernel_rfl
noncomputable def f17c7 := codeAt (bodyOf Try.f17) [1,1,1,0]
theorem f17t7 {ρ : Type} (N : Nat) (out6_2 : List Int) (ks1 : List Int) (t4_0 : Int) (t4_1 : Int) (out6_0 : Int) (out6_1 : Int) (K : KT ρ) : f17i N f17c7 .n (f17s2 out6_2 ks1 t4_0 t4_1 out6_0 out6_1) (joinK (some f17l2) K) =
  impl_MutateAlong.Z7 N out6_2 ks1 t4_0 t4_1 out6_0 out6_1 (fun out6_2 ks1 t4_0 t4_1 out6_0 out6_1 => K .nrm (f17s2 out6_2 ks1 t4_0 t4_1 out6_0 out6_1)) := by kernel_rfl
noncomputable def f17c10 := codeAt (bodyOf Try.f17) [1,1,1,1,0,0]
theorem f17t10 {ρ : Type} (N : Nat) (out6_2 : List Int) (ks1 : List Int) (t4_0 : Int) (t4_1 : Int) (out6_0 : Int) (out6_1 : Int) (K : KT ρ) : f17i N f17c10 .n (f17s2 out6_2 ks1 t4_0 t4_1 out6_0 out6_1) (joinK (some f17l3) K) =
  impl_MutateAlong.Z10 N out6_2 ks1 t4_0 t4_1 out6_0 out6_1 (fun out6_2 t27 t28 t29 t4_0 t4_1 out6_0 out6_1 => K .nrm (f17s3 out6_2 t27 t28 t29 t4_0 t4_1 out6_0 out6_1)) := by kernel_rfl
noncomputable def f17c13 := codeAt (bodyOf Try.f17) [1,1,1,1,0,1,0,0]
theorem f17t13 {ρ : Type} (N : Nat) (out6_2 : List Int) (t27 : List Int) (t28 : Int) (t29 : Int) (t4_0 : Int) (t4_1 : Int) (out6_0 : Int) (out6_1 : Int) (K : KT ρ) : f17i N f17c13 .n (f17s3 out6_2 t27 t28 t29 t4_0 t4_1 out6_0 out6_1) (joinK (some f17l3) K) =
  impl_MutateAlong.Z13 N out6_2 t27 t28 t29 t4_0 t4_1 out6_0 out6_1 (fun out6_2 t27 t28 t29 t4_0 t4_1 out6_0 out6_1 => K .nrm (f17s3 out6_2 t27 t28 t29 t4_0 t4_1 out6_0 out6_1)) (fun out6_2 t4_0 t4_1 out6_0 out6_1 => K (.exit 0) (f17s4 out6_2 t4_0 t4_1 out6_0 out6_1)) (fun t4_2 t5 t4_0 t4_1 => K .ret (f17s5 t4_2 t5 t4_0 t4_1)) := by kernel_rfl
noncomputable def f17c12 := codeAt (bodyOf Try.f17) [1,1,1,1,0,1,0]
noncomputable def f17p12 : Plan := .mk none (some f17l3) .n .n
noncomputable abbrev f17w12 {ρ : Type} (N : Nat) (M : Nat) (σ : St) (K : KT ρ) : Option ρ := loopC (fun σ K => f17i N f17c13 .n σ K) f17l3 M σ K
theorem f17t12L {ρ : Type} (N : Nat) (K : KT ρ) : ∀ (M : Nat) (out6_2 : List Int) (t27 : List Int) (t28 : Int) (t29 : Int) (t4_0 : Int) (t4_1 : Int) (out6_0 : Int) (out6_1 : Int), f17w12 N M (f17s3 out6_2 t27 t28 t29 t4_0 t4_1 out6_0 out6_1) K =
  impl_MutateAlong.Z12L N (fun out6_2 t4_0 t4_1 out6_0 out6_1 => K (.exit 0) (f17s4 out6_2 t4_0 t4_1 out6_0 out6_1)) (fun t4_2 t5 t4_0 t4_1 => K .ret (f17s5 t4_2 t5 t4_0 t4_1)) M out6_2 t27 t28 t29 t4_0 t4_1 out6_0 out6_1
  | 0, _, _, _, _, _, _, _, _ => rfl
  | M + 1, out6_2, t27, t28, t29, t4_0, t4_1, out6_0, out6_1 => viaRound (fun k => impl_MutateAlong.Z13 N out6_2 t27 t28 t29 t4_0 t4_1 out6_0 out6_1 k (fun out6_2 t4_0 t4_1 out6_0 out6_1 => K (.exit 0) (f17s4 out6_2 t4_0 t4_1 out6_0 out6_1)) (fun t4_2 t5 t4_0 t4_1 => K .ret (f17s5 t4_2 t5 t4_0 t4_1))) (f17t13 N out6_2 t27 t28 t29 t4_0 t4_1 out6_0 out6_1 (seqK (fun σ => f17w12 N M σ K) K)) (funext fun out6_2 => funext fun t27 => funext fun t28 => funext fun t29 => funext fun t4_0 => funext fun t4_1 => funext fun out6_0 => funext fun out6_1 => f17t12L N K M out6_2 t27 t28 t29 t4_0 t4_1 out6_0 out6_1) (by kernel_rfl) (by kernel_rfl)
theorem f17t12 {ρ : Type} (N : Nat) (out6_2 : List Int) (t27 : List Int) (t28 : Int) (t29 : Int) (t4_0 : Int) (t4_1 : Int) (out6_0 : Int) (out6_1 : Int) (K : KT ρ) : f17i N f17c12 f17p12 (f17s3 out6_2 t27 t28 t29 t4_0 t4_1 out6_0 out6_1) (joinK (some f17l4) K) =
  impl_MutateAlong.Z12 N out6_2 t27 t28 t29 t4_0 t4_1 out6_0 out6_1 (fun out6_2 t4_0 t4_1 out6_0 out6_1 => K (.exit 0) (f17s4 out6_2 t4_0 t4_1 out6_0 out6_1)) (fun t4_2 t5 t4_0 t4_1 => K .ret (f17s5 t4_2 t5 t4_0 t4_1)) :=
  viaLoop (by kernel_rfl) (by kernel_rfl) (σ' := f17s3 out6_2 t27 t28 t29 t4_0 t4_1 out6_0 out6_1) (by kernel_rfl) (f17t12L N (joinK (some f17l4) K) N out6_2 t27 t28 t29 t4_0 t4_1 out6_0 out6_1) (by kernel_rfl)
noncomputable def f17c11 := codeAt (bodyOf Try.f17) [1,1,1,1,0,1]
noncomputable def f17p11 : Plan := .mk (some f17l4) none f17p12 .n
theorem f17t11 {ρ : Type} (N : Nat) (out6_2 : List Int) (t27 : List Int) (t28 : Int) (t29 : Int) (t4_0 : Int) (t4_1 : Int) (out6_0 : Int) (out6_1 : Int) (K : KT ρ) : f17i N f17c11 f17p11 (f17s3 out6_2 t27 t28 t29 t4_0 t4_1 out6_0 out6_1) (joinK (some f17l4) K) =
  impl_MutateAlong.Z11 N out6_2 t27 t28 t29 t4_0 t4_1 out6_0 out6_1 (fun out6_2 t4_0 t4_1 out6_0 out6_1 => K .nrm (f17s4 out6_2 t4_0 t4_1 out6_0 out6_1)) (fun t4_2 t5 t4_0 t4_1 => K .ret (f17s5 t4_2 t5 t4_0 t4_1)) :=
  viaBlock (by kernel_rfl) (by kernel_rfl) (f17t12 N out6_2 t27 t28 t29 t4_0 t4_1 out6_0 out6_1 (blockK 0 (joinK (some f17l4) K))) (by kernel_rfl)
noncomputable def f17c9 := codeAt (bodyOf Try.f17) [1,1,1,1,0]
noncomputable def f17p9 : Plan := .mk (some f17l3) none .n f17p11
theorem f17t9 {ρ : Type} (N : Nat) (out6_2 : List Int) (ks1 : List Int) (t4_0 : Int) (t4_1 : Int) (out6_0 : Int) (out6_1 : Int) (K : KT ρ) : f17i N f17c9 f17p9 (f17s2 out6_2 ks1 t4_0 t4_1 out6_0 out6_1) (joinK (some f17l4) K) =
  impl_MutateAlong.Z9 N out6_2 ks1 t4_0 t4_1 out6_0 out6_1 (fun out6_2 t4_0 t4_1 out6_0 out6_1 => K .nrm (f17s4 out6_2 t4_0 t4_1 out6_0 out6_1)) (fun t4_2 t5 t4_0 t4_1 => K .ret (f17s5 t4_2 t5 t4_0 t4_1)) :=
  viaSeq (fun k => impl_MutateAlong.Z10 N out6_2 ks1 t4_0 t4_1 out6_0 out6_1 k) (by kernel_rfl) (by kernel_rfl) (f17t10 N out6_2 ks1 t4_0 t4_1 out6_0 out6_1 (seqK (fun σ => f17i N f17c11 f17p11 σ (joinK (some f17l4) K)) (joinK (some f17l4) K))) (funext fun out6_2 => funext fun t27 => funext fun t28 => funext fun t29 => funext fun t4_0 => funext fun t4_1 => funext fun out6_0 => funext fun out6_1 => f17t11 N out6_2 t27 t28 t29 t4_0 t4_1 out6_0 out6_1 K) (by kernel_rfl) (by kernel_rfl)
noncomputable def f17c14 := codeAt (bodyOf Try.f17) [1,1,1,1,1]
theorem f17t14 {ρ : Type} (N : Nat) (out6_2 : List Int) (t4_0 : Int) (t4_1 : Int) (out6_0 : Int) (out6_1 : Int) (K : KT ρ) : f17i N f17c14 .n (f17s4 out6_2 t4_0 t4_1 out6_0 out6_1) (joinK (some f17lE) K) =
  impl_MutateAlong.Z14 N out6_2 t4_0 t4_1 out6_0 out6_1 (fun t4_2 t5 t4_0 t4_1 => K .ret (f17s5 t4_2 t5 t4_0 t4_1)) := by kernel_rfl
noncomputable def f17c8 := codeAt (bodyOf Try.f17) [1,1,1,1]
noncomputable def f17p8 : Plan := .mk (some f17l4) none f17p9 .n
theorem f17t8 {ρ : Type} (N : Nat) (out6_2 : List Int) (ks1 : List Int) (t4_0 : Int) (t4_1 : Int) (out6_0 : Int) (out6_1 : Int) (K : KT ρ) : f17i N f17c8 f17p8 (f17s2 out6_2 ks1 t4_0 t4_1 out6_0 out6_1) (joinK (some f17lE) K) =
  impl_MutateAlong.Z8 N out6_2 ks1 t4_0 t4_1 out6_0 out6_1 (fun t4_2 t5 t4_0 t4_1 => K .ret (f17s5 t4_2 t5 t4_0 t4_1)) :=
  viaSeq (fun k => impl_MutateAlong.Z9 N out6_2 ks1 t4_0 t4_1 out6_0 out6_1 k (fun t4_2 t5 t4_0 t4_1 => K .ret (f17s5 t4_2 t5 t4_0 t4_1))) (by kernel_rfl) (by kernel_rfl) (f17t9 N out6_2 ks1 t4_0 t4_1 out6_0 out6_1 (seqK (fun σ => f17i N f17c14 .n σ (joinK (some f17lE) K)) (joinK (some f17lE) K))) (funext fun out6_2 => funext fun t4_0 => funext fun t4_1 => funext fun out6_0 => funext fun out6_1 => f17t14 N out6_2 t4_0 t4_1 out6_0 out6_1 K) (by kernel_rfl) (by kernel_rfl)
noncomputable def f17c6 := codeAt (bodyOf Try.f17) [1,1,1]
noncomputable def f17p6 : Plan := .mk (some f17l2) none .n f17p8
theorem f17t6 {ρ : Type} (N : Nat) (out6_2 : List Int) (ks1 : List Int) (t4_0 : Int) (t4_1 : Int) (out6_0 : Int) (out6_1 : Int) (K : KT ρ) : f17i N f17c6 f17p6 (f17s2 out6_2 ks1 t4_0 t4_1 out6_0 out6_1) (joinK (some f17lE) K) =
  impl_MutateAlong.Z6 N out6_2 ks1 t4_0 t4_1 out6_0 out6_1 (fun t4_2 t5 t4_0 t4_1 => K .ret (f17s5 t4_2 t5 t4_0 t4_1)) :=
  viaSeq (fun k => impl_MutateAlong.Z7 N out6_2 ks1 t4_0 t4_1 out6_0 out6_1 k) (by kernel_rfl) (by kernel_rfl) (f17t7 N out6_2 ks1 t4_0 t4_1 out6_0 out6_1 (seqK (fun σ => f17i N f17c8 f17p8 σ (joinK (some f17lE) K)) (joinK (some f17lE) K))) (funext fun out6_2 => funext fun ks1 => funext fun t4_0 => funext fun t4_1 => funext fun out6_0 => funext fun out6_1 => f17t8 N out6_2 ks1 t4_0 t4_1 out6_0 out6_1 K) (by kernel_rfl) (by kernel_rfl)
noncomputable def f17c4 := codeAt (bodyOf Try.f17) [1,1]
noncomputable def f17p4 : Plan := .mk (some f17l2) none .n f17p6
theorem f17t4 {ρ : Type} (N : Nat) (ks1 : List Int) (m2_0 : Int) (m2_1 : Int) (m2_2 : List Int) (t4_0 : Int) (t4_1 : Int) (K : KT ρ) : f17i N f17c4 f17p4 (f17s1 ks1 m2_0 m2_1 m2_2 t4_0 t4_1) (joinK (some f17lE) K) =
  impl_MutateAlong.Z4 N ks1 m2_0 m2_1 m2_2 t4_0 t4_1 (fun t4_2 t5 t4_0 t4_1 => K .ret (f17s5 t4_2 t5 t4_0 t4_1)) :=
  viaSeq (fun k => impl_MutateAlong.Z5 N ks1 m2_0 m2_1 m2_2 t4_0 t4_1 k) (by kernel_rfl) (by kernel_rfl) (f17t5 N ks1 m2_0 m2_1 m2_2 t4_0 t4_1 (seqK (fun σ => f17i N f17c6 f17p6 σ (joinK (some f17lE) K)) (joinK (some f17lE) K))) (funext fun out6_2 => funext fun ks1 => funext fun t4_0 => funext fun t4_1 => funext fun out6_0 => funext fun out6_1 => f17t6 N out6_2 ks1 t4_0 t4_1 out6_0 out6_1 K) (by kernel_rfl) (by kernel_rfl)
noncomputable def f17c2 := codeAt (bodyOf Try.f17) [1]
noncomputable def f17p2 : Plan := .mk (some f17l1) none .n f17p4
theorem f17t2 {ρ : Type} (N : Nat) (ks1 : List Int) (m2_0 : Int) (m2_1 : Int) (m2_2 : List Int) (t4_0 : Int) (t4_1 : Int) (K : KT ρ) : f17i N f17c2 f17p2 (f17s1 ks1 m2_0 m2_1 m2_2 t4_0 t4_1) (joinK (some f17lE) K) =
  impl_MutateAlong.Z2 N ks1 m2_0 m2_1 m2_2 t4_0 t4_1 (fun t4_2 t5 t4_0 t4_1 => K .ret (f17s5 t4_2 t5 t4_0 t4_1)) :=
  viaSeq (fun k => impl_MutateAlong.Z3 N ks1 m2_0 m2_1 m2_2 t4_0 t4_1 k (fun t4_2 t5 t4_0 t4_1 => K .ret (f17s5 t4_2 t5 t4_0 t4_1))) (by kernel_rfl) (by kernel_rfl) (f17t3 N ks1 m2_0 m2_1 m2_2 t4_0 t4_1 (seqK (fun σ => f17i N f17c4 f17p4 σ (joinK (some f17lE) K)) (joinK (some f17lE) K))) (funext fun ks1 => funext fun m2_0 => funext fun m2_1 => funext fun m2_2 => funext fun t4_0 => funext fun t4_1 => f17t4 N ks1 m2_0 m2_1 m2_2 t4_0 t4_1 K) (by kernel_rfl) (by kernel_rfl)
noncomputable def f17c0 := codeAt (bodyOf Try.f17) []
noncomputable def f17p0 : Plan := .mk (some f17l1) none .n f17p2
theorem f17t0 {ρ : Type} (N : Nat) (m0 : Int × Int × List Int) (ks1 : List Int) (K : KT ρ) : f17i N f17c0 f17p0 (f17s0 m0 ks1) (joinK (some f17lE) K) =
  impl_MutateAlong.Z0 N m0 ks1 (fun t4_2 t5 t4_0 t4_1 => K .ret (f17s5 t4_2 t5 t4_0 t4_1)) :=
  viaSeq (fun k => impl_MutateAlong.Z1 N m0 ks1 k) (by kernel_rfl) (by kernel_rfl) (f17t1 N m0 ks1 (seqK (fun σ => f17i N f17c2 f17p2 σ (joinK (some f17lE) K)) (joinK (some f17lE) K))) (funext fun ks1 => funext fun m2_0 => funext fun m2_1 => funext fun m2_2 => funext fun t4_0 => funext fun t4_1 => f17t2 N ks1 m2_0 m2_1 m2_2 t4_0 t4_1 K) (by kernel_rfl) (by kernel_rfl)
theorem f17m (N : Nat) (m0 : Int × Int × List Int) (ks1 : List Int) : f17i N f17c0 f17p0 (f17s0 m0 ks1) (joinK (some f17lE) (finK tab f17sig Try.f17.results.toList)) = impl_MutateAlong.Z0 N m0 ks1 (fun t4_2 t5 t4_0 t4_1 => some ((), ((t4_0, (t4_1, t4_2)), (t5, ())))) :=
  (f17t0 N m0 ks1 (finK tab f17sig Try.f17.results.toList)).trans (by kernel_rfl)
theorem f17ok (h : impl_MutateAlong.Spec) : EntryOk Try.prog 17 e17 :=
  entry_of_code (sig := f17sig) (c := f17c0) (pl := f17p0) (je := (some f17lE)) (B := f17B) Try.func17 (by kernel_rfl) (by kernel_rfl) (by kernel_rfl) tabOk f17GOk (by kernel_rfl) (by kernel_rfl) (by kernel_rfl) (by kernel_rfl) fun X hb hp => by
    obtain ⟨m0, ks1, _⟩ := X
    obtain ⟨N, h⟩ := h m0 ks1 hb.1 hb.2.1
    exact ⟨N, (f17m N m0 ks1).trans (h N (Nat.le_refl N))⟩
theorem e17ok : EntryOk Try.prog 17 e17 := f17ok impl_MutateAlong.ok
end Go.Fw
set_option linter.unusedVariables false
set_option linter.unusedSimpArgs false
set_option maxRecDepth 100000
namespace Go.Fw
open Go.Proofs
/-! ### loop.example/g03115/laws.eqIntS -/
noncomputable def f44sig : Sig := ⟨[⟨.sl 3 (.int .i64), false, false⟩, ⟨.sl 3 (.int .i64), false, false⟩], [⟨.bool, false, false⟩]⟩
noncomputable def e44 : Entry := ⟨f44sig, none, fun X => ((), ((laws_eqIntS.g X.1 X.2.1), ()))⟩
noncomputable def f44G : Nat → Option Entry := (fun _ => none)
theorem f44GOk : GOk Try.prog f44G := GOk.nil
noncomputable def f44lE : Clean := ⟨[], [], [], [], []⟩
noncomputable def f44s0 (a0 : List Int) (b1 : List Int) : St := initSt f44sig.ps (a0, (b1, ()))
noncomputable def f44s1 (a0 : List Int) (b1 : List Int) : St := stOf [(0, .c (.sn 3 (.int .i64) a0 none)), (1, .c (.sn 3 (.int .i64) b1 none))] [] []
noncomputable def f44l1 : Clean := ⟨[0, 1], [], [], [], []⟩
noncomputable def f44s2 (a0 : List Int) (b1 : List Int) (i5 : Int) : St := stOf [(0, .c (.sn 3 (.int .i64) a0 none)), (1, .c (.sn 3 (.int .i64) b1 none)), (5, .c (.int .i64 i5))] [] []
noncomputable def f44l2 : Clean := ⟨[0, 1, 5], [], [], [], []⟩
noncomputable def f44s3  : St := stOf [] [] []
noncomputable def f44l3 : Clean := ⟨[], [], [], [], []⟩
noncomputable def f44s4 (t4 : Bool) : St := stOf [(4, .c (.bool t4))] [] []
noncomputable def f44l4 : Clean := ⟨[4], [], [], [], []⟩
noncomputable def f44B : Nat → Option Clean := lookL [(0, f44l3), (1000000, f44l4)]
noncomputable abbrev f44i {ρ : Type} (N : Nat) (c : Code) (p : Plan) (σ : St) (K : KT ρ) : Option ρ := iCode f44G tab f44B N c p σ K
noncomputable def f44c1 := codeAt (bodyOf Try.f44) [0]
theorem f44t1 {ρ : Type} (N : Nat) (a0 : List Int) (b1 : List Int) (K : KT ρ) : f44i N f44c1 .n (f44s0 a0 b1) (joinK (some f44l1) K) =
  laws_eqIntS.Z1 N a0 b1 (fun a0 b1 => K .nrm (f44s1 a0 b1)) := by kernel_rfl
noncomputable def f44c3 := codeAt (bodyOf Try.f44) [1,0]
theorem f44t3 {ρ : Type} (N : Nat) (a0 : List Int) (b1 : List Int) (K : KT ρ) : f44i N f44c3 .n (f44s1 a0 b1) (joinK (some f44l1) K) =
  laws_eqIntS.Z3 N a0 b1 (fun a0 b1 => K .nrm (f44s1 a0 b1)) (fun t4 => K .ret (f44s4 t4)) := by kernel_rfl
noncomputable def f44c6 := codeAt (bodyOf Try.f44) [1,1,0,0]
theorem f44t6 {ρ : Type} (N : Nat) (a0 : List Int) (b1 : List Int) (K : KT ρ) : f44i N f44c6 .n (f44s1 a0 b1) (joinK (some f44l2) K) =
  laws_eqIntS.Z6 N a0 b1 (fun a0 b1 i5 => K .nrm (f44s2 a0 b1 i5)) := by kernel_rfl
noncomputable def f44c9 := codeAt (bodyOf Try.f44) [1,1,0,1,0,0]
theorem f44t9 {ρ : Type} (N : Nat) (a0 : List Int) (b1 : List Int) (i5 : Int) (K : KT ρ) : f44i N f44c9 .n (f44s2 a0 b1 i5) (joinK (some f44l2) K) =
  laws_eqIntS.Z9 N a0 b1 i5 (fun a0 b1 i5 => K .nrm (f44s2 a0 b1 i5)) (K (.exit 0) f44s3) (fun t4 => K .ret (f44s4 t4)) := by kernel_rfl
noncomputable def f44c8 := codeAt (bodyOf Try.f44) [1,1,0,1,0]
noncomputable def f44p8 : Plan := .mk none (some f44l2) .n .n
noncomputable abbrev f44w8 {ρ : Type} (N : Nat) (M : Nat) (σ : St) (K : KT ρ) : Option ρ := loopC (fun σ K => f44i N f44c9 .n σ K) f44l2 M σ K
theorem f44t8L {ρ : Type} (N : Nat) (K : KT ρ) : ∀ (M : Nat) (a0 : List Int) (b1 : List Int) (i5 : Int), f44w8 N M (f44s2 a0 b1 i5) K =
  laws_eqIntS.Z8L N (K (.exit 0) f44s3) (fun t4 => K .ret (f44s4 t4)) M a0 b1 i5
  | 0, _, _, _ => rfl
  | M + 1, a0, b1, i5 => viaRound (fun k => laws_eqIntS.Z9 N a0 b1 i5 k (K (.exit 0) f44s3) (fun t4 => K .ret (f44s4 t4))) (f44t9 N a0 b1 i5 (seqK (fun σ => f44w8 N M σ K) K)) (funext fun a0 => funext fun b1 => funext fun i5 => f44t8L N K M a0 b1 i5) (by kernel_rfl) (by kernel_rfl)
theorem f44t8 {ρ : Type} (N : Nat) (a0 : List Int) (b1 : List Int) (i5 : Int) (K : KT ρ) : f44i N f44c8 f44p8 (f44s2 a0 b1 i5) (joinK (some f44l3) K) =
  laws_eqIntS.Z8 N a0 b1 i5 (K (.exit 0) f44s3) (fun t4 => K .ret (f44s4 t4)) :=
  viaLoop (by kernel_rfl) (by kernel_rfl) (σ' := f44s2 a0 b1 i5) (by kernel_rfl) (f44t8L N (joinK (some f44l3) K) N a0 b1 i5) (by kernel_rfl)
noncomputable def f44c7 := codeAt (bodyOf Try.f44) [1,1,0,1]
noncomputable def f44p7 : Plan := .mk (some f44l3) none f44p8 .n
theorem f44t7 {ρ : Type} (N : Nat) (a0 : List Int) (b1 : List Int) (i5 : Int) (K : KT ρ) : f44i N f44c7 f44p7 (f44s2 a0 b1 i5) (joinK (some f44l3) K) =
  laws_eqIntS.Z7 N a0 b1 i5 (K .nrm f44s3) (fun t4 => K .ret (f44s4 t4)) :=
  viaBlock (by kernel_rfl) (by kernel_rfl) (f44t8 N a0 b1 i5 (blockK 0 (joinK (some f44l3) K))) (by kernel_rfl)
noncomputable def f44c5 := codeAt (bodyOf Try.f44) [1,1,0]
noncomputable def f44p5 : Plan := .mk (some f44l2) none .n f44p7
theorem f44t5 {ρ : Type} (N : Nat) (a0 : List Int) (b1 : List Int) (K : KT ρ) : f44i N f44c5 f44p5 (f44s1 a0 b1) (joinK (some f44l3) K) =
  laws_eqIntS.Z5 N a0 b1 (K .nrm f44s3) (fun t4 => K .ret (f44s4 t4)) :=
  viaSeq (fun k => laws_eqIntS.Z6 N a0 b1 k) (by kernel_rfl) (by kernel_rfl) (f44t6 N a0 b1 (seqK (fun σ => f44i N f44c7 f44p7 σ (joinK (some f44l3) K)) (joinK (some f44l3) K))) (funext fun a0 => funext fun b1 => funext fun i5 => f44t7 N a0 b1 i5 K) (by kernel_rfl) (by kernel_rfl)
noncomputable def f44c10 := codeAt (bodyOf Try.f44) [1,1,1]
theorem f44t10 {ρ : Type} (N : Nat)  (K : KT ρ) : f44i N f44c10 .n f44s3 (joinK (some f44lE) K) =
  laws_eqIntS.Z10 N (fun t4 => K .ret (f44s4 t4)) := by kernel_rfl
noncomputable def f44c4 := codeAt (bodyOf Try.f44) [1,1]
noncomputable def f44p4 : Plan := .mk (some f44l3) none f44p5 .n
theorem f44t4 {ρ : Type} (N : Nat) (a0 : List Int) (b1 : List Int) (K : KT ρ) : f44i N f44c4 f44p4 (f44s1 a0 b1) (joinK (some f44lE) K) =
  laws_eqIntS.Z4 N a0 b1 (fun t4 => K .ret (f44s4 t4)) :=
  viaSeq (fun k => laws_eqIntS.Z5 N a0 b1 k (fun t4 => K .ret (f44s4 t4))) (by kernel_rfl) (by kernel_rfl) (f44t5 N a0 b1 (seqK (fun σ => f44i N f44c10 .n σ (joinK (some f44lE) K)) (joinK (some f44lE) K))) (f44t10 N K) (by kernel_rfl) (by kernel_rfl)
noncomputable def f44c2 := codeAt (bodyOf Try.f44) [1]
noncomputable def f44p2 : Plan := .mk (some f44l1) none .n f44p4
theorem f44t2 {ρ : Type} (N : Nat) (a0 : List Int) (b1 : List Int) (K : KT ρ) : f44i N f44c2 f44p2 (f44s1 a0 b1) (joinK (some f44lE) K) =
  laws_eqIntS.Z2 N a0 b1 (fun t4 => K .ret (f44s4 t4)) :=
  viaSeq (fun k => laws_eqIntS.Z3 N a0 b1 k (fun t4 => K .ret (f44s4 t4))) (by kernel_rfl) (by kernel_rfl) (f44t3 N a0 b1 (seqK (fun σ => f44i N f44c4 f44p4 σ (joinK (some f44lE) K)) (joinK (some f44lE) K))) (funext fun a0 => funext fun b1 => f44t4 N a0 b1 K) (by kernel_rfl) (by kernel_rfl)
noncomputable def f44c0 := codeAt (bodyOf Try.f44) []
noncomputable def f44p0 : Plan := .mk (some f44l1) none .n f44p2
theorem f44t0 {ρ : Type} (N : Nat) (a0 : List Int) (b1 : List Int) (K : KT ρ) : f44i N f44c0 f44p0 (f44s0 a0 b1) (joinK (some f44lE) K) =
  laws_eqIntS.Z0 N a0 b1 (fun t4 => K .ret (f44s4 t4)) :=
  viaSeq (fun k => laws_eqIntS.Z1 N a0 b1 k) (by kernel_rfl) (by kernel_rfl) (f44t1 N a0 b1 (seqK (fun σ => f44i N f44c2 f44p2 σ (joinK (some f44lE) K)) (joinK (some f44lE) K))) (funext fun a0 => funext fun b1 => f44t2 N a0 b1 K) (by kernel_rfl) (by kernel_rfl)
theorem f44m (N : Nat) (a0 : List Int) (b1 : List Int) : f44i N f44c0 f44p0 (f44s0 a0 b1) (joinK (some f44lE) (finK tab f44sig Try.f44.results.toList)) = laws_eqIntS.Z0 N a0 b1 (fun t4 => some ((), (t4, ()))) :=
  (f44t0 N a0 b1 (finK tab f44sig Try.f44.results.toList)).trans (by kernel_rfl)
theorem f44ok (h : laws_eqIntS.Spec) : EntryOk Try.prog 44 e44 :=
  entry_of_code (sig := f44sig) (c := f44c0) (pl := f44p0) (je := (some f44lE)) (B := f44B) Try.func44 (by kernel_rfl) (by kernel_rfl) (by kernel_rfl) tabOk f44GOk (by kernel_rfl) (by kernel_rfl) (by kernel_rfl) (by kernel_rfl) fun X hb hp => by
    obtain ⟨a0, b1, _⟩ := X
    obtain ⟨N, h⟩ := h a0 b1 hb.1 hb.2.1
    exact ⟨N, (f44m N a0 b1).trans (h N (Nat.le_refl N))⟩
theorem e44ok : EntryOk Try.prog 44 e44 := f44ok laws_eqIntS.ok
end Go.Fw
set_option linter.unusedVariables false
set_option linter.unusedSimpArgs false
set_option maxRecDepth 100000
namespace Go.Fw
open Go.Proofs
/-! ### loop.example/g03115/laws.eqMatrix -/
noncomputable def f31sig : Sig := ⟨[⟨.pair (.int .i64) (.pair (.int .i64) (.sl 3 (.int .i64))), true, false⟩, ⟨.pair (.int .i64) (.pair (.int .i64) (.sl 3 (.int .i64))), true, false⟩], [⟨.bool, false, false⟩]⟩
noncomputable def e31 : Entry := ⟨f31sig, none, fun X => ((), ((laws_eqMatrix.g X.1 X.2.1), ()))⟩
noncomputable def f31G : Nat → Option Entry := addG (fun _ => none) 44 e44
theorem f31GOk : GOk Try.prog f31G := (GOk.nil).add e44ok (by kernel_rfl)
noncomputable def f31lE : Clean := ⟨[], [], [], [], []⟩
noncomputable def f31s0 (a0 : Int × Int × List Int) (b1 : Int × Int × List Int) : St := initSt f31sig.ps (a0, (b1, ()))
noncomputable def f31s1 (t4 : Bool) : St := stOf [(4, .c (.bool t4))] [] []
noncomputable def f31l1 : Clean := ⟨[4], [], [], [], []⟩
noncomputable def f31B : Nat → Option Clean := lookL [(1000000, f31l1)]
noncomputable abbrev f31i {ρ : Type} (N : Nat) (c : Code) (p : Plan) (σ : St) (K : KT ρ) : Option ρ := iCode f31G tab f31B N c p σ K
noncomputable def f31c0 := codeAt (bodyOf Try.f31) []
theorem f31t0 {ρ : Type} (N : Nat) (a0 : Int × Int × List Int) (b1 : Int × Int × List Int) (K : KT ρ) : f31i N f31c0 .n (f31s0 a0 b1) (joinK (some f31lE) K) =
  laws_eqMatrix.Z0 N a0 b1 (fun t4 => K .ret (f31s1 t4)) := by kernel_rfl
theorem f31m (N : Nat) (a0 : Int × Int × List Int) (b1 : Int × Int × List Int) : f31i N f31c0 .n (f31s0 a0 b1) (joinK (some f31lE) (finK tab f31sig Try.f31.results.toList)) = laws_eqMatrix.Z0 N a0 b1 (fun t4 => some ((), (t4, ()))) :=
  (f31t0 N a0 b1 (finK tab f31sig Try.f31.results.toList)).trans (by kernel_rfl)
theorem f31ok (h : laws_eqMatrix.Spec) : EntryOk Try.prog 31 e31 :=
  entry_of_code (sig := f31sig) (c := f31c0) (pl := .n) (je := (some f31lE)) (B := f31B) Try.func31 (by kernel_rfl) (by kernel_rfl) (by kernel_rfl) tabOk f31GOk (by kernel_rfl) (by kernel_rfl) (by kernel_rfl) (by kernel_rfl) fun X hb hp => by
    obtain ⟨a0, b1, _⟩ := X
    obtain ⟨N, h⟩ := h a0 b1 hb.1 hb.2.1
    exact ⟨N, (f31m N a0 b1).trans (h N (Nat.le_refl N))⟩
theorem e31ok : EntryOk Try.prog 31 e31 := f31ok laws_eqMatrix.ok
end Go.Fw
set_option linter.unusedVariables false
set_option linter.unusedSimpArgs false
set_option maxRecDepth 100000
namespace Go.Fw
open Go.Proofs
/-! ### loop.example/g03115/laws.markIntS -/
noncomputable def f45sig : Sig := ⟨[⟨.sl 3 (.int .i64), false, true⟩, ⟨.int .i64, false, false⟩], [⟨.int .i64, false, false⟩]⟩
noncomputable def e45 : Entry := ⟨f45sig, none, fun X => ((laws_markIntS.g X.1 X.2.1).1, ((laws_markIntS.g X.1 X.2.1).2, ()))⟩
noncomputable def f45G : Nat → Option Entry := (fun _ => none)
theorem f45GOk : GOk Try.prog f45G := GOk.nil
noncomputable def f45lE : Clean := ⟨[], [], [], [], []⟩
noncomputable def f45s0 (a0 : List Int) (k1 : Int) : St := initSt f45sig.ps (a0, (k1, ()))
noncomputable def f45s1 (a0 : List Int) (k1 : Int) : St := stOf [(0, .c (.own 1000000)), (1, .c (.int .i64 k1)), (100000, .c (.own 1000000))] [] [(1000000, (⟨3, .int .i64, a0, true, false⟩ : Row))]
noncomputable def f45l1 : Clean := ⟨[0, 1, 100000], [], [], [], [(⟨false, 0, 0⟩, 1000000)]⟩
noncomputable def f45s2 (a0 : List Int) (k1 : Int) (i5 : Int) : St := stOf [(0, .c (.own 1000000)), (1, .c (.int .i64 k1)), (5, .c (.int .i64 i5)), (100000, .c (.own 1000000))] [] [(1000000, (⟨3, .int .i64, a0, true, false⟩ : Row))]
noncomputable def f45l2 : Clean := ⟨[0, 1, 5, 100000], [], [], [], [(⟨false, 0, 0⟩, 1000000)]⟩
noncomputable def f45s3 (io100000 : List Int) (k1 : Int) : St := stOf [(1, .c (.int .i64 k1)), (100000, .c (.own 7400000))] [] [(7400000, (⟨3, .int .i64, io100000, true, false⟩ : Row))]
noncomputable def f45l3 : Clean := ⟨[1, 100000], [], [], [], [(⟨false, 100000, 0⟩, 7400000)]⟩
noncomputable def f45s4 (io100000 : List Int) (t4 : Int) : St := stOf [(4, .c (.int .i64 t4)), (100000, .c (.own 7400000))] [] [(7400000, (⟨3, .int .i64, io100000, true, false⟩ : Row))]
noncomputable def f45l4 : Clean := ⟨[4, 100000], [], [], [], [(⟨false, 100000, 0⟩, 7400000)]⟩
noncomputable def f45B : Nat → Option Clean := lookL [(0, f45l3), (1000000, f45l4)]
noncomputable abbrev f45i {ρ : Type} (N : Nat) (c : Code) (p : Plan) (σ : St) (K : KT ρ) : Option ρ := iCode f45G tab f45B N c p σ K
noncomputable def f45c1 := codeAt (bodyOf Try.f45) [0]
theorem f45t1 {ρ : Type} (N : Nat) (a0 : List Int) (k1 : Int) (K : KT ρ) : f45i N f45c1 .n (f45s0 a0 k1) (joinK (some f45l1) K) =
  laws_markIntS.Z1 N a0 k1 (fun a0 k1 => K .nrm (f45s1 a0 k1)) := by kernel_rfl
noncomputable def f45c4 := codeAt (bodyOf Try.f45) [1,0,0]
theorem f45t4 {ρ : Type} (N : Nat) (a0 : List Int) (k1 : Int) (K : KT ρ) : f45i N f45c4 .n (f45s1 a0 k1) (joinK (some f45l2) K) =
  laws_markIntS.Z4 N a0 k1 (fun a0 k1 i5 => K .nrm (f45s2 a0 k1 i5)) := by kernel_rfl
noncomputable def f45c7 := codeAt (bodyOf Try.f45) [1,0,1,0,0]
theorem f45t7 {ρ : Type} (N : Nat) (a0 : List Int) (k1 : Int) (i5 : Int) (K : KT ρ) : f45i N f45c7 .n (f45s2 a0 k1 i5) (joinK (some f45l2) K) =
  laws_markIntS.Z7 N a0 k1 i5 (fun a0 k1 i5 => K .nrm (f45s2 a0 k1 i5)) (fun io100000 k1 => K (.exit 0) (f45s3 io100000 k1)) := by kernel_rfl
noncomputable def f45c6 := codeAt (bodyOf Try.f45) [1,0,1,0]
noncomputable def f45p6 : Plan := .mk none (some f45l2) .n .n
noncomputable abbrev f45w6 {ρ : Type} (N : Nat) (M : Nat) (σ : St) (K : KT ρ) : Option ρ := loopC (fun σ K => f45i N f45c7 .n σ K) f45l2 M σ K
theorem f45t6L {ρ : Type} (N : Nat) (K : KT ρ) : ∀ (M : Nat) (a0 : List Int) (k1 : Int) (i5 : Int), f45w6 N M (f45s2 a0 k1 i5) K =
  laws_markIntS.Z6L N (fun io100000 k1 => K (.exit 0) (f45s3 io100000 k1)) M a0 k1 i5
  | 0, _, _, _ => rfl
  | M + 1, a0, k1, i5 => viaRound (fun k => laws_markIntS.Z7 N a0 k1 i5 k (fun io100000 k1 => K (.exit 0) (f45s3 io100000 k1))) (f45t7 N a0 k1 i5 (seqK (fun σ => f45w6 N M σ K) K)) (funext fun a0 => funext fun k1 => funext fun i5 => f45t6L N K M a0 k1 i5) (by kernel_rfl) (by kernel_rfl)
theorem f45t6 {ρ : Type} (N : Nat) (a0 : List Int) (k1 : Int) (i5 : Int) (K : KT ρ) : f45i N f45c6 f45p6 (f45s2 a0 k1 i5) (joinK (some f45l3) K) =
  laws_markIntS.Z6 N a0 k1 i5 (fun io100000 k1 => K (.exit 0) (f45s3 io100000 k1)) :=
  viaLoop (by kernel_rfl) (by kernel_rfl) (σ' := f45s2 a0 k1 i5) (by kernel_rfl) (f45t6L N (joinK (some f45l3) K) N a0 k1 i5) (by kernel_rfl)
noncomputable def f45c5 := codeAt (bodyOf Try.f45) [1,0,1]
noncomputable def f45p5 : Plan := .mk (some f45l3) none f45p6 .n
theorem f45t5 {ρ : Type} (N : Nat) (a0 : List Int) (k1 : Int) (i5 : Int) (K : KT ρ) : f45i N f45c5 f45p5 (f45s2 a0 k1 i5) (joinK (some f45l3) K) =
  laws_markIntS.Z5 N a0 k1 i5 (fun io100000 k1 => K .nrm (f45s3 io100000 k1)) :=
  viaBlock (by kernel_rfl) (by kernel_rfl) (f45t6 N a0 k1 i5 (blockK 0 (joinK (some f45l3) K))) (by kernel_rfl)
noncomputable def f45c3 := codeAt (bodyOf Try.f45) [1,0]
noncomputable def f45p3 : Plan := .mk (some f45l2) none .n f45p5
theorem f45t3 {ρ : Type} (N : Nat) (a0 : List Int) (k1 : Int) (K : KT ρ) : f45i N f45c3 f45p3 (f45s1 a0 k1) (joinK (some f45l3) K) =
  laws_markIntS.Z3 N a0 k1 (fun io100000 k1 => K .nrm (f45s3 io100000 k1)) :=
  viaSeq (fun k => laws_markIntS.Z4 N a0 k1 k) (by kernel_rfl) (by kernel_rfl) (f45t4 N a0 k1 (seqK (fun σ => f45i N f45c5 f45p5 σ (joinK (some f45l3) K)) (joinK (some f45l3) K))) (funext fun a0 => funext fun k1 => funext fun i5 => f45t5 N a0 k1 i5 K) (by kernel_rfl) (by kernel_rfl)
noncomputable def f45c8 := codeAt (bodyOf Try.f45) [1,1]
theorem f45t8 {ρ : Type} (N : Nat) (io100000 : List Int) (k1 : Int) (K : KT ρ) : f45i N f45c8 .n (f45s3 io100000 k1) (joinK (some f45lE) K) =
  laws_markIntS.Z8 N io100000 k1 (fun io100000 t4 => K .ret (f45s4 io100000 t4)) := by kernel_rfl
noncomputable def f45c2 := codeAt (bodyOf Try.f45) [1]
noncomputable def f45p2 : Plan := .mk (some f45l3) none f45p3 .n
theorem f45t2 {ρ : Type} (N : Nat) (a0 : List Int) (k1 : Int) (K : KT ρ) : f45i N f45c2 f45p2 (f45s1 a0 k1) (joinK (some f45lE) K) =
  laws_markIntS.Z2 N a0 k1 (fun io100000 t4 => K .ret (f45s4 io100000 t4)) :=
  viaSeq (fun k => laws_markIntS.Z3 N a0 k1 k) (by kernel_rfl) (by kernel_rfl) (f45t3 N a0 k1 (seqK (fun σ => f45i N f45c8 .n σ (joinK (some f45lE) K)) (joinK (some f45lE) K))) (funext fun io100000 => funext fun k1 => f45t8 N io100000 k1 K) (by kernel_rfl) (by kernel_rfl)
noncomputable def f45c0 := codeAt (bodyOf Try.f45) []
noncomputable def f45p0 : Plan := .mk (some f45l1) none .n f45p2
theorem f45t0 {ρ : Type} (N : Nat) (a0 : List Int) (k1 : Int) (K : KT ρ) : f45i N f45c0 f45p0 (f45s0 a0 k1) (joinK (some f45lE) K) =
  laws_markIntS.Z0 N a0 k1 (fun io100000 t4 => K .ret (f45s4 io100000 t4)) :=
  viaSeq (fun k => laws_markIntS.Z1 N a0 k1 k) (by kernel_rfl) (by kernel_rfl) (f45t1 N a0 k1 (seqK (fun σ => f45i N f45c2 f45p2 σ (joinK (some f45lE) K)) (joinK (some f45lE) K))) (funext fun a0 => funext fun k1 => f45t2 N a0 k1 K) (by kernel_rfl) (by kernel_rfl)
theorem f45m (N : Nat) (a0 : List Int) (k1 : Int) : f45i N f45c0 f45p0 (f45s0 a0 k1) (joinK (some f45lE) (finK tab f45sig Try.f45.results.toList)) = laws_markIntS.Z0 N a0 k1 (fun io100000 t4 => some (io100000, (t4, ()))) :=
  (f45t0 N a0 k1 (finK tab f45sig Try.f45.results.toList)).trans (by kernel_rfl)
theorem f45ok (h : laws_markIntS.Spec) : EntryOk Try.prog 45 e45 :=
  entry_of_code (sig := f45sig) (c := f45c0) (pl := f45p0) (je := (some f45lE)) (B := f45B) Try.func45 (by kernel_rfl) (by kernel_rfl) (by kernel_rfl) tabOk f45GOk (by kernel_rfl) (by kernel_rfl) (by kernel_rfl) (by kernel_rfl) fun X hb hp => by
    obtain ⟨a0, k1, _⟩ := X
    obtain ⟨N, h⟩ := h a0 k1 hb.1
    exact ⟨N, (f45m N a0 k1).trans (h N (Nat.le_refl N))⟩
theorem e45ok : EntryOk Try.prog 45 e45 := f45ok laws_markIntS.ok
end Go.Fw
set_option linter.unusedVariables false
set_option linter.unusedSimpArgs false
set_option maxRecDepth 100000
namespace Go.Fw
open Go.Proofs
/-! ### loop.example/g03115/laws.markMatrix -/
noncomputable def f32sig : Sig := ⟨[⟨.pair (.int .i64) (.pair (.int .i64) (.sl 3 (.int .i64))), true, true⟩, ⟨.int .i64, false, false⟩], [⟨.int .i64, false, false⟩]⟩
noncomputable def e32 : Entry := ⟨f32sig, none, fun X => ((laws_markMatrix.g X.1 X.2.1).1, ((laws_markMatrix.g X.1 X.2.1).2, ()))⟩
noncomputable def f32G : Nat → Option Entry := addG (fun _ => none) 45 e45
theorem f32GOk : GOk Try.prog f32G := (GOk.nil).add e45ok (by kernel_rfl)
noncomputable def f32lE : Clean := ⟨[], [], [], [], []⟩
noncomputable def f32s0 (a0 : Int × Int × List Int) (k1 : Int) : St := initSt f32sig.ps (a0, (k1, ()))
noncomputable def f32s1 (io100000_2 : List Int) (t4 : Int) (io100000_0 : Int) (io100000_1 : Int) : St := stOf [(4, .c (.int .i64 t4)), (100000, .agg [.int .i64 io100000_0, .int .i64 io100000_1, .own 7400002])] [] [(7400002, (⟨3, .int .i64, io100000_2, true, false⟩ : Row))]
noncomputable def f32l1 : Clean := ⟨[4, 100000], [], [], [], [(⟨false, 100000, 2⟩, 7400002)]⟩
noncomputable def f32B : Nat → Option Clean := lookL [(1000000, f32l1)]
noncomputable abbrev f32i {ρ : Type} (N : Nat) (c : Code) (p : Plan) (σ : St) (K : KT ρ) : Option ρ := iCode f32G tab f32B N c p σ K
noncomputable def f32c0 := codeAt (bodyOf Try.f32) []
theorem f32t0 {ρ : Type} (N : Nat) (a0 : Int × Int × List Int) (k1 : Int) (K : KT ρ) : f32i N f32c0 .n (f32s0 a0 k1) (joinK (some f32lE) K) =
  laws_markMatrix.Z0 N a0 k1 (fun io100000_2 t4 io100000_0 io100000_1 => K .ret (f32s1 io100000_2 t4 io100000_0 io100000_1)) := by kernel_rfl
theorem f32m (N : Nat) (a0 : Int × Int × List Int) (k1 : Int) : f32i N f32c0 .n (f32s0 a0 k1) (joinK (some f32lE) (finK tab f32sig Try.f32.results.toList)) = laws_markMatrix.Z0 N a0 k1 (fun io100000_2 t4 io100000_0 io100000_1 => some ((io100000_0, (io100000_1, io100000_2)), (t4, ()))) :=
  (f32t0 N a0 k1 (finK tab f32sig Try.f32.results.toList)).trans (by kernel_rfl)
theorem f32ok (h : laws_markMatrix.Spec) : EntryOk Try.prog 32 e32 :=
  entry_of_code (sig := f32sig) (c := f32c0) (pl := .n) (je := (some f32lE)) (B := f32B) Try.func32 (by kernel_rfl) (by kernel_rfl) (by kernel_rfl) tabOk f32GOk (by kernel_rfl) (by kernel_rfl) (by kernel_rfl) (by kernel_rfl) fun X hb hp => by
    obtain ⟨a0, k1, _⟩ := X
    obtain ⟨N, h⟩ := h a0 k1 hb.1
    exact ⟨N, (f32m N a0 k1).trans (h N (Nat.le_refl N))⟩
theorem e32ok : EntryOk Try.prog 32 e32 := f32ok laws_markMatrix.ok
end Go.Fw
set_option linter.unusedVariables false
set_option linter.unusedSimpArgs false
set_option maxRecDepth 100000
namespace Go.Fw
open Go.Proofs
/-! ### loop.example/g03115/laws.heldIntS -/
noncomputable def f73sig : Sig := ⟨[⟨.sl 3 (.int .i64), false, false⟩, ⟨.int .i64, false, false⟩], [⟨.int .i64, false, false⟩]⟩
noncomputable def e73 : Entry := ⟨f73sig, none, fun X => ((), ((laws_heldIntS.g X.1 X.2.1), ()))⟩
noncomputable def f73G : Nat → Option Entry := (fun _ => none)
theorem f73GOk : GOk Try.prog f73G := GOk.nil
noncomputable def f73lE : Clean := ⟨[], [], [], [], []⟩
noncomputable def f73s0 (a0 : List Int) (k1 : Int) : St := initSt f73sig.ps (a0, (k1, ()))
noncomputable def f73s1 (a0 : List Int) (k1 : Int) : St := stOf [(0, .c (.sn 3 (.int .i64) a0 none)), (1, .c (.int .i64 k1))] [] []
noncomputable def f73l1 : Clean := ⟨[0, 1], [], [], [], []⟩
noncomputable def f73s2 (a0 : List Int) (k1 : Int) (i5 : Int) : St := stOf [(0, .c (.sn 3 (.int .i64) a0 none)), (1, .c (.int .i64 k1)), (5, .c (.int .i64 i5))] [] []
noncomputable def f73l2 : Clean := ⟨[0, 1, 5], [], [], [], []⟩
noncomputable def f73s3 (k1 : Int) : St := stOf [(1, .c (.int .i64 k1))] [] []
noncomputable def f73l3 : Clean := ⟨[1], [], [], [], []⟩
noncomputable def f73s4 (t4 : Int) : St := stOf [(4, .c (.int .i64 t4))] [] []
noncomputable def f73l4 : Clean := ⟨[4], [], [], [], []⟩
noncomputable def f73B : Nat → Option Clean := lookL [(0, f73l3), (1000000, f73l4)]
noncomputable abbrev f73i {ρ : Type} (N : Nat) (c : Code) (p : Plan) (σ : St) (K : KT ρ) : Option ρ := iCode f73G tab f73B N c p σ K
noncomputable def f73c1 := codeAt (bodyOf Try.f73) [0]
theorem f73t1 {ρ : Type} (N : Nat) (a0 : List Int) (k1 : Int) (K : KT ρ) : f73i N f73c1 .n (f73s0 a0 k1) (joinK (some f73l1) K) =
  laws_heldIntS.Z1 N a0 k1 (fun a0 k1 => K .nrm (f73s1 a0 k1)) := by kernel_rfl
noncomputable def f73c4 := codeAt (bodyOf Try.f73) [1,0,0]
theorem f73t4 {ρ : Type} (N : Nat) (a0 : List Int) (k1 : Int) (K : KT ρ) : f73i N f73c4 .n (f73s1 a0 k1) (joinK (some f73l2) K) =
  laws_heldIntS.Z4 N a0 k1 (fun a0 k1 i5 => K .nrm (f73s2 a0 k1 i5)) := by kernel_rfl
noncomputable def f73c7 := codeAt (bodyOf Try.f73) [1,0,1,0,0]
theorem f73t7 {ρ : Type} (N : Nat) (a0 : List Int) (k1 : Int) (i5 : Int) (K : KT ρ) : f73i N f73c7 .n (f73s2 a0 k1 i5) (joinK (some f73l2) K) =
  laws_heldIntS.Z7 N a0 k1 i5 (fun a0 k1 i5 => K .nrm (f73s2 a0 k1 i5)) (fun k1 => K (.exit 0) (f73s3 k1)) (fun t4 => K .ret (f73s4 t4)) := by kernel_rfl
noncomputable def f73c6 := codeAt (bodyOf Try.f73) [1,0,1,0]
noncomputable def f73p6 : Plan := .mk none (some f73l2) .n .n
noncomputable abbrev f73w6 {ρ : Type} (N : Nat) (M : Nat) (σ : St) (K : KT ρ) : Option ρ := loopC (fun σ K => f73i N f73c7 .n σ K) f73l2 M σ K
theorem f73t6L {ρ : Type} (N : Nat) (K : KT ρ) : ∀ (M : Nat) (a0 : List Int) (k1 : Int) (i5 : Int), f73w6 N M (f73s2 a0 k1 i5) K =
  laws_heldIntS.Z6L N (fun k1 => K (.exit 0) (f73s3 k1)) (fun t4 => K .ret (f73s4 t4)) M a0 k1 i5
  | 0, _, _, _ => rfl
  | M + 1, a0, k1, i5 => viaRound (fun k => laws_heldIntS.Z7 N a0 k1 i5 k (fun k1 => K (.exit 0) (f73s3 k1)) (fun t4 => K .ret (f73s4 t4))) (f73t7 N a0 k1 i5 (seqK (fun σ => f73w6 N M σ K) K)) (funext fun a0 => funext fun k1 => funext fun i5 => f73t6L N K M a0 k1 i5) (by kernel_rfl) (by kernel_rfl)
theorem f73t6 {ρ : Type} (N : Nat) (a0 : List Int) (k1 : Int) (i5 : Int) (K : KT ρ) : f73i N f73c6 f73p6 (f73s2 a0 k1 i5) (joinK (some f73l3) K) =
  laws_heldIntS.Z6 N a0 k1 i5 (fun k1 => K (.exit 0) (f73s3 k1)) (fun t4 => K .ret (f73s4 t4)) :=
  viaLoop (by kernel_rfl) (by kernel_rfl) (σ' := f73s2 a0 k1 i5) (by kernel_rfl) (f73t6L N (joinK (some f73l3) K) N a0 k1 i5) (by kernel_rfl)
noncomputable def f73c5 := codeAt (bodyOf Try.f73) [1,0,1]
noncomputable def f73p5 : Plan := .mk (some f73l3) none f73p6 .n
theorem f73t5 {ρ : Type} (N : Nat) (a0 : List Int) (k1 : Int) (i5 : Int) (K : KT ρ) : f73i N f73c5 f73p5 (f73s2 a0 k1 i5) (joinK (some f73l3) K) =
  laws_heldIntS.Z5 N a0 k1 i5 (fun k1 => K .nrm (f73s3 k1)) (fun t4 => K .ret (f73s4 t4)) :=
  viaBlock (by kernel_rfl) (by kernel_rfl) (f73t6 N a0 k1 i5 (blockK 0 (joinK (some f73l3) K))) (by kernel_rfl)
noncomputable def f73c3 := codeAt (bodyOf Try.f73) [1,0]
noncomputable def f73p3 : Plan := .mk (some f73l2) none .n f73p5
theorem f73t3 {ρ : Type} (N : Nat) (a0 : List Int) (k1 : Int) (K : KT ρ) : f73i N f73c3 f73p3 (f73s1 a0 k1) (joinK (some f73l3) K) =
  laws_heldIntS.Z3 N a0 k1 (fun k1 => K .nrm (f73s3 k1)) (fun t4 => K .ret (f73s4 t4)) :=
  viaSeq (fun k => laws_heldIntS.Z4 N a0 k1 k) (by kernel_rfl) (by kernel_rfl) (f73t4 N a0 k1 (seqK (fun σ => f73i N f73c5 f73p5 σ (joinK (some f73l3) K)) (joinK (some f73l3) K))) (funext fun a0 => funext fun k1 => funext fun i5 => f73t5 N a0 k1 i5 K) (by kernel_rfl) (by kernel_rfl)
noncomputable def f73c8 := codeAt (bodyOf Try.f73) [1,1]
theorem f73t8 {ρ : Type} (N : Nat) (k1 : Int) (K : KT ρ) : f73i N f73c8 .n (f73s3 k1) (joinK (some f73lE) K) =
  laws_heldIntS.Z8 N k1 (fun t4 => K .ret (f73s4 t4)) := by kernel_rfl
noncomputable def f73c2 := codeAt (bodyOf Try.f73) [1]
noncomputable def f73p2 : Plan := .mk (some f73l3) none f73p3 .n
theorem f73t2 {ρ : Type} (N : Nat) (a0 : List Int) (k1 : Int) (K : KT ρ) : f73i N f73c2 f73p2 (f73s1 a0 k1) (joinK (some f73lE) K) =
  laws_heldIntS.Z2 N a0 k1 (fun t4 => K .ret (f73s4 t4)) :=
  viaSeq (fun k => laws_heldIntS.Z3 N a0 k1 k (fun t4 => K .ret (f73s4 t4))) (by kernel_rfl) (by kernel_rfl) (f73t3 N a0 k1 (seqK (fun σ => f73i N f73c8 .n σ (joinK (some f73lE) K)) (joinK (some f73lE) K))) (funext fun k1 => f73t8 N k1 K) (by kernel_rfl) (by kernel_rfl)
noncomputable def f73c0 := codeAt (bodyOf Try.f73) []
noncomputable def f73p0 : Plan := .mk (some f73l1) none .n f73p2
theorem f73t0 {ρ : Type} (N : Nat) (a0 : List Int) (k1 : Int) (K : KT ρ) : f73i N f73c0 f73p0 (f73s0 a0 k1) (joinK (some f73lE) K) =
  laws_heldIntS.Z0 N a0 k1 (fun t4 => K .ret (f73s4 t4)) :=
  viaSeq (fun k => laws_heldIntS.Z1 N a0 k1 k) (by kernel_rfl) (by kernel_rfl) (f73t1 N a0 k1 (seqK (fun σ => f73i N f73c2 f73p2 σ (joinK (some f73lE) K)) (joinK (some f73lE) K))) (funext fun a0 => funext fun k1 => f73t2 N a0 k1 K) (by kernel_rfl) (by kernel_rfl)
theorem f73m (N : Nat) (a0 : List Int) (k1 : Int) : f73i N f73c0 f73p0 (f73s0 a0 k1) (joinK (some f73lE) (finK tab f73sig Try.f73.results.toList)) = laws_heldIntS.Z0 N a0 k1 (fun t4 => some ((), (t4, ()))) :=
  (f73t0 N a0 k1 (finK tab f73sig Try.f73.results.toList)).trans (by kernel_rfl)
theorem f73ok (h : laws_heldIntS.Spec) : EntryOk Try.prog 73 e73 :=
  entry_of_code (sig := f73sig) (c := f73c0) (pl := f73p0) (je := (some f73lE)) (B := f73B) Try.func73 (by kernel_rfl) (by kernel_rfl) (by kernel_rfl) tabOk f73GOk (by kernel_rfl) (by kernel_rfl) (by kernel_rfl) (by kernel_rfl) fun X hb hp => by
    obtain ⟨a0, k1, _⟩ := X
    obtain ⟨N, h⟩ := h a0 k1 hb.1
    exact ⟨N, (f73m N a0 k1).trans (h N (Nat.le_refl N))⟩
theorem e73ok : EntryOk Try.prog 73 e73 := f73ok laws_heldIntS.ok
end Go.Fw
set_option linter.unusedVariables false
set_option linter.unusedSimpArgs false
set_option maxRecDepth 100000
namespace Go.Fw
open Go.Proofs
/-! ### loop.example/g03115/laws.heldMatrix -/
noncomputable def f33sig : Sig := ⟨[⟨.pair (.int .i64) (.pair (.int .i64) (.sl 3 (.int .i64))), true, false⟩, ⟨.int .i64, false, false⟩], [⟨.int .i64, false, false⟩]⟩
noncomputable def e33 : Entry := ⟨f33sig, none, fun X => ((), ((laws_heldMatrix.g X.1 X.2.1), ()))⟩
noncomputable def f33G : Nat → Option Entry := addG (fun _ => none) 73 e73
theorem f33GOk : GOk Try.prog f33G := (GOk.nil).add e73ok (by kernel_rfl)
noncomputable def f33lE : Clean := ⟨[], [], [], [], []⟩
noncomputable def f33s0 (a0 : Int × Int × List Int) (k1 : Int) : St := initSt f33sig.ps (a0, (k1, ()))
noncomputable def f33s1 (t4 : Int) : St := stOf [(4, .c (.int .i64 t4))] [] []
noncomputable def f33l1 : Clean := ⟨[4], [], [], [], []⟩
noncomputable def f33B : Nat → Option Clean := lookL [(1000000, f33l1)]
noncomputable abbrev f33i {ρ : Type} (N : Nat) (c : Code) (p : Plan) (σ : St) (K : KT ρ) : Option ρ := iCode f33G tab f33B N c p σ K
noncomputable def f33c0 := codeAt (bodyOf Try.f33) []
theorem f33t0 {ρ : Type} (N : Nat) (a0 : Int × Int × List Int) (k1 : Int) (K : KT ρ) : f33i N f33c0 .n (f33s0 a0 k1) (joinK (some f33lE) K) =
  laws_heldMatrix.Z0 N a0 k1 (fun t4 => K .ret (f33s1 t4)) := by kernel_rfl
theorem f33m (N : Nat) (a0 : Int × Int × List Int) (k1 : Int) : f33i N f33c0 .n (f33s0 a0 k1) (joinK (some f33lE) (finK tab f33sig Try.f33.results.toList)) = laws_heldMatrix.Z0 N a0 k1 (fun t4 => some ((), (t4, ()))) :=
  (f33t0 N a0 k1 (finK tab f33sig Try.f33.results.toList)).trans (by kernel_rfl)
theorem f33ok (h : laws_heldMatrix.Spec) : EntryOk Try.prog 33 e33 :=
  entry_of_code (sig := f33sig) (c := f33c0) (pl := .n) (je := (some f33lE)) (B := f33B) Try.func33 (by kernel_rfl) (by kernel_rfl) (by kernel_rfl) tabOk f33GOk (by kernel_rfl) (by kernel_rfl) (by kernel_rfl) (by kernel_rfl) fun X hb hp => by
    obtain ⟨a0, k1, _⟩ := X
    obtain ⟨N, h⟩ := h a0 k1 hb.1
    exact ⟨N, (f33m N a0 k1).trans (h N (Nat.le_refl N))⟩
theorem e33ok : EntryOk Try.prog 33 e33 := f33ok laws_heldMatrix.ok
end Go.Fw
set_option linter.unusedVariables false
set_option linter.unusedSimpArgs false
set_option maxRecDepth 100000
namespace Go.Fw
open Go.Proofs
/-! ### loop.example/g03115/laws.FnExactMutateAlong -/
noncomputable def f9sig : Sig := ⟨[⟨.pair (.int .i64) (.pair (.int .i64) (.sl 3 (.int .i64))), true, false⟩, ⟨.sl 3 (.int .i64), false, false⟩], [⟨.bool, false, false⟩]⟩
noncomputable def e9 : Entry := ⟨f9sig, none, fun X => ((), ((laws_FnExactMutateAlong.g X.1 X.2.1), ()))⟩
noncomputable def f9G : Nat → Option Entry := addG (addG (addG (addG (addG (addG (addG (addG (addG (addG (fun _ => none) 17 e17) 27 e27) 29 e29) 31 e31) 32 e32) 33 e33) 42 e42) 44 e44) 45 e45) 46 e46
theorem f9GOk : GOk Try.prog f9G := ((((((((((GOk.nil).add e17ok (by kernel_rfl)).add e27ok (by kernel_rfl)).add e29ok (by kernel_rfl)).add e31ok (by kernel_rfl)).add e32ok (by kernel_rfl)).add e33ok (by kernel_rfl)).add e42ok (by kernel_rfl)).add e44ok (by kernel_rfl)).add e45ok (by kernel_rfl)).add e46ok (by kernel_rfl)
noncomputable def f9lE : Clean := ⟨[], [], [], [], []⟩
noncomputable def f9s0 (aM0 : Int × Int × List Int) (aKs1 : List Int) : St := initSt f9sig.ps (aM0, (aKs1, ()))
noncomputable def f9s1 (aKs1 : List Int) (aM2_0 : Int) (aM2_1 : Int) (aM2_2 : List Int) : St := stOf [(1, .c (.sn 3 (.int .i64) aKs1 none)), (2, .c (.box 2 0))] [(2, (41, [.int .i64 aM2_0, .int .i64 aM2_1, .sn 3 (.int .i64) aM2_2 none]))] []
noncomputable def f9l1 : Clean := ⟨[1, 2], [2], [], [], []⟩
noncomputable def f9s2 (aKs1 : List Int) (left5 : Int) (aM2_0 : Int) (aM2_1 : Int) (aM2_2 : List Int) : St := stOf [(1, .c (.sn 3 (.int .i64) aKs1 none)), (2, .c (.box 2 0)), (5, .c (.int .i64 left5))] [(2, (41, [.int .i64 aM2_0, .int .i64 aM2_1, .sn 3 (.int .i64) aM2_2 none]))] []
noncomputable def f9l2 : Clean := ⟨[1, 2, 5], [2], [], [], []⟩
noncomputable def f9s3 (w06_2 : List Int) (aKs1 : List Int) (w17 : Bool) (aM2_0 : Int) (aM2_1 : Int) (aM2_2 : List Int) (w06_0 : Int) (w06_1 : Int) : St := stOf [(1, .c (.sn 3 (.int .i64) aKs1 none)), (2, .c (.box 2 0)), (6, .c (.box 6 0)), (7, .c (.bool w17))] [(2, (41, [.int .i64 aM2_0, .int .i64 aM2_1, .sn 3 (.int .i64) aM2_2 none])), (6, (26, [.int .i64 w06_0, .int .i64 w06_1, .own 20000386]))] [(20000386, (⟨3, .int .i64, w06_2, true, false⟩ : Row))]
noncomputable def f9l3 : Clean := ⟨[1, 2, 6, 7], [2, 6], [], [], [(⟨true, 6, 2⟩, 20000386)]⟩
noncomputable def f9s4 (w06_2 : List Int) (x08_2 : List Int) (aKs1 : List Int) (w17 : Bool) (aM2_0 : Int) (aM2_1 : Int) (aM2_2 : List Int) (w06_0 : Int) (w06_1 : Int) (x08_0 : Int) (x08_1 : Int) : St := stOf [(1, .c (.sn 3 (.int .i64) aKs1 none)), (2, .c (.box 2 0)), (6, .c (.box 6 0)), (7, .c (.bool w17)), (8, .c (.box 8 0))] [(2, (41, [.int .i64 aM2_0, .int .i64 aM2_1, .sn 3 (.int .i64) aM2_2 none])), (6, (26, [.int .i64 w06_0, .int .i64 w06_1, .own 20000386])), (8, (26, [.int .i64 x08_0, .int .i64 x08_1, .own 20000514]))] [(20000386, (⟨3, .int .i64, w06_2, true, false⟩ : Row)), (20000514, (⟨3, .int .i64, x08_2, true, false⟩ : Row))]
noncomputable def f9l4 : Clean := ⟨[1, 2, 6, 7, 8], [2, 6, 8], [], [], [(⟨true, 6, 2⟩, 20000386), (⟨true, 8, 2⟩, 20000514)]⟩
noncomputable def f9s5 (x19 : List Int) (w06_2 : List Int) (x08_2 : List Int) (aKs1 : List Int) (w17 : Bool) (aM2_0 : Int) (aM2_1 : Int) (aM2_2 : List Int) (w06_0 : Int) (w06_1 : Int) (x08_0 : Int) (x08_1 : Int) : St := stOf [(1, .c (.sn 3 (.int .i64) aKs1 none)), (2, .c (.box 2 0)), (6, .c (.box 6 0)), (7, .c (.bool w17)), (8, .c (.box 8 0)), (9, .c (.own 1000576))] [(2, (41, [.int .i64 aM2_0, .int .i64 aM2_1, .sn 3 (.int .i64) aM2_2 none])), (6, (26, [.int .i64 w06_0, .int .i64 w06_1, .own 20000386])), (8, (26, [.int .i64 x08_0, .int .i64 x08_1, .own 20000514]))] [(1000576, (⟨3, .int .i64, x19, true, false⟩ : Row)), (20000386, (⟨3, .int .i64, w06_2, true, false⟩ : Row)), (20000514, (⟨3, .int .i64, x08_2, true, false⟩ : Row))]
noncomputable def f9l5 : Clean := ⟨[1, 2, 6, 7, 8, 9], [2, 6, 8], [], [], [(⟨false, 9, 0⟩, 1000576), (⟨true, 6, 2⟩, 20000386), (⟨true, 8, 2⟩, 20000514)]⟩
noncomputable def f9s6 (x19 : List Int) (w06_2 : List Int) (x08_2 : List Int) (g010_2 : List Int) (aKs1 : List Int) (w17 : Bool) (g111 : Bool) (aM2_0 : Int) (aM2_1 : Int) (aM2_2 : List Int) (w06_0 : Int) (w06_1 : Int) (x08_0 : Int) (x08_1 : Int) (g010_0 : Int) (g010_1 : Int) : St := stOf [(1, .c (.sn 3 (.int .i64) aKs1 none)), (2, .c (.box 2 0)), (6, .c (.box 6 0)), (7, .c (.bool w17)), (8, .c (.box 8 0)), (9, .c (.own 1000576)), (10, .c (.box 10 0)), (11, .c (.bool g111))] [(2, (41, [.int .i64 aM2_0, .int .i64 aM2_1, .sn 3 (.int .i64) aM2_2 none])), (6, (26, [.int .i64 w06_0, .int .i64 w06_1, .own 20000386])), (8, (26, [.int .i64 x08_0, .int .i64 x08_1, .own 20000514])), (10, (26, [.int .i64 g010_0, .int .i64 g010_1, .own 20000642]))] [(1000576, (⟨3, .int .i64, x19, true, false⟩ : Row)), (20000386, (⟨3, .int .i64, w06_2, true, false⟩ : Row)), (20000514, (⟨3, .int .i64, x08_2, true, false⟩ : Row)), (20000642, (⟨3, .int .i64, g010_2, true, false⟩ : Row))]
noncomputable def f9l6 : Clean := ⟨[1, 2, 6, 7, 8, 9, 10, 11], [2, 6, 8, 10], [], [], [(⟨false, 9, 0⟩, 1000576), (⟨true, 6, 2⟩, 20000386), (⟨true, 8, 2⟩, 20000514), (⟨true, 10, 2⟩, 20000642)]⟩
noncomputable def f9s7 (x19 : List Int) (w06_2 : List Int) (x08_2 : List Int) (g010_2 : List Int) (aKs1 : List Int) (w17 : Bool) (g111 : Bool) (k12 : Int) (aM2_0 : Int) (aM2_1 : Int) (aM2_2 : List Int) (w06_0 : Int) (w06_1 : Int) (x08_0 : Int) (x08_1 : Int) (g010_0 : Int) (g010_1 : Int) : St := stOf [(1, .c (.sn 3 (.int .i64) aKs1 none)), (2, .c (.box 2 0)), (6, .c (.box 6 0)), (7, .c (.bool w17)), (8, .c (.box 8 0)), (9, .c (.own 1000576)), (10, .c (.box 10 0)), (11, .c (.bool g111)), (12, .c (.int .i64 k12))] [(2, (41, [.int .i64 aM2_0, .int .i64 aM2_1, .sn 3 (.int .i64) aM2_2 none])), (6, (26, [.int .i64 w06_0, .int .i64 w06_1, .own 20000386])), (8, (26, [.int .i64 x08_0, .int .i64 x08_1, .own 20000514])), (10, (26, [.int .i64 g010_0, .int .i64 g010_1, .own 20000642]))] [(1000576, (⟨3, .int .i64, x19, true, false⟩ : Row)), (20000386, (⟨3, .int .i64, w06_2, true, false⟩ : Row)), (20000514, (⟨3, .int .i64, x08_2, true, false⟩ : Row)), (20000642, (⟨3, .int .i64, g010_2, true, false⟩ : Row))]
noncomputable def f9l7 : Clean := ⟨[1, 2, 6, 7, 8, 9, 10, 11, 12], [2, 6, 8, 10], [], [], [(⟨false, 9, 0⟩, 1000576), (⟨true, 6, 2⟩, 20000386), (⟨true, 8, 2⟩, 20000514), (⟨true, 10, 2⟩, 20000642)]⟩
noncomputable def f9s8 (x19 : List Int) (w06_2 : List Int) (g010_2 : List Int) (aKs1 : List Int) (w17 : Bool) (g111 : Bool) (k12 : Int) (aM2_0 : Int) (aM2_1 : Int) (aM2_2 : List Int) (w06_0 : Int) (w06_1 : Int) (g010_0 : Int) (g010_1 : Int) : St := stOf [(1, .c (.sn 3 (.int .i64) aKs1 none)), (2, .c (.box 2 0)), (6, .c (.box 6 0)), (7, .c (.bool w17)), (9, .c (.own 1000576)), (10, .c (.box 10 0)), (11, .c (.bool g111)), (12, .c (.int .i64 k12))] [(2, (41, [.int .i64 aM2_0, .int .i64 aM2_1, .sn 3 (.int .i64) aM2_2 none])), (6, (26, [.int .i64 w06_0, .int .i64 w06_1, .own 20000386])), (10, (26, [.int .i64 g010_0, .int .i64 g010_1, .own 20000642]))] [(1000576, (⟨3, .int .i64, x19, true, false⟩ : Row)), (20000386, (⟨3, .int .i64, w06_2, true, false⟩ : Row)), (20000642, (⟨3, .int .i64, g010_2, true, false⟩ : Row))]
noncomputable def f9l8 : Clean := ⟨[1, 2, 6, 7, 9, 10, 11, 12], [2, 6, 10], [], [], [(⟨false, 9, 0⟩, 1000576), (⟨true, 6, 2⟩, 20000386), (⟨true, 10, 2⟩, 20000642)]⟩
noncomputable def f9s9 (w06_2 : List Int) (g010_2 : List Int) (aKs1 : List Int) (w17 : Bool) (g111 : Bool) (k12 : Int) (aM2_0 : Int) (aM2_1 : Int) (aM2_2 : List Int) (w06_0 : Int) (w06_1 : Int) (g010_0 : Int) (g010_1 : Int) : St := stOf [(1, .c (.sn 3 (.int .i64) aKs1 none)), (2, .c (.box 2 0)), (6, .c (.box 6 0)), (7, .c (.bool w17)), (10, .c (.box 10 0)), (11, .c (.bool g111)), (12, .c (.int .i64 k12))] [(2, (41, [.int .i64 aM2_0, .int .i64 aM2_1, .sn 3 (.int .i64) aM2_2 none])), (6, (26, [.int .i64 w06_0, .int .i64 w06_1, .own 20000386])), (10, (26, [.int .i64 g010_0, .int .i64 g010_1, .own 20000642]))] [(20000386, (⟨3, .int .i64, w06_2, true, false⟩ : Row)), (20000642, (⟨3, .int .i64, g010_2, true, false⟩ : Row))]
noncomputable def f9l9 : Clean := ⟨[1, 2, 6, 7, 10, 11, 12], [2, 6, 10], [], [], [(⟨true, 6, 2⟩, 20000386), (⟨true, 10, 2⟩, 20000642)]⟩
noncomputable def f9s10 (w06_2 : List Int) (g010_2 : List Int) (aKs1 : List Int) (w17 : Bool) (aM2_0 : Int) (aM2_1 : Int) (aM2_2 : List Int) (w06_0 : Int) (w06_1 : Int) (g010_0 : Int) (g010_1 : Int) : St := stOf [(1, .c (.sn 3 (.int .i64) aKs1 none)), (2, .c (.box 2 0)), (6, .c (.box 6 0)), (7, .c (.bool w17)), (10, .c (.box 10 0))] [(2, (41, [.int .i64 aM2_0, .int .i64 aM2_1, .sn 3 (.int .i64) aM2_2 none])), (6, (26, [.int .i64 w06_0, .int .i64 w06_1, .own 20000386])), (10, (26, [.int .i64 g010_0, .int .i64 g010_1, .own 20000642]))] [(20000386, (⟨3, .int .i64, w06_2, true, false⟩ : Row)), (20000642, (⟨3, .int .i64, g010_2, true, false⟩ : Row))]
noncomputable def f9l10 : Clean := ⟨[1, 2, 6, 7, 10], [2, 6, 10], [], [], [(⟨true, 6, 2⟩, 20000386), (⟨true, 10, 2⟩, 20000642)]⟩
noncomputable def f9s11 (t4 : Bool) : St := stOf [(4, .c (.bool t4))] [] []
noncomputable def f9l11 : Clean := ⟨[4], [], [], [], []⟩
noncomputable def f9B : Nat → Option Clean := lookL [(1000000, f9l11)]
noncomputable abbrev f9i {ρ : Type} (N : Nat) (c : Code) (p : Plan) (σ : St) (K : KT ρ) : Option ρ := iCode f9G tab f9B N c p σ K
noncomputable def f9c1 := codeAt (bodyOf Try.f9) [0]
theorem f9t1 {ρ : Type} (N : Nat) (aM0 : Int × Int × List Int) (aKs1 : List Int) (K : KT ρ) : f9i N f9c1 .n (f9s0 aM0 aKs1) (joinK (some f9l1) K) =
  laws_FnExactMutateAlong.Z1 N aM0 aKs1 (fun aKs1 aM2_0 aM2_1 aM2_2 => K .nrm (f9s1 aKs1 aM2_0 aM2_1 aM2_2)) := by kernel_rfl
noncomputable def f9c3 := codeAt (bodyOf Try.f9) [1,0]
theorem f9t3 {ρ : Type} (N : Nat) (aKs1 : List Int) (aM2_0 : Int) (aM2_1 : Int) (aM2_2 : List Int) (K : KT ρ) : f9i N f9c3 .n (f9s1 aKs1 aM2_0 aM2_1 aM2_2) (joinK (some f9l1) K) =
  laws_FnExactMutateAlong.Z3 N aKs1 aM2_0 aM2_1 aM2_2 (fun aKs1 aM2_0 aM2_1 aM2_2 => K .nrm (f9s1 aKs1 aM2_0 aM2_1 aM2_2)) (fun t4 => K .ret (f9s11 t4)) := by kernel_rfl
noncomputable def f9c5 := codeAt (bodyOf Try.f9) [1,1,0]
theorem f9t5 {ρ : Type} (N : Nat) (aKs1 : List Int) (aM2_0 : Int) (aM2_1 : Int) (aM2_2 : List Int) (K : KT ρ) : f9i N f9c5 .n (f9s1 aKs1 aM2_0 aM2_1 aM2_2) (joinK (some f9l2) K) =
  laws_FnExactMutateAlong.Z5 N aKs1 aM2_0 aM2_1 aM2_2 (fun aKs1 left5 aM2_0 aM2_1 aM2_2 => K .nrm (f9s2 aKs1 left5 aM2_0 aM2_1 aM2_2)) := by kernel_rfl
noncomputable def f9c7 := codeAt (bodyOf Try.f9) [1,1,1,0]
theorem f9t7 {ρ : Type} (N : Nat) (aKs1 : List Int) (left5 : Int) (aM2_0 : Int) (aM2_1 : Int) (aM2_2 : List Int) (K : KT ρ) : f9i N f9c7 .n (f9s2 aKs1 left5 aM2_0 aM2_1 aM2_2) (joinK (some f9l2) K) =
  laws_FnExactMutateAlong.Z7 N aKs1 left5 aM2_0 aM2_1 aM2_2 (fun aKs1 left5 aM2_0 aM2_1 aM2_2 => K .nrm (f9s2 aKs1 left5 aM2_0 aM2_1 aM2_2)) := by kernel_rfl
noncomputable def f9c9 := codeAt (bodyOf Try.f9) [1,1,1,1,0]
theorem f9t9 {ρ : Type} (N : Nat) (aKs1 : List Int) (left5 : Int) (aM2_0 : Int) (aM2_1 : Int) (aM2_2 : List Int) (K : KT ρ) : f9i N f9c9 .n (f9s2 aKs1 left5 aM2_0 aM2_1 aM2_2) (joinK (some f9l1) K) =
  laws_FnExactMutateAlong.Z9 N aKs1 left5 aM2_0 aM2_1 aM2_2 (fun aKs1 aM2_0 aM2_1 aM2_2 => K .nrm (f9s1 aKs1 aM2_0 aM2_1 aM2_2)) (fun t4 => K .ret (f9s11 t4)) := by kernel_rfl
noncomputable def f9c11 := codeAt (bodyOf Try.f9) [1,1,1,1,1,0]
theorem f9t11 {ρ : Type} (N : Nat) (aKs1 : List Int) (aM2_0 : Int) (aM2_1 : Int) (aM2_2 : List Int) (K : KT ρ) : f9i N f9c11 .n (f9s1 aKs1 aM2_0 aM2_1 aM2_2) (joinK (some f9l3) K) =
  laws_FnExactMutateAlong.Z11 N aKs1 aM2_0 aM2_1 aM2_2 (fun w06_2 aKs1 w17 aM2_0 aM2_1 aM2_2 w06_0 w06_1 => K .nrm (f9s3 w06_2 aKs1 w17 aM2_0 aM2_1 aM2_2 w06_0 w06_1)) := by kernel_rfl
noncomputable def f9c13 := codeAt (bodyOf Try.f9) [1,1,1,1,1,1,0]
theorem f9t13 {ρ : Type} (N : Nat) (w06_2 : List Int) (aKs1 : List Int) (w17 : Bool) (aM2_0 : Int) (aM2_1 : Int) (aM2_2 : List Int) (w06_0 : Int) (w06_1 : Int) (K : KT ρ) : f9i N f9c13 .n (f9s3 w06_2 aKs1 w17 aM2_0 aM2_1 aM2_2 w06_0 w06_1) (joinK (some f9l4) K) =
  laws_FnExactMutateAlong.Z13 N w06_2 aKs1 w17 aM2_0 aM2_1 aM2_2 w06_0 w06_1 (fun w06_2 x08_2 aKs1 w17 aM2_0 aM2_1 aM2_2 w06_0 w06_1 x08_0 x08_1 => K .nrm (f9s4 w06_2 x08_2 aKs1 w17 aM2_0 aM2_1 aM2_2 w06_0 w06_1 x08_0 x08_1)) := by kernel_rfl
noncomputable def f9c15 := codeAt (bodyOf Try.f9) [1,1,1,1,1,1,1,0]
theorem f9t15 {ρ : Type} (N : Nat) (w06_2 : List Int) (x08_2 : List Int) (aKs1 : List Int) (w17 : Bool) (aM2_0 : Int) (aM2_1 : Int) (aM2_2 : List Int) (w06_0 : Int) (w06_1 : Int) (x08_0 : Int) (x08_1 : Int) (K : KT ρ) : f9i N f9c15 .n (f9s4 w06_2 x08_2 aKs1 w17 aM2_0 aM2_1 aM2_2 w06_0 w06_1 x08_0 x08_1) (joinK (some f9l5) K) =
  laws_FnExactMutateAlong.Z15 N w06_2 x08_2 aKs1 w17 aM2_0 aM2_1 aM2_2 w06_0 w06_1 x08_0 x08_1 (fun x19 w06_2 x08_2 aKs1 w17 aM2_0 aM2_1 aM2_2 w06_0 w06_1 x08_0 x08_1 => K .nrm (f9s5 x19 w06_2 x08_2 aKs1 w17 aM2_0 aM2_1 aM2_2 w06_0 w06_1 x08_0 x08_1)) := by kernel_rfl
noncomputable def f9c17 := codeAt (bodyOf Try.f9) [1,1,1,1,1,1,1,1,0]
theorem f9t17 {ρ : Type} (N : Nat) (x19 : List Int) (w06_2 : List Int) (x08_2 : List Int) (aKs1 : List Int) (w17 : Bool) (aM2_0 : Int) (aM2_1 : Int) (aM2_2 : List Int) (w06_0 : Int) (w06_1 : Int) (x08_0 : Int) (x08_1 : Int) (K : KT ρ) : f9i N f9c17 .n (f9s5 x19 w06_2 x08_2 aKs1 w17 aM2_0 aM2_1 aM2_2 w06_0 w06_1 x08_0 x08_1) (joinK (some f9l6) K) =
  laws_FnExactMutateAlong.Z17 N x19 w06_2 x08_2 aKs1 w17 aM2_0 aM2_1 aM2_2 w06_0 w06_1 x08_0 x08_1 (fun x19 w06_2 x08_2 g010_2 aKs1 w17 g111 aM2_0 aM2_1 aM2_2 w06_0 w06_1 x08_0 x08_1 g010_0 g010_1 => K .nrm (f9s6 x19 w06_2 x08_2 g010_2 aKs1 w17 g111 aM2_0 aM2_1 aM2_2 w06_0 w06_1 x08_0 x08_1 g010_0 g010_1)) := by kernel_rfl
noncomputable def f9c19 := codeAt (bodyOf Try.f9) [1,1,1,1,1,1,1,1,1,0]
theorem f9t19 {ρ : Type} (N : Nat) (x19 : List Int) (w06_2 : List Int) (x08_2 : List Int) (g010_2 : List Int) (aKs1 : List Int) (w17 : Bool) (g111 : Bool) (aM2_0 : Int) (aM2_1 : Int) (aM2_2 : List Int) (w06_0 : Int) (w06_1 : Int) (x08_0 : Int) (x08_1 : Int) (g010_0 : Int) (g010_1 : Int) (K : KT ρ) : f9i N f9c19 .n (f9s6 x19 w06_2 x08_2 g010_2 aKs1 w17 g111 aM2_0 aM2_1 aM2_2 w06_0 w06_1 x08_0 x08_1 g010_0 g010_1) (joinK (some f9l6) K) =
  laws_FnExactMutateAlong.Z19 N x19 w06_2 x08_2 g010_2 aKs1 w17 g111 aM2_0 aM2_1 aM2_2 w06_0 w06_1 x08_0 x08_1 g010_0 g010_1 (fun x19 w06_2 x08_2 g010_2 aKs1 w17 g111 aM2_0 aM2_1 aM2_2 w06_0 w06_1 x08_0 x08_1 g010_0 g010_1 => K .nrm (f9s6 x19 w06_2 x08_2 g010_2 aKs1 w17 g111 aM2_0 aM2_1 aM2_2 w06_0 w06_1 x08_0 x08_1 g010_0 g010_1)) (fun t4 => K .ret (f9s11 t4)) := by kernel_rfl
noncomputable def f9c21 := codeAt (bodyOf Try.f9) [1,1,1,1,1,1,1,1,1,1,0]
theorem f9t21 {ρ : Type} (N : Nat) (x19 : List Int) (w06_2 : List Int) (x08_2 : List Int) (g010_2 : List Int) (aKs1 : List Int) (w17 : Bool) (g111 : Bool) (aM2_0 : Int) (aM2_1 : Int) (aM2_2 : List Int) (w06_0 : Int) (w06_1 : Int) (x08_0 : Int) (x08_1 : Int) (g010_0 : Int) (g010_1 : Int) (K : KT ρ) : f9i N f9c21 .n (f9s6 x19 w06_2 x08_2 g010_2 aKs1 w17 g111 aM2_0 aM2_1 aM2_2 w06_0 w06_1 x08_0 x08_1 g010_0 g010_1) (joinK (some f9l6) K) =
  laws_FnExactMutateAlong.Z21 N x19 w06_2 x08_2 g010_2 aKs1 w17 g111 aM2_0 aM2_1 aM2_2 w06_0 w06_1 x08_0 x08_1 g010_0 g010_1 (fun x19 w06_2 x08_2 g010_2 aKs1 w17 g111 aM2_0 aM2_1 aM2_2 w06_0 w06_1 x08_0 x08_1 g010_0 g010_1 => K .nrm (f9s6 x19 w06_2 x08_2 g010_2 aKs1 w17 g111 aM2_0 aM2_1 aM2_2 w06_0 w06_1 x08_0 x08_1 g010_0 g010_1)) (fun t4 => K .ret (f9s11 t4)) := by kernel_rfl
noncomputable def f9c23 := codeAt (bodyOf Try.f9) [1,1,1,1,1,1,1,1,1,1,1,0]
theorem f9t23 {ρ : Type} (N : Nat) (x19 : List Int) (w06_2 : List Int) (x08_2 : List Int) (g010_2 : List Int) (aKs1 : List Int) (w17 : Bool) (g111 : Bool) (aM2_0 : Int) (aM2_1 : Int) (aM2_2 : List Int) (w06_0 : Int) (w06_1 : Int) (x08_0 : Int) (x08_1 : Int) (g010_0 : Int) (g010_1 : Int) (K : KT ρ) : f9i N f9c23 .n (f9s6 x19 w06_2 x08_2 g010_2 aKs1 w17 g111 aM2_0 aM2_1 aM2_2 w06_0 w06_1 x08_0 x08_1 g010_0 g010_1) (joinK (some f9l6) K) =
  laws_FnExactMutateAlong.Z23 N x19 w06_2 x08_2 g010_2 aKs1 w17 g111 aM2_0 aM2_1 aM2_2 w06_0 w06_1 x08_0 x08_1 g010_0 g010_1 (fun x19 w06_2 x08_2 g010_2 aKs1 w17 g111 aM2_0 aM2_1 aM2_2 w06_0 w06_1 x08_0 x08_1 g010_0 g010_1 => K .nrm (f9s6 x19 w06_2 x08_2 g010_2 aKs1 w17 g111 aM2_0 aM2_1 aM2_2 w06_0 w06_1 x08_0 x08_1 g010_0 g010_1)) (fun t4 => K .ret (f9s11 t4)) := by kernel_rfl
noncomputable def f9c25 := codeAt (bodyOf Try.f9) [1,1,1,1,1,1,1,1,1,1,1,1,0]
theorem f9t25 {ρ : Type} (N : Nat) (x19 : List Int) (w06_2 : List Int) (x08_2 : List Int) (g010_2 : List Int) (aKs1 : List Int) (w17 : Bool) (g111 : Bool) (aM2_0 : Int) (aM2_1 : Int) (aM2_2 : List Int) (w06_0 : Int) (w06_1 : Int) (x08_0 : Int) (x08_1 : Int) (g010_0 : Int) (g010_1 : Int) (K : KT ρ) : f9i N f9c25 .n (f9s6 x19 w06_2 x08_2 g010_2 aKs1 w17 g111 aM2_0 aM2_1 aM2_2 w06_0 w06_1 x08_0 x08_1 g010_0 g010_1) (joinK (some f9l7) K) =
  laws_FnExactMutateAlong.Z25 N x19 w06_2 x08_2 g010_2 aKs1 w17 g111 aM2_0 aM2_1 aM2_2 w06_0 w06_1 x08_0 x08_1 g010_0 g010_1 (fun x19 w06_2 x08_2 g010_2 aKs1 w17 g111 k12 aM2_0 aM2_1 aM2_2 w06_0 w06_1 x08_0 x08_1 g010_0 g010_1 => K .nrm (f9s7 x19 w06_2 x08_2 g010_2 aKs1 w17 g111 k12 aM2_0 aM2_1 aM2_2 w06_0 w06_1 x08_0 x08_1 g010_0 g010_1)) := by kernel_rfl
noncomputable def f9c27 := codeAt (bodyOf Try.f9) [1,1,1,1,1,1,1,1,1,1,1,1,1,0]
theorem f9t27 {ρ : Type} (N : Nat) (x19 : List Int) (w06_2 : List Int) (x08_2 : List Int) (g010_2 : List Int) (aKs1 : List Int) (w17 : Bool) (g111 : Bool) (k12 : Int) (aM2_0 : Int) (aM2_1 : Int) (aM2_2 : List Int) (w06_0 : Int) (w06_1 : Int) (x08_0 : Int) (x08_1 : Int) (g010_0 : Int) (g010_1 : Int) (K : KT ρ) : f9i N f9c27 .n (f9s7 x19 w06_2 x08_2 g010_2 aKs1 w17 g111 k12 aM2_0 aM2_1 aM2_2 w06_0 w06_1 x08_0 x08_1 g010_0 g010_1) (joinK (some f9l8) K) =
  laws_FnExactMutateAlong.Z27 N x19 w06_2 x08_2 g010_2 aKs1 w17 g111 k12 aM2_0 aM2_1 aM2_2 w06_0 w06_1 x08_0 x08_1 g010_0 g010_1 (fun x19 w06_2 g010_2 aKs1 w17 g111 k12 aM2_0 aM2_1 aM2_2 w06_0 w06_1 g010_0 g010_1 => K .nrm (f9s8 x19 w06_2 g010_2 aKs1 w17 g111 k12 aM2_0 aM2_1 aM2_2 w06_0 w06_1 g010_0 g010_1)) := by kernel_rfl
noncomputable def f9c29 := codeAt (bodyOf Try.f9) [1,1,1,1,1,1,1,1,1,1,1,1,1,1,0]
theorem f9t29 {ρ : Type} (N : Nat) (x19 : List Int) (w06_2 : List Int) (g010_2 : List Int) (aKs1 : List Int) (w17 : Bool) (g111 : Bool) (k12 : Int) (aM2_0 : Int) (aM2_1 : Int) (aM2_2 : List Int) (w06_0 : Int) (w06_1 : Int) (g010_0 : Int) (g010_1 : Int) (K : KT ρ) : f9i N f9c29 .n (f9s8 x19 w06_2 g010_2 aKs1 w17 g111 k12 aM2_0 aM2_1 aM2_2 w06_0 w06_1 g010_0 g010_1) (joinK (some f9l9) K) =
  laws_FnExactMutateAlong.Z29 N x19 w06_2 g010_2 aKs1 w17 g111 k12 aM2_0 aM2_1 aM2_2 w06_0 w06_1 g010_0 g010_1 (fun w06_2 g010_2 aKs1 w17 g111 k12 aM2_0 aM2_1 aM2_2 w06_0 w06_1 g010_0 g010_1 => K .nrm (f9s9 w06_2 g010_2 aKs1 w17 g111 k12 aM2_0 aM2_1 aM2_2 w06_0 w06_1 g010_0 g010_1)) := by kernel_rfl
noncomputable def f9c31 := codeAt (bodyOf Try.f9) [1,1,1,1,1,1,1,1,1,1,1,1,1,1,1,0]
theorem f9t31 {ρ : Type} (N : Nat) (w06_2 : List Int) (g010_2 : List Int) (aKs1 : List Int) (w17 : Bool) (g111 : Bool) (k12 : Int) (aM2_0 : Int) (aM2_1 : Int) (aM2_2 : List Int) (w06_0 : Int) (w06_1 : Int) (g010_0 : Int) (g010_1 : Int) (K : KT ρ) : f9i N f9c31 .n (f9s9 w06_2 g010_2 aKs1 w17 g111 k12 aM2_0 aM2_1 aM2_2 w06_0 w06_1 g010_0 g010_1) (joinK (some f9l10) K) =
  laws_FnExactMutateAlong.Z31 N w06_2 g010_2 aKs1 w17 g111 k12 aM2_0 aM2_1 aM2_2 w06_0 w06_1 g010_0 g010_1 (fun w06_2 g010_2 aKs1 w17 aM2_0 aM2_1 aM2_2 w06_0 w06_1 g010_0 g010_1 => K .nrm (f9s10 w06_2 g010_2 aKs1 w17 aM2_0 aM2_1 aM2_2 w06_0 w06_1 g010_0 g010_1)) (fun t4 => K .ret (f9s11 t4)) := by kernel_rfl
noncomputable def f9c32 := codeAt (bodyOf Try.f9) [1,1,1,1,1,1,1,1,1,1,1,1,1,1,1,1]
theorem f9t32 {ρ : Type} (N : Nat) (w06_2 : List Int) (g010_2 : List Int) (aKs1 : List Int) (w17 : Bool) (aM2_0 : Int) (aM2_1 : Int) (aM2_2 : List Int) (w06_0 : Int) (w06_1 : Int) (g010_0 : Int) (g010_1 : Int) (K : KT ρ) : f9i N f9c32 .n (f9s10 w06_2 g010_2 aKs1 w17 aM2_0 aM2_1 aM2_2 w06_0 w06_1 g010_0 g010_1) (joinK (some f9lE) K) =
  laws_FnExactMutateAlong.Z32 N w06_2 g010_2 aKs1 w17 aM2_0 aM2_1 aM2_2 w06_0 w06_1 g010_0 g010_1 (fun t4 => K .ret (f9s11 t4)) := by kernel_rfl
noncomputable def f9c30 := codeAt (bodyOf Try.f9) [1,1,1,1,1,1,1,1,1,1,1,1,1,1,1]
noncomputable def f9p30 : Plan := .mk (some f9l10) none .n .n
theorem f9t30 {ρ : Type} (N : Nat) (w06_2 : List Int) (g010_2 : List Int) (aKs1 : List Int) (w17 : Bool) (g111 : Bool) (k12 : Int) (aM2_0 : Int) (aM2_1 : Int) (aM2_2 : List Int) (w06_0 : Int) (w06_1 : Int) (g010_0 : Int) (g010_1 : Int) (K : KT ρ) : f9i N f9c30 f9p30 (f9s9 w06_2 g010_2 aKs1 w17 g111 k12 aM2_0 aM2_1 aM2_2 w06_0 w06_1 g010_0 g010_1) (joinK (some f9lE) K) =
  laws_FnExactMutateAlong.Z30 N w06_2 g010_2 aKs1 w17 g111 k12 aM2_0 aM2_1 aM2_2 w06_0 w06_1 g010_0 g010_1 (fun t4 => K .ret (f9s11 t4)) :=
  viaSeq (fun k => laws_FnExactMutateAlong.Z31 N w06_2 g010_2 aKs1 w17 g111 k12 aM2_0 aM2_1 aM2_2 w06_0 w06_1 g010_0 g010_1 k (fun t4 => K .ret (f9s11 t4))) (by kernel_rfl) (by kernel_rfl) (f9t31 N w06_2 g010_2 aKs1 w17 g111 k12 aM2_0 aM2_1 aM2_2 w06_0 w06_1 g010_0 g010_1 (seqK (fun σ => f9i N f9c32 .n σ (joinK (some f9lE) K)) (joinK (some f9lE) K))) (funext fun w06_2 => funext fun g010_2 => funext fun aKs1 => funext fun w17 => funext fun aM2_0 => funext fun aM2_1 => funext fun aM2_2 => funext fun w06_0 => funext fun w06_1 => funext fun g010_0 => funext fun g010_1 => f9t32 N w06_2 g010_2 aKs1 w17 aM2_0 aM2_1 aM2_2 w06_0 w06_1 g010_0 g010_1 K) (by kernel_rfl) (by kernel_rfl)
noncomputable def f9c28 := codeAt (bodyOf Try.f9) [1,1,1,1,1,1,1,1,1,1,1,1,1,1]
noncomputable def f9p28 : Plan := .mk (some f9l9) none .n f9p30
theorem f9t28 {ρ : Type} (N : Nat) (x19 : List Int) (w06_2 : List Int) (g010_2 : List Int) (aKs1 : List Int) (w17 : Bool) (g111 : Bool) (k12 : Int) (aM2_0 : Int) (aM2_1 : Int) (aM2_2 : List Int) (w06_0 : Int) (w06_1 : Int) (g010_0 : Int) (g010_1 : Int) (K : KT ρ) : f9i N f9c28 f9p28 (f9s8 x19 w06_2 g010_2 aKs1 w17 g111 k12 aM2_0 aM2_1 aM2_2 w06_0 w06_1 g010_0 g010_1) (joinK (some f9lE) K) =
  laws_FnExactMutateAlong.Z28 N x19 w06_2 g010_2 aKs1 w17 g111 k12 aM2_0 aM2_1 aM2_2 w06_0 w06_1 g010_0 g010_1 (fun t4 => K .ret (f9s11 t4)) :=
  viaSeq (fun k => laws_FnExactMutateAlong.Z29 N x19 w06_2 g010_2 aKs1 w17 g111 k12 aM2_0 aM2_1 aM2_2 w06_0 w06_1 g010_0 g010_1 k) (by kernel_rfl) (by kernel_rfl) (f9t29 N x19 w06_2 g010_2 aKs1 w17 g111 k12 aM2_0 aM2_1 aM2_2 w06_0 w06_1 g010_0 g010_1 (seqK (fun σ => f9i N f9c30 f9p30 σ (joinK (some f9lE) K)) (joinK (some f9lE) K))) (funext fun w06_2 => funext fun g010_2 => funext fun aKs1 => funext fun w17 => funext fun g111 => funext fun k12 => funext fun aM2_0 => funext fun aM2_1 => funext fun aM2_2 => funext fun w06_0 => funext fun w06_1 => funext fun g010_0 => funext fun g010_1 => f9t30 N w06_2 g010_2 aKs1 w17 g111 k12 aM2_0 aM2_1 aM2_2 w06_0 w06_1 g010_0 g010_1 K) (by kernel_rfl) (by kernel_rfl)
noncomputable def f9c26 := codeAt (bodyOf Try.f9) [1,1,1,1,1,1,1,1,1,1,1,1,1]
noncomputable def f9p26 : Plan := .mk (some f9l8) none .n f9p28
theorem f9t26 {ρ : Type} (N : Nat) (x19 : List Int) (w06_2 : List Int) (x08_2 : List Int) (g010_2 : List Int) (aKs1 : List Int) (w17 : Bool) (g111 : Bool) (k12 : Int) (aM2_0 : Int) (aM2_1 : Int) (aM2_2 : List Int) (w06_0 : Int) (w06_1 : Int) (x08_0 : Int) (x08_1 : Int) (g010_0 : Int) (g010_1 : Int) (K : KT ρ) : f9i N f9c26 f9p26 (f9s7 x19 w06_2 x08_2 g010_2 aKs1 w17 g111 k12 aM2_0 aM2_1 aM2_2 w06_0 w06_1 x08_0 x08_1 g010_0 g010_1) (joinK (some f9lE) K) =
  laws_FnExactMutateAlong.Z26 N x19 w06_2 x08_2 g010_2 aKs1 w17 g111 k12 aM2_0 aM2_1 aM2_2 w06_0 w06_1 x08_0 x08_1 g010_0 g010_1 (fun t4 => K .ret (f9s11 t4)) :=
  viaSeq (fun k => laws_FnExactMutateAlong.Z27 N x19 w06_2 x08_2 g010_2 aKs1 w17 g111 k12 aM2_0 aM2_1 aM2_2 w06_0 w06_1 x08_0 x08_1 g010_0 g010_1 k) (by kernel_rfl) (by kernel_rfl) (f9t27 N x19 w06_2 x08_2 g010_2 aKs1 w17 g111 k12 aM2_0 aM2_1 aM2_2 w06_0 w06_1 x08_0 x08_1 g010_0 g010_1 (seqK (fun σ => f9i N f9c28 f9p28 σ (joinK (some f9lE) K)) (joinK (some f9lE) K))) (funext fun x19 => funext fun w06_2 => funext fun g010_2 => funext fun aKs1 => funext fun w17 => funext fun g111 => funext fun k12 => funext fun aM2_0 => funext fun aM2_1 => funext fun aM2_2 => funext fun w06_0 => funext fun w06_1 => funext fun g010_0 => funext fun g010_1 => f9t28 N x19 w06_2 g010_2 aKs1 w17 g111 k12 aM2_0 aM2_1 aM2_2 w06_0 w06_1 g010_0 g010_1 K) (by kernel_rfl) (by kernel_rfl)
noncomputable def f9c24 := codeAt (bodyOf Try.f9) [1,1,1,1,1,1,1,1,1,1,1,1]
noncomputable def f9p24 : Plan := .mk (some f9l7) none .n f9p26
theorem f9t24 {ρ : Type} (N : Nat) (x19 : List Int) (w06_2 : List Int) (x08_2 : List Int) (g010_2 : List Int) (aKs1 : List Int) (w17 : Bool) (g111 : Bool) (aM2_0 : Int) (aM2_1 : Int) (aM2_2 : List Int) (w06_0 : Int) (w06_1 : Int) (x08_0 : Int) (x08_1 : Int) (g010_0 : Int) (g010_1 : Int) (K : KT ρ) : f9i N f9c24 f9p24 (f9s6 x19 w06_2 x08_2 g010_2 aKs1 w17 g111 aM2_0 aM2_1 aM2_2 w06_0 w06_1 x08_0 x08_1 g010_0 g010_1) (joinK (some f9lE) K) =
  laws_FnExactMutateAlong.Z24 N x19 w06_2 x08_2 g010_2 aKs1 w17 g111 aM2_0 aM2_1 aM2_2 w06_0 w06_1 x08_0 x08_1 g010_0 g010_1 (fun t4 => K .ret (f9s11 t4)) :=
  viaSeq (fun k => laws_FnExactMutateAlong.Z25 N x19 w06_2 x08_2 g010_2 aKs1 w17 g111 aM2_0 aM2_1 aM2_2 w06_0 w06_1 x08_0 x08_1 g010_0 g010_1 k) (by kernel_rfl) (by kernel_rfl) (f9t25 N x19 w06_2 x08_2 g010_2 aKs1 w17 g111 aM2_0 aM2_1 aM2_2 w06_0 w06_1 x08_0 x08_1 g010_0 g010_1 (seqK (fun σ => f9i N f9c26 f9p26 σ (joinK (some f9lE) K)) (joinK (some f9lE) K))) (funext fun x19 => funext fun w06_2 => funext fun x08_2 => funext fun g010_2 => funext fun aKs1 => funext fun w17 => funext fun g111 => funext fun k12 => funext fun aM2_0 => funext fun aM2_1 => funext fun aM2_2 => funext fun w06_0 => funext fun w06_1 => funext fun x08_0 => funext fun x08_1 => funext fun g010_0 => funext fun g010_1 => f9t26 N x19 w06_2 x08_2 g010_2 aKs1 w17 g111 k12 aM2_0 aM2_1 aM2_2 w06_0 w06_1 x08_0 x08_1 g010_0 g010_1 K) (by kernel_rfl) (by kernel_rfl)
noncomputable def f9c22 := codeAt (bodyOf Try.f9) [1,1,1,1,1,1,1,1,1,1,1]
noncomputable def f9p22 : Plan := .mk (some f9l6) none .n f9p24
theorem f9t22 {ρ : Type} (N : Nat) (x19 : List Int) (w06_2 : List Int) (x08_2 : List Int) (g010_2 : List Int) (aKs1 : List Int) (w17 : Bool) (g111 : Bool) (aM2_0 : Int) (aM2_1 : Int) (aM2_2 : List Int) (w06_0 : Int) (w06_1 : Int) (x08_0 : Int) (x08_1 : Int) (g010_0 : Int) (g010_1 : Int) (K : KT ρ) : f9i N f9c22 f9p22 (f9s6 x19 w06_2 x08_2 g010_2 aKs1 w17 g111 aM2_0 aM2_1 aM2_2 w06_0 w06_1 x08_0 x08_1 g010_0 g010_1) (joinK (some f9lE) K) =
  laws_FnExactMutateAlong.Z22 N x19 w06_2 x08_2 g010_2 aKs1 w17 g111 aM2_0 aM2_1 aM2_2 w06_0 w06_1 x08_0 x08_1 g010_0 g010_1 (fun t4 => K .ret (f9s11 t4)) :=
  viaSeq (fun k => laws_FnExactMutateAlong.Z23 N x19 w06_2 x08_2 g010_2 aKs1 w17 g111 aM2_0 aM2_1 aM2_2 w06_0 w06_1 x08_0 x08_1 g010_0 g010_1 k (fun t4 => K .ret (f9s11 t4))) (by kernel_rfl) (by kernel_rfl) (f9t23 N x19 w06_2 x08_2 g010_2 aKs1 w17 g111 aM2_0 aM2_1 aM2_2 w06_0 w06_1 x08_0 x08_1 g010_0 g010_1 (seqK (fun σ => f9i N f9c24 f9p24 σ (joinK (some f9lE) K)) (joinK (some f9lE) K))) (funext fun x19 => funext fun w06_2 => funext fun x08_2 => funext fun g010_2 => funext fun aKs1 => funext fun w17 => funext fun g111 => funext fun aM2_0 => funext fun aM2_1 => funext fun aM2_2 => funext fun w06_0 => funext fun w06_1 => funext fun x08_0 => funext fun x08_1 => funext fun g010_0 => funext fun g010_1 => f9t24 N x19 w06_2 x08_2 g010_2 aKs1 w17 g111 aM2_0 aM2_1 aM2_2 w06_0 w06_1 x08_0 x08_1 g010_0 g010_1 K) (by kernel_rfl) (by kernel_rfl)
noncomputable def f9c20 := codeAt (bodyOf Try.f9) [1,1,1,1,1,1,1,1,1,1]
noncomputable def f9p20 : Plan := .mk (some f9l6) none .n f9p22
theorem f9t20 {ρ : Type} (N : Nat) (x19 : List Int) (w06_2 : List Int) (x08_2 : List Int) (g010_2 : List Int) (aKs1 : List Int) (w17 : Bool) (g111 : Bool) (aM2_0 : Int) (aM2_1 : Int) (aM2_2 : List Int) (w06_0 : Int) (w06_1 : Int) (x08_0 : Int) (x08_1 : Int) (g010_0 : Int) (g010_1 : Int) (K : KT ρ) : f9i N f9c20 f9p20 (f9s6 x19 w06_2 x08_2 g010_2 aKs1 w17 g111 aM2_0 aM2_1 aM2_2 w06_0 w06_1 x08_0 x08_1 g010_0 g010_1) (joinK (some f9lE) K) =
  laws_FnExactMutateAlong.Z20 N x19 w06_2 x08_2 g010_2 aKs1 w17 g111 aM2_0 aM2_1 aM2_2 w06_0 w06_1 x08_0 x08_1 g010_0 g010_1 (fun t4 => K .ret (f9s11 t4)) :=
  viaSeq (fun k => laws_FnExactMutateAlong.Z21 N x19 w06_2 x08_2 g010_2 aKs1 w17 g111 aM2_0 aM2_1 aM2_2 w06_0 w06_1 x08_0 x08_1 g010_0 g010_1 k (fun t4 => K .ret (f9s11 t4))) (by kernel_rfl) (by kernel_rfl) (f9t21 N x19 w06_2 x08_2 g010_2 aKs1 w17 g111 aM2_0 aM2_1 aM2_2 w06_0 w06_1 x08_0 x08_1 g010_0 g010_1 (seqK (fun σ => f9i N f9c22 f9p22 σ (joinK (some f9lE) K)) (joinK (some f9lE) K))) (funext fun x19 => funext fun w06_2 => funext fun x08_2 => funext fun g010_2 => funext fun aKs1 => funext fun w17 => funext fun g111 => funext fun aM2_0 => funext fun aM2_1 => funext fun aM2_2 => funext fun w06_0 => funext fun w06_1 => funext fun x08_0 => funext fun x08_1 => funext fun g010_0 => funext fun g010_1 => f9t22 N x19 w06_2 x08_2 g010_2 aKs1 w17 g111 aM2_0 aM2_1 aM2_2 w06_0 w06_1 x08_0 x08_1 g010_0 g010_1 K) (by kernel_rfl) (by kernel_rfl)
noncomputable def f9c18 := codeAt (bodyOf Try.f9) [1,1,1,1,1,1,1,1,1]
noncomputable def f9p18 : Plan := .mk (some f9l6) none .n f9p20
theorem f9t18 {ρ : Type} (N : Nat) (x19 : List Int) (w06_2 : List Int) (x08_2 : List Int) (g010_2 : List Int) (aKs1 : List Int) (w17 : Bool) (g111 : Bool) (aM2_0 : Int) (aM2_1 : Int) (aM2_2 : List Int) (w06_0 : Int) (w06_1 : Int) (x08_0 : Int) (x08_1 : Int) (g010_0 : Int) (g010_1 : Int) (K : KT ρ) : f9i N f9c18 f9p18 (f9s6 x19 w06_2 x08_2 g010_2 aKs1 w17 g111 aM2_0 aM2_1 aM2_2 w06_0 w06_1 x08_0 x08_1 g010_0 g010_1) (joinK (some f9lE) K) =
  laws_FnExactMutateAlong.Z18 N x19 w06_2 x08_2 g010_2 aKs1 w17 g111 aM2_0 aM2_1 aM2_2 w06_0 w06_1 x08_0 x08_1 g010_0 g010_1 (fun t4 => K .ret (f9s11 t4)) :=
  viaSeq (fun k => laws_FnExactMutateAlong.Z19 N x19 w06_2 x08_2 g010_2 aKs1 w17 g111 aM2_0 aM2_1 aM2_2 w06_0 w06_1 x08_0 x08_1 g010_0 g010_1 k (fun t4 => K .ret (f9s11 t4))) (by kernel_rfl) (by kernel_rfl) (f9t19 N x19 w06_2 x08_2 g010_2 aKs1 w17 g111 aM2_0 aM2_1 aM2_2 w06_0 w06_1 x08_0 x08_1 g010_0 g010_1 (seqK (fun σ => f9i N f9c20 f9p20 σ (joinK (some f9lE) K)) (joinK (some f9lE) K))) (funext fun x19 => funext fun w06_2 => funext fun x08_2 => funext fun g010_2 => funext fun aKs1 => funext fun w17 => funext fun g111 => funext fun aM2_0 => funext fun aM2_1 => funext fun aM2_2 => funext fun w06_0 => funext fun w06_1 => funext fun x08_0 => funext fun x08_1 => funext fun g010_0 => funext fun g010_1 => f9t20 N x19 w06_2 x08_2 g010_2 aKs1 w17 g111 aM2_0 aM2_1 aM2_2 w06_0 w06_1 x08_0 x08_1 g010_0 g010_1 K) (by kernel_rfl) (by kernel_rfl)
noncomputable def f9c16 := codeAt (bodyOf Try.f9) [1,1,1,1,1,1,1,1]
noncomputable def f9p16 : Plan := .mk (some f9l6) none .n f9p18
theorem f9t16 {ρ : Type} (N : Nat) (x19 : List Int) (w06_2 : List Int) (x08_2 : List Int) (aKs1 : List Int) (w17 : Bool) (aM2_0 : Int) (aM2_1 : Int) (aM2_2 : List Int) (w06_0 : Int) (w06_1 : Int) (x08_0 : Int) (x08_1 : Int) (K : KT ρ) : f9i N f9c16 f9p16 (f9s5 x19 w06_2 x08_2 aKs1 w17 aM2_0 aM2_1 aM2_2 w06_0 w06_1 x08_0 x08_1) (joinK (some f9lE) K) =
  laws_FnExactMutateAlong.Z16 N x19 w06_2 x08_2 aKs1 w17 aM2_0 aM2_1 aM2_2 w06_0 w06_1 x08_0 x08_1 (fun t4 => K .ret (f9s11 t4)) :=
  viaSeq (fun k => laws_FnExactMutateAlong.Z17 N x19 w06_2 x08_2 aKs1 w17 aM2_0 aM2_1 aM2_2 w06_0 w06_1 x08_0 x08_1 k) (by kernel_rfl) (by kernel_rfl) (f9t17 N x19 w06_2 x08_2 aKs1 w17 aM2_0 aM2_1 aM2_2 w06_0 w06_1 x08_0 x08_1 (seqK (fun σ => f9i N f9c18 f9p18 σ (joinK (some f9lE) K)) (joinK (some f9lE) K))) (funext fun x19 => funext fun w06_2 => funext fun x08_2 => funext fun g010_2 => funext fun aKs1 => funext fun w17 => funext fun g111 => funext fun aM2_0 => funext fun aM2_1 => funext fun aM2_2 => funext fun w06_0 => funext fun w06_1 => funext fun x08_0 => funext fun x08_1 => funext fun g010_0 => funext fun g010_1 => f9t18 N x19 w06_2 x08_2 g010_2 aKs1 w17 g111 aM2_0 aM2_1 aM2_2 w06_0 w06_1 x08_0 x08_1 g010_0 g010_1 K) (by kernel_rfl) (by kernel_rfl)
noncomputable def f9c14 := codeAt (bodyOf Try.f9) [1,1,1,1,1,1,1]
noncomputable def f9p14 : Plan := .mk (some f9l5) none .n f9p16
theorem f9t14 {ρ : Type} (N : Nat) (w06_2 : List Int) (x08_2 : List Int) (aKs1 : List Int) (w17 : Bool) (aM2_0 : Int) (aM2_1 : Int) (aM2_2 : List Int) (w06_0 : Int) (w06_1 : Int) (x08_0 : Int) (x08_1 : Int) (K : KT ρ) : f9i N f9c14 f9p14 (f9s4 w06_2 x08_2 aKs1 w17 aM2_0 aM2_1 aM2_2 w06_0 w06_1 x08_0 x08_1) (joinK (some f9lE) K) =
  laws_FnExactMutateAlong.Z14 N w06_2 x08_2 aKs1 w17 aM2_0 aM2_1 aM2_2 w06_0 w06_1 x08_0 x08_1 (fun t4 => K .ret (f9s11 t4)) :=
  viaSeq (fun k => laws_FnExactMutateAlong.Z15 N w06_2 x08_2 aKs1 w17 aM2_0 aM2_1 aM2_2 w06_0 w06_1 x08_0 x08_1 k) (by kernel_rfl) (by kernel_rfl) (f9t15 N w06_2 x08_2 aKs1 w17 aM2_0 aM2_1 aM2_2 w06_0 w06_1 x08_0 x08_1 (seqK (fun σ => f9i N f9c16 f9p16 σ (joinK (some f9lE) K)) (joinK (some f9lE) K))) (funext fun x19 => funext fun w06_2 => funext fun x08_2 => funext fun aKs1 => funext fun w17 => funext fun aM2_0 => funext fun aM2_1 => funext fun aM2_2 => funext fun w06_0 => funext fun w06_1 => funext fun x08_0 => funext fun x08_1 => f9t16 N x19 w06_2 x08_2 aKs1 w17 aM2_0 aM2_1 aM2_2 w06_0 w06_1 x08_0 x08_1 K) (by kernel_rfl) (by kernel_rfl)
noncomputable def f9c12 := codeAt (bodyOf Try.f9) [1,1,1,1,1,1]
noncomputable def f9p12 : Plan := .mk (some f9l4) none .n f9p14
theorem f9t12 {ρ : Type} (N : Nat) (w06_2 : List Int) (aKs1 : List Int) (w17 : Bool) (aM2_0 : Int) (aM2_1 : Int) (aM2_2 : List Int) (w06_0 : Int) (w06_1 : Int) (K : KT ρ) : f9i N f9c12 f9p12 (f9s3 w06_2 aKs1 w17 aM2_0 aM2_1 aM2_2 w06_0 w06_1) (joinK (some f9lE) K) =
  laws_FnExactMutateAlong.Z12 N w06_2 aKs1 w17 aM2_0 aM2_1 aM2_2 w06_0 w06_1 (fun t4 => K .ret (f9s11 t4)) :=
  viaSeq (fun k => laws_FnExactMutateAlong.Z13 N w06_2 aKs1 w17 aM2_0 aM2_1 aM2_2 w06_0 w06_1 k) (by kernel_rfl) (by kernel_rfl) (f9t13 N w06_2 aKs1 w17 aM2_0 aM2_1 aM2_2 w06_0 w06_1 (seqK (fun σ => f9i N f9c14 f9p14 σ (joinK (some f9lE) K)) (joinK (some f9lE) K))) (funext fun w06_2 => funext fun x08_2 => funext fun aKs1 => funext fun w17 => funext fun aM2_0 => funext fun aM2_1 => funext fun aM2_2 => funext fun w06_0 => funext fun w06_1 => funext fun x08_0 => funext fun x08_1 => f9t14 N w06_2 x08_2 aKs1 w17 aM2_0 aM2_1 aM2_2 w06_0 w06_1 x08_0 x08_1 K) (by kernel_rfl) (by kernel_rfl)
noncomputable def f9c10 := codeAt (bodyOf Try.f9) [1,1,1,1,1]
noncomputable def f9p10 : Plan := .mk (some f9l3) none .n f9p12
theorem f9t10 {ρ : Type} (N : Nat) (aKs1 : List Int) (aM2_0 : Int) (aM2_1 : Int) (aM2_2 : List Int) (K : KT ρ) : f9i N f9c10 f9p10 (f9s1 aKs1 aM2_0 aM2_1 aM2_2) (joinK (some f9lE) K) =
  laws_FnExactMutateAlong.Z10 N aKs1 aM2_0 aM2_1 aM2_2 (fun t4 => K .ret (f9s11 t4)) :=
  viaSeq (fun k => laws_FnExactMutateAlong.Z11 N aKs1 aM2_0 aM2_1 aM2_2 k) (by kernel_rfl) (by kernel_rfl) (f9t11 N aKs1 aM2_0 aM2_1 aM2_2 (seqK (fun σ => f9i N f9c12 f9p12 σ (joinK (some f9lE) K)) (joinK (some f9lE) K))) (funext fun w06_2 => funext fun aKs1 => funext fun w17 => funext fun aM2_0 => funext fun aM2_1 => funext fun aM2_2 => funext fun w06_0 => funext fun w06_1 => f9t12 N w06_2 aKs1 w17 aM2_0 aM2_1 aM2_2 w06_0 w06_1 K) (by kernel_rfl) (by kernel_rfl)
noncomputable def f9c8 := codeAt (bodyOf Try.f9) [1,1,1,1]
noncomputable def f9p8 : Plan := .mk (some f9l1) none .n f9p10
theorem f9t8 {ρ : Type} (N : Nat) (aKs1 : List Int) (left5 : Int) (aM2_0 : Int) (aM2_1 : Int) (aM2_2 : List Int) (K : KT ρ) : f9i N f9c8 f9p8 (f9s2 aKs1 left5 aM2_0 aM2_1 aM2_2) (joinK (some f9lE) K) =
  laws_FnExactMutateAlong.Z8 N aKs1 left5 aM2_0 aM2_1 aM2_2 (fun t4 => K .ret (f9s11 t4)) :=
  viaSeq (fun k => laws_FnExactMutateAlong.Z9 N aKs1 left5 aM2_0 aM2_1 aM2_2 k (fun t4 => K .ret (f9s11 t4))) (by kernel_rfl) (by kernel_rfl) (f9t9 N aKs1 left5 aM2_0 aM2_1 aM2_2 (seqK (fun σ => f9i N f9c10 f9p10 σ (joinK (some f9lE) K)) (joinK (some f9lE) K))) (funext fun aKs1 => funext fun aM2_0 => funext fun aM2_1 => funext fun aM2_2 => f9t10 N aKs1 aM2_0 aM2_1 aM2_2 K) (by kernel_rfl) (by kernel_rfl)
noncomputable def f9c6 := codeAt (bodyOf Try.f9) [1,1,1]
noncomputable def f9p6 : Plan := .mk (some f9l2) none .n f9p8
theorem f9t6 {ρ : Type} (N : Nat) (aKs1 : List Int) (left5 : Int) (aM2_0 : Int) (aM2_1 : Int) (aM2_2 : List Int) (K : KT ρ) : f9i N f9c6 f9p6 (f9s2 aKs1 left5 aM2_0 aM2_1 aM2_2) (joinK (some f9lE) K) =
  laws_FnExactMutateAlong.Z6 N aKs1 left5 aM2_0 aM2_1 aM2_2 (fun t4 => K .ret (f9s11 t4)) :=
  viaSeq (fun k => laws_FnExactMutateAlong.Z7 N aKs1 left5 aM2_0 aM2_1 aM2_2 k) (by kernel_rfl) (by kernel_rfl) (f9t7 N aKs1 left5 aM2_0 aM2_1 aM2_2 (seqK (fun σ => f9i N f9c8 f9p8 σ (joinK (some f9lE) K)) (joinK (some f9lE) K))) (funext fun aKs1 => funext fun left5 => funext fun aM2_0 => funext fun aM2_1 => funext fun aM2_2 => f9t8 N aKs1 left5 aM2_0 aM2_1 aM2_2 K) (by kernel_rfl) (by kernel_rfl)
noncomputable def f9c4 := codeAt (bodyOf Try.f9) [1,1]
noncomputable def f9p4 : Plan := .mk (some f9l2) none .n f9p6
theorem f9t4 {ρ : Type} (N : Nat) (aKs1 : List Int) (aM2_0 : Int) (aM2_1 : Int) (aM2_2 : List Int) (K : KT ρ) : f9i N f9c4 f9p4 (f9s1 aKs1 aM2_0 aM2_1 aM2_2) (joinK (some f9lE) K) =
  laws_FnExactMutateAlong.Z4 N aKs1 aM2_0 aM2_1 aM2_2 (fun t4 => K .ret (f9s11 t4)) :=
  viaSeq (fun k => laws_FnExactMutateAlong.Z5 N aKs1 aM2_0 aM2_1 aM2_2 k) (by kernel_rfl) (by kernel_rfl) (f9t5 N aKs1 aM2_0 aM2_1 aM2_2 (seqK (fun σ => f9i N f9c6 f9p6 σ (joinK (some f9lE) K)) (joinK (some f9lE) K))) (funext fun aKs1 => funext fun left5 => funext fun aM2_0 => funext fun aM2_1 => funext fun aM2_2 => f9t6 N aKs1 left5 aM2_0 aM2_1 aM2_2 K) (by kernel_rfl) (by kernel_rfl)
noncomputable def f9c2 := codeAt (bodyOf Try.f9) [1]
noncomputable def f9p2 : Plan := .mk (some f9l1) none .n f9p4
theorem f9t2 {ρ : Type} (N : Nat) (aKs1 : List Int) (aM2_0 : Int) (aM2_1 : Int) (aM2_2 : List Int) (K : KT ρ) : f9i N f9c2 f9p2 (f9s1 aKs1 aM2_0 aM2_1 aM2_2) (joinK (some f9lE) K) =
  laws_FnExactMutateAlong.Z2 N aKs1 aM2_0 aM2_1 aM2_2 (fun t4 => K .ret (f9s11 t4)) :=
  viaSeq (fun k => laws_FnExactMutateAlong.Z3 N aKs1 aM2_0 aM2_1 aM2_2 k (fun t4 => K .ret (f9s11 t4))) (by kernel_rfl) (by kernel_rfl) (f9t3 N aKs1 aM2_0 aM2_1 aM2_2 (seqK (fun σ => f9i N f9c4 f9p4 σ (joinK (some f9lE) K)) (joinK (some f9lE) K))) (funext fun aKs1 => funext fun aM2_0 => funext fun aM2_1 => funext fun aM2_2 => f9t4 N aKs1 aM2_0 aM2_1 aM2_2 K) (by kernel_rfl) (by kernel_rfl)
noncomputable def f9c0 := codeAt (bodyOf Try.f9) []
noncomputable def f9p0 : Plan := .mk (some f9l1) none .n f9p2
theorem f9t0 {ρ : Type} (N : Nat) (aM0 : Int × Int × List Int) (aKs1 : List Int) (K : KT ρ) : f9i N f9c0 f9p0 (f9s0 aM0 aKs1) (joinK (some f9lE) K) =
  laws_FnExactMutateAlong.Z0 N aM0 aKs1 (fun t4 => K .ret (f9s11 t4)) :=
  viaSeq (fun k => laws_FnExactMutateAlong.Z1 N aM0 aKs1 k) (by kernel_rfl) (by kernel_rfl) (f9t1 N aM0 aKs1 (seqK (fun σ => f9i N f9c2 f9p2 σ (joinK (some f9lE) K)) (joinK (some f9lE) K))) (funext fun aKs1 => funext fun aM2_0 => funext fun aM2_1 => funext fun aM2_2 => f9t2 N aKs1 aM2_0 aM2_1 aM2_2 K) (by kernel_rfl) (by kernel_rfl)
theorem f9m (N : Nat) (aM0 : Int × Int × List Int) (aKs1 : List Int) : f9i N f9c0 f9p0 (f9s0 aM0 aKs1) (joinK (some f9lE) (finK tab f9sig Try.f9.results.toList)) = laws_FnExactMutateAlong.Z0 N aM0 aKs1 (fun t4 => some ((), (t4, ()))) :=
  (f9t0 N aM0 aKs1 (finK tab f9sig Try.f9.results.toList)).trans (by kernel_rfl)
theorem f9ok (h : laws_FnExactMutateAlong.Spec) : EntryOk Try.prog 9 e9 :=
  entry_of_code (sig := f9sig) (c := f9c0) (pl := f9p0) (je := (some f9lE)) (B := f9B) Try.func9 (by kernel_rfl) (by kernel_rfl) (by kernel_rfl) tabOk f9GOk (by kernel_rfl) (by kernel_rfl) (by kernel_rfl) (by kernel_rfl) fun X hb hp => by
    obtain ⟨aM0, aKs1, _⟩ := X
    obtain ⟨N, h⟩ := h aM0 aKs1 hb.1 hb.2.1
    exact ⟨N, (f9m N aM0 aKs1).trans (h N (Nat.le_refl N))⟩
theorem e9ok : EntryOk Try.prog 9 e9 := f9ok laws_FnExactMutateAlong.ok
end Go.Fw
