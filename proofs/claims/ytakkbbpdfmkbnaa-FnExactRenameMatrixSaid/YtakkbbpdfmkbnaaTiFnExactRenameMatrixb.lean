/- The ties: the program's text comes to the plain functions. Nothing is assumed. -/
import Derived.Test.YtakkbbpdfmkbnaaPuFnExactRenameMatrixb
import Derived.Test.YtakkbbpdfmkbnaaTiFnExactRenameMatrixa
import Derived.Test.YtakkbbpdfmkbnaaPuFnExactRenameMatrixa
set_option linter.unusedVariables false
set_option linter.unusedSimpArgs false
set_option maxRecDepth 100000
namespace Go.Fw
open Go.Proofs
/-! ### loop.example/g03115/impl.factors -/
noncomputable def f64sig : Sig := ⟨[⟨.pair (.int .i64) (.pair (.int .i64) (.sl 3 (.int .i64))), true, false⟩], [⟨.sl 3 (.int .i64), false, true⟩]⟩
noncomputable def e64 : Entry := ⟨f64sig, (some fun X => impl_factors.P X.1), fun X => ((), ((impl_factors.g X.1), ()))⟩
noncomputable def f64G : Nat → Option Entry := addG (addG (fun _ => none) 60 e60) 97 e97
theorem f64GOk : GOk Try.prog f64G := ((GOk.nil).add e60ok (by kernel_rfl)).add e97ok (by kernel_rfl)
noncomputable def f64lE : Clean := ⟨[], [], [], [], []⟩
noncomputable def f64s0 (m0 : Int × Int × List Int) : St := initSt f64sig.ps (m0, ())
noncomputable def f64s1 (m1_0 : Int) (m1_1 : Int) (m1_2 : List Int) : St := stOf [(1, .c (.box 1 0))] [(1, (26, [.int .i64 m1_0, .int .i64 m1_1, .sn 3 (.int .i64) m1_2 none]))] []
noncomputable def f64l1 : Clean := ⟨[1], [1], [], [], []⟩
noncomputable def f64s2 (num3 : List Int) (den4 : List Int) (m1_0 : Int) (m1_1 : Int) (m1_2 : List Int) : St := stOf [(1, .c (.box 1 0)), (3, .c (.own 1000192)), (4, .c (.own 1000256))] [(1, (26, [.int .i64 m1_0, .int .i64 m1_1, .sn 3 (.int .i64) m1_2 none]))] [(1000192, (⟨3, .int .i64, num3, true, false⟩ : Row)), (1000256, (⟨3, .int .i64, den4, true, false⟩ : Row))]
noncomputable def f64l2 : Clean := ⟨[1, 3, 4], [1], [], [], [(⟨false, 3, 0⟩, 1000192), (⟨false, 4, 0⟩, 1000256)]⟩
noncomputable def f64s3 (num3 : List Int) (den4 : List Int) (out5 : List Int) (m1_0 : Int) (m1_1 : Int) (m1_2 : List Int) : St := stOf [(1, .c (.box 1 0)), (3, .c (.own 1000192)), (4, .c (.own 1000256)), (5, .c (.own 1000320))] [(1, (26, [.int .i64 m1_0, .int .i64 m1_1, .sn 3 (.int .i64) m1_2 none]))] [(1000192, (⟨3, .int .i64, num3, true, false⟩ : Row)), (1000256, (⟨3, .int .i64, den4, true, false⟩ : Row)), (1000320, (⟨3, .int .i64, out5, true, false⟩ : Row))]
noncomputable def f64l3 : Clean := ⟨[1, 3, 4, 5], [1], [], [], [(⟨false, 3, 0⟩, 1000192), (⟨false, 4, 0⟩, 1000256), (⟨false, 5, 0⟩, 1000320)]⟩
noncomputable def f64s4 (num3 : List Int) (den4 : List Int) (out5 : List Int) (t34 : Int) (t35 : Int) (m1_0 : Int) (m1_1 : Int) (m1_2 : List Int) : St := stOf [(1, .c (.box 1 0)), (3, .c (.own 1000192)), (4, .c (.own 1000256)), (5, .c (.own 1000320)), (34, .c (.int .i64 t34)), (35, .c (.int .i64 t35))] [(1, (26, [.int .i64 m1_0, .int .i64 m1_1, .sn 3 (.int .i64) m1_2 none]))] [(1000192, (⟨3, .int .i64, num3, true, false⟩ : Row)), (1000256, (⟨3, .int .i64, den4, true, false⟩ : Row)), (1000320, (⟨3, .int .i64, out5, true, false⟩ : Row))]
noncomputable def f64l4 : Clean := ⟨[1, 3, 4, 5, 34, 35], [1], [], [], [(⟨false, 3, 0⟩, 1000192), (⟨false, 4, 0⟩, 1000256), (⟨false, 5, 0⟩, 1000320)]⟩
noncomputable def f64s5 (num3 : List Int) (den4 : List Int) (out5 : List Int) (t34 : Int) (t35 : Int) (t36 : Bool) (m1_0 : Int) (m1_1 : Int) (m1_2 : List Int) : St := stOf [(1, .c (.box 1 0)), (3, .c (.own 1000192)), (4, .c (.own 1000256)), (5, .c (.own 1000320)), (34, .c (.int .i64 t34)), (35, .c (.int .i64 t35)), (36, .c (.bool t36))] [(1, (26, [.int .i64 m1_0, .int .i64 m1_1, .sn 3 (.int .i64) m1_2 none]))] [(1000192, (⟨3, .int .i64, num3, true, false⟩ : Row)), (1000256, (⟨3, .int .i64, den4, true, false⟩ : Row)), (1000320, (⟨3, .int .i64, out5, true, false⟩ : Row))]
noncomputable def f64l5 : Clean := ⟨[1, 3, 4, 5, 34, 35, 36], [1], [], [], [(⟨false, 3, 0⟩, 1000192), (⟨false, 4, 0⟩, 1000256), (⟨false, 5, 0⟩, 1000320)]⟩
noncomputable def f64s6 (num3 : List Int) (den4 : List Int) (out5 : List Int) (s6 : Int) (t34 : Int) (t35 : Int) (m1_0 : Int) (m1_1 : Int) (m1_2 : List Int) : St := stOf [(1, .c (.box 1 0)), (3, .c (.own 1000192)), (4, .c (.own 1000256)), (5, .c (.own 1000320)), (6, .c (.int .i64 s6)), (34, .c (.int .i64 t34)), (35, .c (.int .i64 t35))] [(1, (26, [.int .i64 m1_0, .int .i64 m1_1, .sn 3 (.int .i64) m1_2 none]))] [(1000192, (⟨3, .int .i64, num3, true, false⟩ : Row)), (1000256, (⟨3, .int .i64, den4, true, false⟩ : Row)), (1000320, (⟨3, .int .i64, out5, true, false⟩ : Row))]
noncomputable def f64l6 : Clean := ⟨[1, 3, 4, 5, 6, 34, 35], [1], [], [], [(⟨false, 3, 0⟩, 1000192), (⟨false, 4, 0⟩, 1000256), (⟨false, 5, 0⟩, 1000320)]⟩
noncomputable def f64s7 (num3 : List Int) (den4 : List Int) (out5 : List Int) (piece7 : List Int) (t34 : Int) (t35 : Int) (m1_0 : Int) (m1_1 : Int) (m1_2 : List Int) : St := stOf [(1, .c (.box 1 0)), (3, .c (.own 1000192)), (4, .c (.own 1000256)), (5, .c (.own 1000320)), (7, .c (.own 1000448)), (34, .c (.int .i64 t34)), (35, .c (.int .i64 t35))] [(1, (26, [.int .i64 m1_0, .int .i64 m1_1, .sn 3 (.int .i64) m1_2 none]))] [(1000192, (⟨3, .int .i64, num3, true, false⟩ : Row)), (1000256, (⟨3, .int .i64, den4, true, false⟩ : Row)), (1000320, (⟨3, .int .i64, out5, true, false⟩ : Row)), (1000448, (⟨3, .int .i64, piece7, true, false⟩ : Row))]
noncomputable def f64l7 : Clean := ⟨[1, 3, 4, 5, 7, 34, 35], [1], [], [], [(⟨false, 3, 0⟩, 1000192), (⟨false, 4, 0⟩, 1000256), (⟨false, 5, 0⟩, 1000320), (⟨false, 7, 0⟩, 1000448)]⟩
noncomputable def f64s8 (num3 : List Int) (den4 : List Int) (out5 : List Int) (piece7 : List Int) (at8 : Int) (t34 : Int) (t35 : Int) (m1_0 : Int) (m1_1 : Int) (m1_2 : List Int) : St := stOf [(1, .c (.box 1 0)), (3, .c (.own 1000192)), (4, .c (.own 1000256)), (5, .c (.own 1000320)), (7, .c (.own 1000448)), (8, .c (.int .i64 at8)), (34, .c (.int .i64 t34)), (35, .c (.int .i64 t35))] [(1, (26, [.int .i64 m1_0, .int .i64 m1_1, .sn 3 (.int .i64) m1_2 none]))] [(1000192, (⟨3, .int .i64, num3, true, false⟩ : Row)), (1000256, (⟨3, .int .i64, den4, true, false⟩ : Row)), (1000320, (⟨3, .int .i64, out5, true, false⟩ : Row)), (1000448, (⟨3, .int .i64, piece7, true, false⟩ : Row))]
noncomputable def f64l8 : Clean := ⟨[1, 3, 4, 5, 7, 8, 34, 35], [1], [], [], [(⟨false, 3, 0⟩, 1000192), (⟨false, 4, 0⟩, 1000256), (⟨false, 5, 0⟩, 1000320), (⟨false, 7, 0⟩, 1000448)]⟩
noncomputable def f64s9 (num3 : List Int) (den4 : List Int) (out5 : List Int) (piece7 : List Int) (at8 : Int) (i9 : Int) (t34 : Int) (t35 : Int) (m1_0 : Int) (m1_1 : Int) (m1_2 : List Int) : St := stOf [(1, .c (.box 1 0)), (3, .c (.own 1000192)), (4, .c (.own 1000256)), (5, .c (.own 1000320)), (7, .c (.own 1000448)), (8, .c (.int .i64 at8)), (9, .c (.int .i64 i9)), (34, .c (.int .i64 t34)), (35, .c (.int .i64 t35))] [(1, (26, [.int .i64 m1_0, .int .i64 m1_1, .sn 3 (.int .i64) m1_2 none]))] [(1000192, (⟨3, .int .i64, num3, true, false⟩ : Row)), (1000256, (⟨3, .int .i64, den4, true, false⟩ : Row)), (1000320, (⟨3, .int .i64, out5, true, false⟩ : Row)), (1000448, (⟨3, .int .i64, piece7, true, false⟩ : Row))]
noncomputable def f64l9 : Clean := ⟨[1, 3, 4, 5, 7, 8, 9, 34, 35], [1], [], [], [(⟨false, 3, 0⟩, 1000192), (⟨false, 4, 0⟩, 1000256), (⟨false, 5, 0⟩, 1000320), (⟨false, 7, 0⟩, 1000448)]⟩
noncomputable def f64s10 (num3 : List Int) (den4 : List Int) (out5 : List Int) (piece7 : List Int) (at8 : Int) (i9 : Int) (t34 : Int) (t35 : Int) (t62 : Int) (t63 : Int) (m1_0 : Int) (m1_1 : Int) (m1_2 : List Int) : St := stOf [(1, .c (.box 1 0)), (3, .c (.own 1000192)), (4, .c (.own 1000256)), (5, .c (.own 1000320)), (7, .c (.own 1000448)), (8, .c (.int .i64 at8)), (9, .c (.int .i64 i9)), (34, .c (.int .i64 t34)), (35, .c (.int .i64 t35)), (62, .c (.int .i64 t62)), (63, .c (.int .i64 t63))] [(1, (26, [.int .i64 m1_0, .int .i64 m1_1, .sn 3 (.int .i64) m1_2 none]))] [(1000192, (⟨3, .int .i64, num3, true, false⟩ : Row)), (1000256, (⟨3, .int .i64, den4, true, false⟩ : Row)), (1000320, (⟨3, .int .i64, out5, true, false⟩ : Row)), (1000448, (⟨3, .int .i64, piece7, true, false⟩ : Row))]
noncomputable def f64l10 : Clean := ⟨[1, 3, 4, 5, 7, 8, 9, 34, 35, 62, 63], [1], [], [], [(⟨false, 3, 0⟩, 1000192), (⟨false, 4, 0⟩, 1000256), (⟨false, 5, 0⟩, 1000320), (⟨false, 7, 0⟩, 1000448)]⟩
noncomputable def f64s11 (num3 : List Int) (den4 : List Int) (out5 : List Int) (piece7 : List Int) (at8 : Int) (i9 : Int) (t34 : Int) (t35 : Int) (t62 : Int) (t63 : Int) (t64 : Bool) (m1_0 : Int) (m1_1 : Int) (m1_2 : List Int) : St := stOf [(1, .c (.box 1 0)), (3, .c (.own 1000192)), (4, .c (.own 1000256)), (5, .c (.own 1000320)), (7, .c (.own 1000448)), (8, .c (.int .i64 at8)), (9, .c (.int .i64 i9)), (34, .c (.int .i64 t34)), (35, .c (.int .i64 t35)), (62, .c (.int .i64 t62)), (63, .c (.int .i64 t63)), (64, .c (.bool t64))] [(1, (26, [.int .i64 m1_0, .int .i64 m1_1, .sn 3 (.int .i64) m1_2 none]))] [(1000192, (⟨3, .int .i64, num3, true, false⟩ : Row)), (1000256, (⟨3, .int .i64, den4, true, false⟩ : Row)), (1000320, (⟨3, .int .i64, out5, true, false⟩ : Row)), (1000448, (⟨3, .int .i64, piece7, true, false⟩ : Row))]
noncomputable def f64l11 : Clean := ⟨[1, 3, 4, 5, 7, 8, 9, 34, 35, 62, 63, 64], [1], [], [], [(⟨false, 3, 0⟩, 1000192), (⟨false, 4, 0⟩, 1000256), (⟨false, 5, 0⟩, 1000320), (⟨false, 7, 0⟩, 1000448)]⟩
noncomputable def f64s12 (num3 : List Int) (den4 : List Int) (out5 : List Int) (piece7 : List Int) (at8 : Int) (i9 : Int) (j10 : Int) (t34 : Int) (t35 : Int) (t62 : Int) (t63 : Int) (m1_0 : Int) (m1_1 : Int) (m1_2 : List Int) : St := stOf [(1, .c (.box 1 0)), (3, .c (.own 1000192)), (4, .c (.own 1000256)), (5, .c (.own 1000320)), (7, .c (.own 1000448)), (8, .c (.int .i64 at8)), (9, .c (.int .i64 i9)), (10, .c (.int .i64 j10)), (34, .c (.int .i64 t34)), (35, .c (.int .i64 t35)), (62, .c (.int .i64 t62)), (63, .c (.int .i64 t63))] [(1, (26, [.int .i64 m1_0, .int .i64 m1_1, .sn 3 (.int .i64) m1_2 none]))] [(1000192, (⟨3, .int .i64, num3, true, false⟩ : Row)), (1000256, (⟨3, .int .i64, den4, true, false⟩ : Row)), (1000320, (⟨3, .int .i64, out5, true, false⟩ : Row)), (1000448, (⟨3, .int .i64, piece7, true, false⟩ : Row))]
noncomputable def f64l12 : Clean := ⟨[1, 3, 4, 5, 7, 8, 9, 10, 34, 35, 62, 63], [1], [], [], [(⟨false, 3, 0⟩, 1000192), (⟨false, 4, 0⟩, 1000256), (⟨false, 5, 0⟩, 1000320), (⟨false, 7, 0⟩, 1000448)]⟩
noncomputable def f64s13 (num3 : List Int) (den4 : List Int) (out5 : List Int) (piece7 : List Int) (at8 : Int) (i9 : Int) (j10 : Int) (p11 : Int) (q12 : Int) (t34 : Int) (t35 : Int) (t62 : Int) (t63 : Int) (m1_0 : Int) (m1_1 : Int) (m1_2 : List Int) : St := stOf [(1, .c (.box 1 0)), (3, .c (.own 1000192)), (4, .c (.own 1000256)), (5, .c (.own 1000320)), (7, .c (.own 1000448)), (8, .c (.int .i64 at8)), (9, .c (.int .i64 i9)), (10, .c (.int .i64 j10)), (11, .c (.int .i64 p11)), (12, .c (.int .i64 q12)), (34, .c (.int .i64 t34)), (35, .c (.int .i64 t35)), (62, .c (.int .i64 t62)), (63, .c (.int .i64 t63))] [(1, (26, [.int .i64 m1_0, .int .i64 m1_1, .sn 3 (.int .i64) m1_2 none]))] [(1000192, (⟨3, .int .i64, num3, true, false⟩ : Row)), (1000256, (⟨3, .int .i64, den4, true, false⟩ : Row)), (1000320, (⟨3, .int .i64, out5, true, false⟩ : Row)), (1000448, (⟨3, .int .i64, piece7, true, false⟩ : Row))]
noncomputable def f64l13 : Clean := ⟨[1, 3, 4, 5, 7, 8, 9, 10, 11, 12, 34, 35, 62, 63], [1], [], [], [(⟨false, 3, 0⟩, 1000192), (⟨false, 4, 0⟩, 1000256), (⟨false, 5, 0⟩, 1000320), (⟨false, 7, 0⟩, 1000448)]⟩
noncomputable def f64s14 (num3 : List Int) (den4 : List Int) (out5 : List Int) (piece7 : List Int) (common16 : Int) (t34 : Int) (t35 : Int) (m1_0 : Int) (m1_1 : Int) (m1_2 : List Int) : St := stOf [(1, .c (.box 1 0)), (3, .c (.own 1000192)), (4, .c (.own 1000256)), (5, .c (.own 1000320)), (7, .c (.own 1000448)), (16, .c (.int .i64 common16)), (34, .c (.int .i64 t34)), (35, .c (.int .i64 t35))] [(1, (26, [.int .i64 m1_0, .int .i64 m1_1, .sn 3 (.int .i64) m1_2 none]))] [(1000192, (⟨3, .int .i64, num3, true, false⟩ : Row)), (1000256, (⟨3, .int .i64, den4, true, false⟩ : Row)), (1000320, (⟨3, .int .i64, out5, true, false⟩ : Row)), (1000448, (⟨3, .int .i64, piece7, true, false⟩ : Row))]
noncomputable def f64l14 : Clean := ⟨[1, 3, 4, 5, 7, 16, 34, 35], [1], [], [], [(⟨false, 3, 0⟩, 1000192), (⟨false, 4, 0⟩, 1000256), (⟨false, 5, 0⟩, 1000320), (⟨false, 7, 0⟩, 1000448)]⟩
noncomputable def f64s15 (num3 : List Int) (den4 : List Int) (out5 : List Int) (piece7 : List Int) (common16 : Int) (t34 : Int) (t35 : Int) (t159 : Int) (t160 : Int) (m1_0 : Int) (m1_1 : Int) (m1_2 : List Int) : St := stOf [(1, .c (.box 1 0)), (3, .c (.own 1000192)), (4, .c (.own 1000256)), (5, .c (.own 1000320)), (7, .c (.own 1000448)), (16, .c (.int .i64 common16)), (34, .c (.int .i64 t34)), (35, .c (.int .i64 t35)), (158, .c (.own 1000448)), (159, .c (.int .i64 t159)), (160, .c (.int .i64 t160))] [(1, (26, [.int .i64 m1_0, .int .i64 m1_1, .sn 3 (.int .i64) m1_2 none]))] [(1000192, (⟨3, .int .i64, num3, true, false⟩ : Row)), (1000256, (⟨3, .int .i64, den4, true, false⟩ : Row)), (1000320, (⟨3, .int .i64, out5, true, false⟩ : Row)), (1000448, (⟨3, .int .i64, piece7, true, false⟩ : Row))]
noncomputable def f64l15 : Clean := ⟨[1, 3, 4, 5, 7, 16, 34, 35, 158, 159, 160], [1], [], [], [(⟨false, 3, 0⟩, 1000192), (⟨false, 4, 0⟩, 1000256), (⟨false, 5, 0⟩, 1000320), (⟨false, 7, 0⟩, 1000448)]⟩
noncomputable def f64s16 (num3 : List Int) (den4 : List Int) (out5 : List Int) (piece7 : List Int) (common16 : Int) (g19 : Int) (t34 : Int) (t35 : Int) (m1_0 : Int) (m1_1 : Int) (m1_2 : List Int) : St := stOf [(1, .c (.box 1 0)), (3, .c (.own 1000192)), (4, .c (.own 1000256)), (5, .c (.own 1000320)), (7, .c (.own 1000448)), (16, .c (.int .i64 common16)), (19, .c (.int .i64 g19)), (34, .c (.int .i64 t34)), (35, .c (.int .i64 t35))] [(1, (26, [.int .i64 m1_0, .int .i64 m1_1, .sn 3 (.int .i64) m1_2 none]))] [(1000192, (⟨3, .int .i64, num3, true, false⟩ : Row)), (1000256, (⟨3, .int .i64, den4, true, false⟩ : Row)), (1000320, (⟨3, .int .i64, out5, true, false⟩ : Row)), (1000448, (⟨3, .int .i64, piece7, true, false⟩ : Row))]
noncomputable def f64l16 : Clean := ⟨[1, 3, 4, 5, 7, 16, 19, 34, 35], [1], [], [], [(⟨false, 3, 0⟩, 1000192), (⟨false, 4, 0⟩, 1000256), (⟨false, 5, 0⟩, 1000320), (⟨false, 7, 0⟩, 1000448)]⟩
noncomputable def f64s17 (num3 : List Int) (den4 : List Int) (out5 : List Int) (piece7 : List Int) (common16 : Int) (g19 : Int) (t34 : Int) (t35 : Int) (t179 : Int) (t180 : Int) (m1_0 : Int) (m1_1 : Int) (m1_2 : List Int) : St := stOf [(1, .c (.box 1 0)), (3, .c (.own 1000192)), (4, .c (.own 1000256)), (5, .c (.own 1000320)), (7, .c (.own 1000448)), (16, .c (.int .i64 common16)), (19, .c (.int .i64 g19)), (34, .c (.int .i64 t34)), (35, .c (.int .i64 t35)), (178, .c (.own 1000448)), (179, .c (.int .i64 t179)), (180, .c (.int .i64 t180))] [(1, (26, [.int .i64 m1_0, .int .i64 m1_1, .sn 3 (.int .i64) m1_2 none]))] [(1000192, (⟨3, .int .i64, num3, true, false⟩ : Row)), (1000256, (⟨3, .int .i64, den4, true, false⟩ : Row)), (1000320, (⟨3, .int .i64, out5, true, false⟩ : Row)), (1000448, (⟨3, .int .i64, piece7, true, false⟩ : Row))]
noncomputable def f64l17 : Clean := ⟨[1, 3, 4, 5, 7, 16, 19, 34, 35, 178, 179, 180], [1], [], [], [(⟨false, 3, 0⟩, 1000192), (⟨false, 4, 0⟩, 1000256), (⟨false, 5, 0⟩, 1000320), (⟨false, 7, 0⟩, 1000448)]⟩
noncomputable def f64s18 (num3 : List Int) (den4 : List Int) (out5 : List Int) (piece7 : List Int) (g19 : Int) (t34 : Int) (t35 : Int) (m1_0 : Int) (m1_1 : Int) (m1_2 : List Int) : St := stOf [(1, .c (.box 1 0)), (3, .c (.own 1000192)), (4, .c (.own 1000256)), (5, .c (.own 1000320)), (7, .c (.own 1000448)), (19, .c (.int .i64 g19)), (34, .c (.int .i64 t34)), (35, .c (.int .i64 t35))] [(1, (26, [.int .i64 m1_0, .int .i64 m1_1, .sn 3 (.int .i64) m1_2 none]))] [(1000192, (⟨3, .int .i64, num3, true, false⟩ : Row)), (1000256, (⟨3, .int .i64, den4, true, false⟩ : Row)), (1000320, (⟨3, .int .i64, out5, true, false⟩ : Row)), (1000448, (⟨3, .int .i64, piece7, true, false⟩ : Row))]
noncomputable def f64l18 : Clean := ⟨[1, 3, 4, 5, 7, 19, 34, 35], [1], [], [], [(⟨false, 3, 0⟩, 1000192), (⟨false, 4, 0⟩, 1000256), (⟨false, 5, 0⟩, 1000320), (⟨false, 7, 0⟩, 1000448)]⟩
noncomputable def f64s19 (num3 : List Int) (den4 : List Int) (out5 : List Int) (t205 : List Int) (g19 : Int) (t34 : Int) (t35 : Int) (t206 : Int) (t207 : Int) (m1_0 : Int) (m1_1 : Int) (m1_2 : List Int) : St := stOf [(1, .c (.box 1 0)), (3, .c (.own 1000192)), (4, .c (.own 1000256)), (5, .c (.own 1000320)), (19, .c (.int .i64 g19)), (34, .c (.int .i64 t34)), (35, .c (.int .i64 t35)), (205, .c (.own 1013120)), (206, .c (.int .i64 t206)), (207, .c (.int .i64 t207))] [(1, (26, [.int .i64 m1_0, .int .i64 m1_1, .sn 3 (.int .i64) m1_2 none]))] [(1000192, (⟨3, .int .i64, num3, true, false⟩ : Row)), (1000256, (⟨3, .int .i64, den4, true, false⟩ : Row)), (1000320, (⟨3, .int .i64, out5, true, false⟩ : Row)), (1013120, (⟨3, .int .i64, t205, true, false⟩ : Row))]
noncomputable def f64l19 : Clean := ⟨[1, 3, 4, 5, 19, 34, 35, 205, 206, 207], [1], [], [], [(⟨false, 3, 0⟩, 1000192), (⟨false, 4, 0⟩, 1000256), (⟨false, 5, 0⟩, 1000320), (⟨false, 205, 0⟩, 1013120)]⟩
noncomputable def f64s20 (out5 : List Int) : St := stOf [(5, .c (.own 1000320))] [] [(1000320, (⟨3, .int .i64, out5, true, false⟩ : Row))]
noncomputable def f64l20 : Clean := ⟨[5], [], [], [], [(⟨false, 5, 0⟩, 1000320)]⟩
noncomputable def f64s21 (t2 : List Int) : St := stOf [(2, .c (.own 1001000128))] [] [(1001000128, (⟨3, .int .i64, t2, true, true⟩ : Row))]
noncomputable def f64l21 : Clean := ⟨[2], [], [⟨⟨false, 2, 0⟩, 30000000, 3, .int .i64, true⟩], [], [(⟨false, 2, 0⟩, 1001000128)]⟩
noncomputable def f64B : Nat → Option Clean := lookL [(5, f64l10), (4, f64l8), (3, f64l8), (2, f64l7), (6, f64l14), (8, f64l18), (10, f64l4), (1, f64l4), (0, f64l20), (1000000, f64l21)]
noncomputable abbrev f64i {ρ : Type} (N : Nat) (c : Code) (p : Plan) (σ : St) (K : KT ρ) : Option ρ := iCode f64G tab f64B N c p σ K
noncomputable def f64c1 := codeAt (bodyOf Try.f64) [0]
theorem f64t1 {ρ : Type} (N : Nat) (m0 : Int × Int × List Int) (K : KT ρ) : f64i N f64c1 .n (f64s0 m0) (joinK (some f64l1) K) =
  impl_factors.Z1 N m0 (fun m1_0 m1_1 m1_2 => K .nrm (f64s1 m1_0 m1_1 m1_2)) := by kernel_rfl
noncomputable def f64c3 := codeAt (bodyOf Try.f64) [1,0]
theorem f64t3 {ρ : Type} (N : Nat) (m1_0 : Int) (m1_1 : Int) (m1_2 : List Int) (K : KT ρ) : f64i N f64c3 .n (f64s1 m1_0 m1_1 m1_2) (joinK (some f64l2) K) =
  impl_factors.Z3 N m1_0 m1_1 m1_2 (fun num3 den4 m1_0 m1_1 m1_2 => K .nrm (f64s2 num3 den4 m1_0 m1_1 m1_2)) := by kernel_rfl
noncomputable def f64c5 := codeAt (bodyOf Try.f64) [1,1,0]
theorem f64t5 {ρ : Type} (N : Nat) (num3 : List Int) (den4 : List Int) (m1_0 : Int) (m1_1 : Int) (m1_2 : List Int) (K : KT ρ) : f64i N f64c5 .n (f64s2 num3 den4 m1_0 m1_1 m1_2) (joinK (some f64l3) K) =
  impl_factors.Z5 N num3 den4 m1_0 m1_1 m1_2 (fun num3 den4 out5 m1_0 m1_1 m1_2 => K .nrm (f64s3 num3 den4 out5 m1_0 m1_1 m1_2)) := by kernel_rfl
noncomputable def f64c8 := codeAt (bodyOf Try.f64) [1,1,1,0,0]
theorem f64t8 {ρ : Type} (N : Nat) (num3 : List Int) (den4 : List Int) (out5 : List Int) (m1_0 : Int) (m1_1 : Int) (m1_2 : List Int) (K : KT ρ) : f64i N f64c8 .n (f64s3 num3 den4 out5 m1_0 m1_1 m1_2) (joinK (some f64l4) K) =
  impl_factors.Z8 N num3 den4 out5 m1_0 m1_1 m1_2 (fun num3 den4 out5 t34 t35 m1_0 m1_1 m1_2 => K .nrm (f64s4 num3 den4 out5 t34 t35 m1_0 m1_1 m1_2)) := by kernel_rfl
noncomputable def f64c12 := codeAt (bodyOf Try.f64) [1,1,1,0,1,0,0,0]
theorem f64t12 {ρ : Type} (N : Nat) (num3 : List Int) (den4 : List Int) (out5 : List Int) (t34 : Int) (t35 : Int) (m1_0 : Int) (m1_1 : Int) (m1_2 : List Int) (K : KT ρ) : f64i N f64c12 .n (f64s4 num3 den4 out5 t34 t35 m1_0 m1_1 m1_2) (joinK (some f64l5) K) =
  impl_factors.Z12 N num3 den4 out5 t34 t35 m1_0 m1_1 m1_2 (fun num3 den4 out5 t34 t35 t36 m1_0 m1_1 m1_2 => K .nrm (f64s5 num3 den4 out5 t34 t35 t36 m1_0 m1_1 m1_2)) := by kernel_rfl
noncomputable def f64c14 := codeAt (bodyOf Try.f64) [1,1,1,0,1,0,0,1,0]
theorem f64t14 {ρ : Type} (N : Nat) (num3 : List Int) (den4 : List Int) (out5 : List Int) (t34 : Int) (t35 : Int) (t36 : Bool) (m1_0 : Int) (m1_1 : Int) (m1_2 : List Int) (K : KT ρ) : f64i N f64c14 .n (f64s5 num3 den4 out5 t34 t35 t36 m1_0 m1_1 m1_2) (joinK (some f64l4) K) =
  impl_factors.Z14 N num3 den4 out5 t34 t35 t36 m1_0 m1_1 m1_2 (fun num3 den4 out5 t34 t35 m1_0 m1_1 m1_2 => K .nrm (f64s4 num3 den4 out5 t34 t35 m1_0 m1_1 m1_2)) (fun out5 => K (.exit 0) (f64s20 out5)) := by kernel_rfl
noncomputable def f64c18 := codeAt (bodyOf Try.f64) [1,1,1,0,1,0,0,1,1,0,0,0]
theorem f64t18 {ρ : Type} (N : Nat) (num3 : List Int) (den4 : List Int) (out5 : List Int) (t34 : Int) (t35 : Int) (m1_0 : Int) (m1_1 : Int) (m1_2 : List Int) (K : KT ρ) : f64i N f64c18 .n (f64s4 num3 den4 out5 t34 t35 m1_0 m1_1 m1_2) (joinK (some f64l6) K) =
  impl_factors.Z18 N num3 den4 out5 t34 t35 m1_0 m1_1 m1_2 (fun num3 den4 out5 s6 t34 t35 m1_0 m1_1 m1_2 => K .nrm (f64s6 num3 den4 out5 s6 t34 t35 m1_0 m1_1 m1_2)) := by kernel_rfl
noncomputable def f64c20 := codeAt (bodyOf Try.f64) [1,1,1,0,1,0,0,1,1,0,0,1,0]
theorem f64t20 {ρ : Type} (N : Nat) (num3 : List Int) (den4 : List Int) (out5 : List Int) (s6 : Int) (t34 : Int) (t35 : Int) (m1_0 : Int) (m1_1 : Int) (m1_2 : List Int) (K : KT ρ) : f64i N f64c20 .n (f64s6 num3 den4 out5 s6 t34 t35 m1_0 m1_1 m1_2) (joinK (some f64l6) K) =
  impl_factors.Z20 N num3 den4 out5 s6 t34 t35 m1_0 m1_1 m1_2 (fun num3 den4 out5 s6 t34 t35 m1_0 m1_1 m1_2 => K .nrm (f64s6 num3 den4 out5 s6 t34 t35 m1_0 m1_1 m1_2)) (fun num3 den4 out5 t34 t35 m1_0 m1_1 m1_2 => K (.exit 1) (f64s4 num3 den4 out5 t34 t35 m1_0 m1_1 m1_2)) := by kernel_rfl
noncomputable def f64c22 := codeAt (bodyOf Try.f64) [1,1,1,0,1,0,0,1,1,0,0,1,1,0]
theorem f64t22 {ρ : Type} (N : Nat) (num3 : List Int) (den4 : List Int) (out5 : List Int) (s6 : Int) (t34 : Int) (t35 : Int) (m1_0 : Int) (m1_1 : Int) (m1_2 : List Int) (K : KT ρ) : f64i N f64c22 .n (f64s6 num3 den4 out5 s6 t34 t35 m1_0 m1_1 m1_2) (joinK (some f64l6) K) =
  impl_factors.Z22 N num3 den4 out5 s6 t34 t35 m1_0 m1_1 m1_2 (fun num3 den4 out5 s6 t34 t35 m1_0 m1_1 m1_2 => K .nrm (f64s6 num3 den4 out5 s6 t34 t35 m1_0 m1_1 m1_2)) := by kernel_rfl
noncomputable def f64c24 := codeAt (bodyOf Try.f64) [1,1,1,0,1,0,0,1,1,0,0,1,1,1,0]
theorem f64t24 {ρ : Type} (N : Nat) (num3 : List Int) (den4 : List Int) (out5 : List Int) (s6 : Int) (t34 : Int) (t35 : Int) (m1_0 : Int) (m1_1 : Int) (m1_2 : List Int) (K : KT ρ) : f64i N f64c24 .n (f64s6 num3 den4 out5 s6 t34 t35 m1_0 m1_1 m1_2) (joinK (some f64l7) K) =
  impl_factors.Z24 N num3 den4 out5 s6 t34 t35 m1_0 m1_1 m1_2 (fun num3 den4 out5 piece7 t34 t35 m1_0 m1_1 m1_2 => K .nrm (f64s7 num3 den4 out5 piece7 t34 t35 m1_0 m1_1 m1_2)) := by kernel_rfl
noncomputable def f64c27 := codeAt (bodyOf Try.f64) [1,1,1,0,1,0,0,1,1,0,0,1,1,1,1,0,0]
theorem f64t27 {ρ : Type} (N : Nat) (num3 : List Int) (den4 : List Int) (out5 : List Int) (piece7 : List Int) (t34 : Int) (t35 : Int) (m1_0 : Int) (m1_1 : Int) (m1_2 : List Int) (K : KT ρ) : f64i N f64c27 .n (f64s7 num3 den4 out5 piece7 t34 t35 m1_0 m1_1 m1_2) (joinK (some f64l8) K) =
  impl_factors.Z27 N num3 den4 out5 piece7 t34 t35 m1_0 m1_1 m1_2 (fun num3 den4 out5 piece7 at8 t34 t35 m1_0 m1_1 m1_2 => K .nrm (f64s8 num3 den4 out5 piece7 at8 t34 t35 m1_0 m1_1 m1_2)) := by kernel_rfl
noncomputable def f64c31 := codeAt (bodyOf Try.f64) [1,1,1,0,1,0,0,1,1,0,0,1,1,1,1,0,1,0,0,0]
theorem f64t31 {ρ : Type} (N : Nat) (num3 : List Int) (den4 : List Int) (out5 : List Int) (piece7 : List Int) (at8 : Int) (t34 : Int) (t35 : Int) (m1_0 : Int) (m1_1 : Int) (m1_2 : List Int) (K : KT ρ) : f64i N f64c31 .n (f64s8 num3 den4 out5 piece7 at8 t34 t35 m1_0 m1_1 m1_2) (joinK (some f64l8) K) =
  impl_factors.Z31 N num3 den4 out5 piece7 at8 t34 t35 m1_0 m1_1 m1_2 (fun num3 den4 out5 piece7 at8 t34 t35 m1_0 m1_1 m1_2 => K .nrm (f64s8 num3 den4 out5 piece7 at8 t34 t35 m1_0 m1_1 m1_2)) (fun num3 den4 out5 piece7 t34 t35 m1_0 m1_1 m1_2 => K (.exit 2) (f64s7 num3 den4 out5 piece7 t34 t35 m1_0 m1_1 m1_2)) := by kernel_rfl
noncomputable def f64c35 := codeAt (bodyOf Try.f64) [1,1,1,0,1,0,0,1,1,0,0,1,1,1,1,0,1,0,0,1,0,0,0]
theorem f64t35 {ρ : Type} (N : Nat) (num3 : List Int) (den4 : List Int) (out5 : List Int) (piece7 : List Int) (at8 : Int) (t34 : Int) (t35 : Int) (m1_0 : Int) (m1_1 : Int) (m1_2 : List Int) (K : KT ρ) : f64i N f64c35 .n (f64s8 num3 den4 out5 piece7 at8 t34 t35 m1_0 m1_1 m1_2) (joinK (some f64l9) K) =
  impl_factors.Z35 N num3 den4 out5 piece7 at8 t34 t35 m1_0 m1_1 m1_2 (fun num3 den4 out5 piece7 at8 i9 t34 t35 m1_0 m1_1 m1_2 => K .nrm (f64s9 num3 den4 out5 piece7 at8 i9 t34 t35 m1_0 m1_1 m1_2)) := by kernel_rfl
noncomputable def f64c37 := codeAt (bodyOf Try.f64) [1,1,1,0,1,0,0,1,1,0,0,1,1,1,1,0,1,0,0,1,0,0,1,0]
theorem f64t37 {ρ : Type} (N : Nat) (num3 : List Int) (den4 : List Int) (out5 : List Int) (piece7 : List Int) (at8 : Int) (i9 : Int) (t34 : Int) (t35 : Int) (m1_0 : Int) (m1_1 : Int) (m1_2 : List Int) (K : KT ρ) : f64i N f64c37 .n (f64s9 num3 den4 out5 piece7 at8 i9 t34 t35 m1_0 m1_1 m1_2) (joinK (some f64l10) K) =
  impl_factors.Z37 N num3 den4 out5 piece7 at8 i9 t34 t35 m1_0 m1_1 m1_2 (fun num3 den4 out5 piece7 at8 i9 t34 t35 t62 t63 m1_0 m1_1 m1_2 => K .nrm (f64s10 num3 den4 out5 piece7 at8 i9 t34 t35 t62 t63 m1_0 m1_1 m1_2)) := by kernel_rfl
noncomputable def f64c41 := codeAt (bodyOf Try.f64) [1,1,1,0,1,0,0,1,1,0,0,1,1,1,1,0,1,0,0,1,0,0,1,1,0,0,0]
theorem f64t41 {ρ : Type} (N : Nat) (num3 : List Int) (den4 : List Int) (out5 : List Int) (piece7 : List Int) (at8 : Int) (i9 : Int) (t34 : Int) (t35 : Int) (t62 : Int) (t63 : Int) (m1_0 : Int) (m1_1 : Int) (m1_2 : List Int) (K : KT ρ) : f64i N f64c41 .n (f64s10 num3 den4 out5 piece7 at8 i9 t34 t35 t62 t63 m1_0 m1_1 m1_2) (joinK (some f64l11) K) =
  impl_factors.Z41 N num3 den4 out5 piece7 at8 i9 t34 t35 t62 t63 m1_0 m1_1 m1_2 (fun num3 den4 out5 piece7 at8 i9 t34 t35 t62 t63 t64 m1_0 m1_1 m1_2 => K .nrm (f64s11 num3 den4 out5 piece7 at8 i9 t34 t35 t62 t63 t64 m1_0 m1_1 m1_2)) := by kernel_rfl
noncomputable def f64c43 := codeAt (bodyOf Try.f64) [1,1,1,0,1,0,0,1,1,0,0,1,1,1,1,0,1,0,0,1,0,0,1,1,0,0,1,0]
theorem f64t43 {ρ : Type} (N : Nat) (num3 : List Int) (den4 : List Int) (out5 : List Int) (piece7 : List Int) (at8 : Int) (i9 : Int) (t34 : Int) (t35 : Int) (t62 : Int) (t63 : Int) (t64 : Bool) (m1_0 : Int) (m1_1 : Int) (m1_2 : List Int) (K : KT ρ) : f64i N f64c43 .n (f64s11 num3 den4 out5 piece7 at8 i9 t34 t35 t62 t63 t64 m1_0 m1_1 m1_2) (joinK (some f64l10) K) =
  impl_factors.Z43 N num3 den4 out5 piece7 at8 i9 t34 t35 t62 t63 t64 m1_0 m1_1 m1_2 (fun num3 den4 out5 piece7 at8 i9 t34 t35 t62 t63 m1_0 m1_1 m1_2 => K .nrm (f64s10 num3 den4 out5 piece7 at8 i9 t34 t35 t62 t63 m1_0 m1_1 m1_2)) (fun num3 den4 out5 piece7 at8 t34 t35 m1_0 m1_1 m1_2 => K (.exit 4) (f64s8 num3 den4 out5 piece7 at8 t34 t35 m1_0 m1_1 m1_2)) := by kernel_rfl
noncomputable def f64c47 := codeAt (bodyOf Try.f64) [1,1,1,0,1,0,0,1,1,0,0,1,1,1,1,0,1,0,0,1,0,0,1,1,0,0,1,1,0,0,0]
theorem f64t47 {ρ : Type} (N : Nat) (num3 : List Int) (den4 : List Int) (out5 : List Int) (piece7 : List Int) (at8 : Int) (i9 : Int) (t34 : Int) (t35 : Int) (t62 : Int) (t63 : Int) (m1_0 : Int) (m1_1 : Int) (m1_2 : List Int) (K : KT ρ) : f64i N f64c47 .n (f64s10 num3 den4 out5 piece7 at8 i9 t34 t35 t62 t63 m1_0 m1_1 m1_2) (joinK (some f64l12) K) =
  impl_factors.Z47 N num3 den4 out5 piece7 at8 i9 t34 t35 t62 t63 m1_0 m1_1 m1_2 (fun num3 den4 out5 piece7 at8 i9 j10 t34 t35 t62 t63 m1_0 m1_1 m1_2 => K .nrm (f64s12 num3 den4 out5 piece7 at8 i9 j10 t34 t35 t62 t63 m1_0 m1_1 m1_2)) := by kernel_rfl
noncomputable def f64c49 := codeAt (bodyOf Try.f64) [1,1,1,0,1,0,0,1,1,0,0,1,1,1,1,0,1,0,0,1,0,0,1,1,0,0,1,1,0,0,1,0]
theorem f64t49 {ρ : Type} (N : Nat) (num3 : List Int) (den4 : List Int) (out5 : List Int) (piece7 : List Int) (at8 : Int) (i9 : Int) (j10 : Int) (t34 : Int) (t35 : Int) (t62 : Int) (t63 : Int) (m1_0 : Int) (m1_1 : Int) (m1_2 : List Int) (K : KT ρ) : f64i N f64c49 .n (f64s12 num3 den4 out5 piece7 at8 i9 j10 t34 t35 t62 t63 m1_0 m1_1 m1_2) (joinK (some f64l13) K) =
  impl_factors.Z49 N num3 den4 out5 piece7 at8 i9 j10 t34 t35 t62 t63 m1_0 m1_1 m1_2 (fun num3 den4 out5 piece7 at8 i9 j10 p11 q12 t34 t35 t62 t63 m1_0 m1_1 m1_2 => K .nrm (f64s13 num3 den4 out5 piece7 at8 i9 j10 p11 q12 t34 t35 t62 t63 m1_0 m1_1 m1_2)) := by kernel_rfl
noncomputable def f64c51 := codeAt (bodyOf Try.f64) [1,1,1,0,1,0,0,1,1,0,0,1,1,1,1,0,1,0,0,1,0,0,1,1,0,0,1,1,0,0,1,1,0]
theorem f64t51 {ρ : Type} (N : Nat) (num3 : List Int) (den4 : List Int) (out5 : List Int) (piece7 : List Int) (at8 : Int) (i9 : Int) (j10 : Int) (p11 : Int) (q12 : Int) (t34 : Int) (t35 : Int) (t62 : Int) (t63 : Int) (m1_0 : Int) (m1_1 : Int) (m1_2 : List Int) (K : KT ρ) : f64i N f64c51 .n (f64s13 num3 den4 out5 piece7 at8 i9 j10 p11 q12 t34 t35 t62 t63 m1_0 m1_1 m1_2) (joinK (some f64l13) K) =
  impl_factors.Z51 N num3 den4 out5 piece7 at8 i9 j10 p11 q12 t34 t35 t62 t63 m1_0 m1_1 m1_2 (fun num3 den4 out5 piece7 at8 i9 j10 p11 q12 t34 t35 t62 t63 m1_0 m1_1 m1_2 => K .nrm (f64s13 num3 den4 out5 piece7 at8 i9 j10 p11 q12 t34 t35 t62 t63 m1_0 m1_1 m1_2)) (fun num3 den4 out5 piece7 at8 i9 t34 t35 t62 t63 m1_0 m1_1 m1_2 => K (.exit 5) (f64s10 num3 den4 out5 piece7 at8 i9 t34 t35 t62 t63 m1_0 m1_1 m1_2)) := by kernel_rfl
noncomputable def f64c52 := codeAt (bodyOf Try.f64) [1,1,1,0,1,0,0,1,1,0,0,1,1,1,1,0,1,0,0,1,0,0,1,1,0,0,1,1,0,0,1,1,1]
theorem f64t52 {ρ : Type} (N : Nat) (num3 : List Int) (den4 : List Int) (out5 : List Int) (piece7 : List Int) (at8 : Int) (i9 : Int) (j10 : Int) (p11 : Int) (q12 : Int) (t34 : Int) (t35 : Int) (t62 : Int) (t63 : Int) (m1_0 : Int) (m1_1 : Int) (m1_2 : List Int) (K : KT ρ) : f64i N f64c52 .n (f64s13 num3 den4 out5 piece7 at8 i9 j10 p11 q12 t34 t35 t62 t63 m1_0 m1_1 m1_2) (joinK (some f64l10) K) =
  impl_factors.Z52 N num3 den4 out5 piece7 at8 i9 j10 p11 q12 t34 t35 t62 t63 m1_0 m1_1 m1_2 (fun num3 den4 out5 piece7 at8 i9 t34 t35 t62 t63 m1_0 m1_1 m1_2 => K .nrm (f64s10 num3 den4 out5 piece7 at8 i9 t34 t35 t62 t63 m1_0 m1_1 m1_2)) (fun t2 => K .ret (f64s21 t2)) := by kernel_rfl
noncomputable def f64c50 := codeAt (bodyOf Try.f64) [1,1,1,0,1,0,0,1,1,0,0,1,1,1,1,0,1,0,0,1,0,0,1,1,0,0,1,1,0,0,1,1]
noncomputable def f64p50 : Plan := .mk (some f64l13) none .n .n
theorem f64t50 {ρ : Type} (N : Nat) (num3 : List Int) (den4 : List Int) (out5 : List Int) (piece7 : List Int) (at8 : Int) (i9 : Int) (j10 : Int) (p11 : Int) (q12 : Int) (t34 : Int) (t35 : Int) (t62 : Int) (t63 : Int) (m1_0 : Int) (m1_1 : Int) (m1_2 : List Int) (K : KT ρ) : f64i N f64c50 f64p50 (f64s13 num3 den4 out5 piece7 at8 i9 j10 p11 q12 t34 t35 t62 t63 m1_0 m1_1 m1_2) (joinK (some f64l10) K) =
  impl_factors.Z50 N num3 den4 out5 piece7 at8 i9 j10 p11 q12 t34 t35 t62 t63 m1_0 m1_1 m1_2 (fun num3 den4 out5 piece7 at8 i9 t34 t35 t62 t63 m1_0 m1_1 m1_2 => K .nrm (f64s10 num3 den4 out5 piece7 at8 i9 t34 t35 t62 t63 m1_0 m1_1 m1_2)) (fun num3 den4 out5 piece7 at8 i9 t34 t35 t62 t63 m1_0 m1_1 m1_2 => K (.exit 5) (f64s10 num3 den4 out5 piece7 at8 i9 t34 t35 t62 t63 m1_0 m1_1 m1_2)) (fun t2 => K .ret (f64s21 t2)) :=
  viaSeq (fun k => impl_factors.Z51 N num3 den4 out5 piece7 at8 i9 j10 p11 q12 t34 t35 t62 t63 m1_0 m1_1 m1_2 k (fun num3 den4 out5 piece7 at8 i9 t34 t35 t62 t63 m1_0 m1_1 m1_2 => K (.exit 5) (f64s10 num3 den4 out5 piece7 at8 i9 t34 t35 t62 t63 m1_0 m1_1 m1_2))) (by kernel_rfl) (by kernel_rfl) (f64t51 N num3 den4 out5 piece7 at8 i9 j10 p11 q12 t34 t35 t62 t63 m1_0 m1_1 m1_2 (seqK (fun σ => f64i N f64c52 .n σ (joinK (some f64l10) K)) (joinK (some f64l10) K))) (funext fun num3 => funext fun den4 => funext fun out5 => funext fun piece7 => funext fun at8 => funext fun i9 => funext fun j10 => funext fun p11 => funext fun q12 => funext fun t34 => funext fun t35 => funext fun t62 => funext fun t63 => funext fun m1_0 => funext fun m1_1 => funext fun m1_2 => f64t52 N num3 den4 out5 piece7 at8 i9 j10 p11 q12 t34 t35 t62 t63 m1_0 m1_1 m1_2 K) (by kernel_rfl) (by kernel_rfl)
noncomputable def f64c48 := codeAt (bodyOf Try.f64) [1,1,1,0,1,0,0,1,1,0,0,1,1,1,1,0,1,0,0,1,0,0,1,1,0,0,1,1,0,0,1]
noncomputable def f64p48 : Plan := .mk (some f64l13) none .n f64p50
theorem f64t48 {ρ : Type} (N : Nat) (num3 : List Int) (den4 : List Int) (out5 : List Int) (piece7 : List Int) (at8 : Int) (i9 : Int) (j10 : Int) (t34 : Int) (t35 : Int) (t62 : Int) (t63 : Int) (m1_0 : Int) (m1_1 : Int) (m1_2 : List Int) (K : KT ρ) : f64i N f64c48 f64p48 (f64s12 num3 den4 out5 piece7 at8 i9 j10 t34 t35 t62 t63 m1_0 m1_1 m1_2) (joinK (some f64l10) K) =
  impl_factors.Z48 N num3 den4 out5 piece7 at8 i9 j10 t34 t35 t62 t63 m1_0 m1_1 m1_2 (fun num3 den4 out5 piece7 at8 i9 t34 t35 t62 t63 m1_0 m1_1 m1_2 => K .nrm (f64s10 num3 den4 out5 piece7 at8 i9 t34 t35 t62 t63 m1_0 m1_1 m1_2)) (fun num3 den4 out5 piece7 at8 i9 t34 t35 t62 t63 m1_0 m1_1 m1_2 => K (.exit 5) (f64s10 num3 den4 out5 piece7 at8 i9 t34 t35 t62 t63 m1_0 m1_1 m1_2)) (fun t2 => K .ret (f64s21 t2)) :=
  viaSeq (fun k => impl_factors.Z49 N num3 den4 out5 piece7 at8 i9 j10 t34 t35 t62 t63 m1_0 m1_1 m1_2 k) (by kernel_rfl) (by kernel_rfl) (f64t49 N num3 den4 out5 piece7 at8 i9 j10 t34 t35 t62 t63 m1_0 m1_1 m1_2 (seqK (fun σ => f64i N f64c50 f64p50 σ (joinK (some f64l10) K)) (joinK (some f64l10) K))) (funext fun num3 => funext fun den4 => funext fun out5 => funext fun piece7 => funext fun at8 => funext fun i9 => funext fun j10 => funext fun p11 => funext fun q12 => funext fun t34 => funext fun t35 => funext fun t62 => funext fun t63 => funext fun m1_0 => funext fun m1_1 => funext fun m1_2 => f64t50 N num3 den4 out5 piece7 at8 i9 j10 p11 q12 t34 t35 t62 t63 m1_0 m1_1 m1_2 K) (by kernel_rfl) (by kernel_rfl)
noncomputable def f64c46 := codeAt (bodyOf Try.f64) [1,1,1,0,1,0,0,1,1,0,0,1,1,1,1,0,1,0,0,1,0,0,1,1,0,0,1,1,0,0]
noncomputable def f64p46 : Plan := .mk (some f64l12) none .n f64p48
theorem f64t46 {ρ : Type} (N : Nat) (num3 : List Int) (den4 : List Int) (out5 : List Int) (piece7 : List Int) (at8 : Int) (i9 : Int) (t34 : Int) (t35 : Int) (t62 : Int) (t63 : Int) (m1_0 : Int) (m1_1 : Int) (m1_2 : List Int) (K : KT ρ) : f64i N f64c46 f64p46 (f64s10 num3 den4 out5 piece7 at8 i9 t34 t35 t62 t63 m1_0 m1_1 m1_2) (joinK (some f64l10) K) =
  impl_factors.Z46 N num3 den4 out5 piece7 at8 i9 t34 t35 t62 t63 m1_0 m1_1 m1_2 (fun num3 den4 out5 piece7 at8 i9 t34 t35 t62 t63 m1_0 m1_1 m1_2 => K .nrm (f64s10 num3 den4 out5 piece7 at8 i9 t34 t35 t62 t63 m1_0 m1_1 m1_2)) (fun num3 den4 out5 piece7 at8 i9 t34 t35 t62 t63 m1_0 m1_1 m1_2 => K (.exit 5) (f64s10 num3 den4 out5 piece7 at8 i9 t34 t35 t62 t63 m1_0 m1_1 m1_2)) (fun t2 => K .ret (f64s21 t2)) :=
  viaSeq (fun k => impl_factors.Z47 N num3 den4 out5 piece7 at8 i9 t34 t35 t62 t63 m1_0 m1_1 m1_2 k) (by kernel_rfl) (by kernel_rfl) (f64t47 N num3 den4 out5 piece7 at8 i9 t34 t35 t62 t63 m1_0 m1_1 m1_2 (seqK (fun σ => f64i N f64c48 f64p48 σ (joinK (some f64l10) K)) (joinK (some f64l10) K))) (funext fun num3 => funext fun den4 => funext fun out5 => funext fun piece7 => funext fun at8 => funext fun i9 => funext fun j10 => funext fun t34 => funext fun t35 => funext fun t62 => funext fun t63 => funext fun m1_0 => funext fun m1_1 => funext fun m1_2 => f64t48 N num3 den4 out5 piece7 at8 i9 j10 t34 t35 t62 t63 m1_0 m1_1 m1_2 K) (by kernel_rfl) (by kernel_rfl)
noncomputable def f64c45 := codeAt (bodyOf Try.f64) [1,1,1,0,1,0,0,1,1,0,0,1,1,1,1,0,1,0,0,1,0,0,1,1,0,0,1,1,0]
noncomputable def f64p45 : Plan := .mk (some f64l10) none f64p46 .n
theorem f64t45 {ρ : Type} (N : Nat) (num3 : List Int) (den4 : List Int) (out5 : List Int) (piece7 : List Int) (at8 : Int) (i9 : Int) (t34 : Int) (t35 : Int) (t62 : Int) (t63 : Int) (m1_0 : Int) (m1_1 : Int) (m1_2 : List Int) (K : KT ρ) : f64i N f64c45 f64p45 (f64s10 num3 den4 out5 piece7 at8 i9 t34 t35 t62 t63 m1_0 m1_1 m1_2) (joinK (some f64l10) K) =
  impl_factors.Z45 N num3 den4 out5 piece7 at8 i9 t34 t35 t62 t63 m1_0 m1_1 m1_2 (fun num3 den4 out5 piece7 at8 i9 t34 t35 t62 t63 m1_0 m1_1 m1_2 => K .nrm (f64s10 num3 den4 out5 piece7 at8 i9 t34 t35 t62 t63 m1_0 m1_1 m1_2)) (fun t2 => K .ret (f64s21 t2)) :=
  viaBlock (by kernel_rfl) (by kernel_rfl) (f64t46 N num3 den4 out5 piece7 at8 i9 t34 t35 t62 t63 m1_0 m1_1 m1_2 (blockK 5 (joinK (some f64l10) K))) (by kernel_rfl)
noncomputable def f64c53 := codeAt (bodyOf Try.f64) [1,1,1,0,1,0,0,1,1,0,0,1,1,1,1,0,1,0,0,1,0,0,1,1,0,0,1,1,1]
theorem f64t53 {ρ : Type} (N : Nat) (num3 : List Int) (den4 : List Int) (out5 : List Int) (piece7 : List Int) (at8 : Int) (i9 : Int) (t34 : Int) (t35 : Int) (t62 : Int) (t63 : Int) (m1_0 : Int) (m1_1 : Int) (m1_2 : List Int) (K : KT ρ) : f64i N f64c53 .n (f64s10 num3 den4 out5 piece7 at8 i9 t34 t35 t62 t63 m1_0 m1_1 m1_2) (joinK (some f64l10) K) =
  impl_factors.Z53 N num3 den4 out5 piece7 at8 i9 t34 t35 t62 t63 m1_0 m1_1 m1_2 (fun num3 den4 out5 piece7 at8 i9 t34 t35 t62 t63 m1_0 m1_1 m1_2 => K .nrm (f64s10 num3 den4 out5 piece7 at8 i9 t34 t35 t62 t63 m1_0 m1_1 m1_2)) := by kernel_rfl
noncomputable def f64c44 := codeAt (bodyOf Try.f64) [1,1,1,0,1,0,0,1,1,0,0,1,1,1,1,0,1,0,0,1,0,0,1,1,0,0,1,1]
noncomputable def f64p44 : Plan := .mk (some f64l10) none f64p45 .n
theorem f64t44 {ρ : Type} (N : Nat) (num3 : List Int) (den4 : List Int) (out5 : List Int) (piece7 : List Int) (at8 : Int) (i9 : Int) (t34 : Int) (t35 : Int) (t62 : Int) (t63 : Int) (m1_0 : Int) (m1_1 : Int) (m1_2 : List Int) (K : KT ρ) : f64i N f64c44 f64p44 (f64s10 num3 den4 out5 piece7 at8 i9 t34 t35 t62 t63 m1_0 m1_1 m1_2) (joinK (some f64l10) K) =
  impl_factors.Z44 N num3 den4 out5 piece7 at8 i9 t34 t35 t62 t63 m1_0 m1_1 m1_2 (fun num3 den4 out5 piece7 at8 i9 t34 t35 t62 t63 m1_0 m1_1 m1_2 => K .nrm (f64s10 num3 den4 out5 piece7 at8 i9 t34 t35 t62 t63 m1_0 m1_1 m1_2)) (fun t2 => K .ret (f64s21 t2)) :=
  viaSeq (fun k => impl_factors.Z45 N num3 den4 out5 piece7 at8 i9 t34 t35 t62 t63 m1_0 m1_1 m1_2 k (fun t2 => K .ret (f64s21 t2))) (by kernel_rfl) (by kernel_rfl) (f64t45 N num3 den4 out5 piece7 at8 i9 t34 t35 t62 t63 m1_0 m1_1 m1_2 (seqK (fun σ => f64i N f64c53 .n σ (joinK (some f64l10) K)) (joinK (some f64l10) K))) (funext fun num3 => funext fun den4 => funext fun out5 => funext fun piece7 => funext fun at8 => funext fun i9 => funext fun t34 => funext fun t35 => funext fun t62 => funext fun t63 => funext fun m1_0 => funext fun m1_1 => funext fun m1_2 => f64t53 N num3 den4 out5 piece7 at8 i9 t34 t35 t62 t63 m1_0 m1_1 m1_2 K) (by kernel_rfl) (by kernel_rfl)
noncomputable def f64c42 := codeAt (bodyOf Try.f64) [1,1,1,0,1,0,0,1,1,0,0,1,1,1,1,0,1,0,0,1,0,0,1,1,0,0,1]
noncomputable def f64p42 : Plan := .mk (some f64l10) none .n f64p44
theorem f64t42 {ρ : Type} (N : Nat) (num3 : List Int) (den4 : List Int) (out5 : List Int) (piece7 : List Int) (at8 : Int) (i9 : Int) (t34 : Int) (t35 : Int) (t62 : Int) (t63 : Int) (t64 : Bool) (m1_0 : Int) (m1_1 : Int) (m1_2 : List Int) (K : KT ρ) : f64i N f64c42 f64p42 (f64s11 num3 den4 out5 piece7 at8 i9 t34 t35 t62 t63 t64 m1_0 m1_1 m1_2) (joinK (some f64l10) K) =
  impl_factors.Z42 N num3 den4 out5 piece7 at8 i9 t34 t35 t62 t63 t64 m1_0 m1_1 m1_2 (fun num3 den4 out5 piece7 at8 i9 t34 t35 t62 t63 m1_0 m1_1 m1_2 => K .nrm (f64s10 num3 den4 out5 piece7 at8 i9 t34 t35 t62 t63 m1_0 m1_1 m1_2)) (fun num3 den4 out5 piece7 at8 t34 t35 m1_0 m1_1 m1_2 => K (.exit 4) (f64s8 num3 den4 out5 piece7 at8 t34 t35 m1_0 m1_1 m1_2)) (fun t2 => K .ret (f64s21 t2)) :=
  viaSeq (fun k => impl_factors.Z43 N num3 den4 out5 piece7 at8 i9 t34 t35 t62 t63 t64 m1_0 m1_1 m1_2 k (fun num3 den4 out5 piece7 at8 t34 t35 m1_0 m1_1 m1_2 => K (.exit 4) (f64s8 num3 den4 out5 piece7 at8 t34 t35 m1_0 m1_1 m1_2))) (by kernel_rfl) (by kernel_rfl) (f64t43 N num3 den4 out5 piece7 at8 i9 t34 t35 t62 t63 t64 m1_0 m1_1 m1_2 (seqK (fun σ => f64i N f64c44 f64p44 σ (joinK (some f64l10) K)) (joinK (some f64l10) K))) (funext fun num3 => funext fun den4 => funext fun out5 => funext fun piece7 => funext fun at8 => funext fun i9 => funext fun t34 => funext fun t35 => funext fun t62 => funext fun t63 => funext fun m1_0 => funext fun m1_1 => funext fun m1_2 => f64t44 N num3 den4 out5 piece7 at8 i9 t34 t35 t62 t63 m1_0 m1_1 m1_2 K) (by kernel_rfl) (by kernel_rfl)
noncomputable def f64c40 := codeAt (bodyOf Try.f64) [1,1,1,0,1,0,0,1,1,0,0,1,1,1,1,0,1,0,0,1,0,0,1,1,0,0]
noncomputable def f64p40 : Plan := .mk (some f64l11) none .n f64p42
theorem f64t40 {ρ : Type} (N : Nat) (num3 : List Int) (den4 : List Int) (out5 : List Int) (piece7 : List Int) (at8 : Int) (i9 : Int) (t34 : Int) (t35 : Int) (t62 : Int) (t63 : Int) (m1_0 : Int) (m1_1 : Int) (m1_2 : List Int) (K : KT ρ) : f64i N f64c40 f64p40 (f64s10 num3 den4 out5 piece7 at8 i9 t34 t35 t62 t63 m1_0 m1_1 m1_2) (joinK (some f64l10) K) =
  impl_factors.Z40 N num3 den4 out5 piece7 at8 i9 t34 t35 t62 t63 m1_0 m1_1 m1_2 (fun num3 den4 out5 piece7 at8 i9 t34 t35 t62 t63 m1_0 m1_1 m1_2 => K .nrm (f64s10 num3 den4 out5 piece7 at8 i9 t34 t35 t62 t63 m1_0 m1_1 m1_2)) (fun num3 den4 out5 piece7 at8 t34 t35 m1_0 m1_1 m1_2 => K (.exit 4) (f64s8 num3 den4 out5 piece7 at8 t34 t35 m1_0 m1_1 m1_2)) (fun t2 => K .ret (f64s21 t2)) :=
  viaSeq (fun k => impl_factors.Z41 N num3 den4 out5 piece7 at8 i9 t34 t35 t62 t63 m1_0 m1_1 m1_2 k) (by kernel_rfl) (by kernel_rfl) (f64t41 N num3 den4 out5 piece7 at8 i9 t34 t35 t62 t63 m1_0 m1_1 m1_2 (seqK (fun σ => f64i N f64c42 f64p42 σ (joinK (some f64l10) K)) (joinK (some f64l10) K))) (funext fun num3 => funext fun den4 => funext fun out5 => funext fun piece7 => funext fun at8 => funext fun i9 => funext fun t34 => funext fun t35 => funext fun t62 => funext fun t63 => funext fun t64 => funext fun m1_0 => funext fun m1_1 => funext fun m1_2 => f64t42 N num3 den4 out5 piece7 at8 i9 t34 t35 t62 t63 t64 m1_0 m1_1 m1_2 K) (by kernel_rfl) (by kernel_rfl)
noncomputable def f64c39 := codeAt (bodyOf Try.f64) [1,1,1,0,1,0,0,1,1,0,0,1,1,1,1,0,1,0,0,1,0,0,1,1,0]
noncomputable def f64p39 : Plan := .mk none (some f64l10) f64p40 .n
noncomputable abbrev f64w39 {ρ : Type} (N : Nat) (M : Nat) (σ : St) (K : KT ρ) : Option ρ := loopC (fun σ K => f64i N f64c40 f64p40 σ K) f64l10 M σ K
theorem f64t39L {ρ : Type} (N : Nat) (K : KT ρ) : ∀ (M : Nat) (num3 : List Int) (den4 : List Int) (out5 : List Int) (piece7 : List Int) (at8 : Int) (i9 : Int) (t34 : Int) (t35 : Int) (t62 : Int) (t63 : Int) (m1_0 : Int) (m1_1 : Int) (m1_2 : List Int), f64w39 N M (f64s10 num3 den4 out5 piece7 at8 i9 t34 t35 t62 t63 m1_0 m1_1 m1_2) K =
  impl_factors.Z39L N (fun num3 den4 out5 piece7 at8 t34 t35 m1_0 m1_1 m1_2 => K (.exit 4) (f64s8 num3 den4 out5 piece7 at8 t34 t35 m1_0 m1_1 m1_2)) (fun t2 => K .ret (f64s21 t2)) M num3 den4 out5 piece7 at8 i9 t34 t35 t62 t63 m1_0 m1_1 m1_2
  | 0, _, _, _, _, _, _, _, _, _, _, _, _, _ => rfl
  | M + 1, num3, den4, out5, piece7, at8, i9, t34, t35, t62, t63, m1_0, m1_1, m1_2 => viaRound (fun k => impl_factors.Z40 N num3 den4 out5 piece7 at8 i9 t34 t35 t62 t63 m1_0 m1_1 m1_2 k (fun num3 den4 out5 piece7 at8 t34 t35 m1_0 m1_1 m1_2 => K (.exit 4) (f64s8 num3 den4 out5 piece7 at8 t34 t35 m1_0 m1_1 m1_2)) (fun t2 => K .ret (f64s21 t2))) (f64t40 N num3 den4 out5 piece7 at8 i9 t34 t35 t62 t63 m1_0 m1_1 m1_2 (seqK (fun σ => f64w39 N M σ K) K)) (funext fun num3 => funext fun den4 => funext fun out5 => funext fun piece7 => funext fun at8 => funext fun i9 => funext fun t34 => funext fun t35 => funext fun t62 => funext fun t63 => funext fun m1_0 => funext fun m1_1 => funext fun m1_2 => f64t39L N K M num3 den4 out5 piece7 at8 i9 t34 t35 t62 t63 m1_0 m1_1 m1_2) (by kernel_rfl) (by kernel_rfl)
theorem f64t39 {ρ : Type} (N : Nat) (num3 : List Int) (den4 : List Int) (out5 : List Int) (piece7 : List Int) (at8 : Int) (i9 : Int) (t34 : Int) (t35 : Int) (t62 : Int) (t63 : Int) (m1_0 : Int) (m1_1 : Int) (m1_2 : List Int) (K : KT ρ) : f64i N f64c39 f64p39 (f64s10 num3 den4 out5 piece7 at8 i9 t34 t35 t62 t63 m1_0 m1_1 m1_2) (joinK (some f64l8) K) =
  impl_factors.Z39 N num3 den4 out5 piece7 at8 i9 t34 t35 t62 t63 m1_0 m1_1 m1_2 (fun num3 den4 out5 piece7 at8 t34 t35 m1_0 m1_1 m1_2 => K (.exit 4) (f64s8 num3 den4 out5 piece7 at8 t34 t35 m1_0 m1_1 m1_2)) (fun t2 => K .ret (f64s21 t2)) :=
  viaLoop (by kernel_rfl) (by kernel_rfl) (σ' := f64s10 num3 den4 out5 piece7 at8 i9 t34 t35 t62 t63 m1_0 m1_1 m1_2) (by kernel_rfl) (f64t39L N (joinK (some f64l8) K) N num3 den4 out5 piece7 at8 i9 t34 t35 t62 t63 m1_0 m1_1 m1_2) (by kernel_rfl)
noncomputable def f64c38 := codeAt (bodyOf Try.f64) [1,1,1,0,1,0,0,1,1,0,0,1,1,1,1,0,1,0,0,1,0,0,1,1]
noncomputable def f64p38 : Plan := .mk (some f64l8) none f64p39 .n
theorem f64t38 {ρ : Type} (N : Nat) (num3 : List Int) (den4 : List Int) (out5 : List Int) (piece7 : List Int) (at8 : Int) (i9 : Int) (t34 : Int) (t35 : Int) (t62 : Int) (t63 : Int) (m1_0 : Int) (m1_1 : Int) (m1_2 : List Int) (K : KT ρ) : f64i N f64c38 f64p38 (f64s10 num3 den4 out5 piece7 at8 i9 t34 t35 t62 t63 m1_0 m1_1 m1_2) (joinK (some f64l8) K) =
  impl_factors.Z38 N num3 den4 out5 piece7 at8 i9 t34 t35 t62 t63 m1_0 m1_1 m1_2 (fun num3 den4 out5 piece7 at8 t34 t35 m1_0 m1_1 m1_2 => K .nrm (f64s8 num3 den4 out5 piece7 at8 t34 t35 m1_0 m1_1 m1_2)) (fun t2 => K .ret (f64s21 t2)) :=
  viaBlock (by kernel_rfl) (by kernel_rfl) (f64t39 N num3 den4 out5 piece7 at8 i9 t34 t35 t62 t63 m1_0 m1_1 m1_2 (blockK 4 (joinK (some f64l8) K))) (by kernel_rfl)
noncomputable def f64c36 := codeAt (bodyOf Try.f64) [1,1,1,0,1,0,0,1,1,0,0,1,1,1,1,0,1,0,0,1,0,0,1]
noncomputable def f64p36 : Plan := .mk (some f64l10) none .n f64p38
theorem f64t36 {ρ : Type} (N : Nat) (num3 : List Int) (den4 : List Int) (out5 : List Int) (piece7 : List Int) (at8 : Int) (i9 : Int) (t34 : Int) (t35 : Int) (m1_0 : Int) (m1_1 : Int) (m1_2 : List Int) (K : KT ρ) : f64i N f64c36 f64p36 (f64s9 num3 den4 out5 piece7 at8 i9 t34 t35 m1_0 m1_1 m1_2) (joinK (some f64l8) K) =
  impl_factors.Z36 N num3 den4 out5 piece7 at8 i9 t34 t35 m1_0 m1_1 m1_2 (fun num3 den4 out5 piece7 at8 t34 t35 m1_0 m1_1 m1_2 => K .nrm (f64s8 num3 den4 out5 piece7 at8 t34 t35 m1_0 m1_1 m1_2)) (fun t2 => K .ret (f64s21 t2)) :=
  viaSeq (fun k => impl_factors.Z37 N num3 den4 out5 piece7 at8 i9 t34 t35 m1_0 m1_1 m1_2 k) (by kernel_rfl) (by kernel_rfl) (f64t37 N num3 den4 out5 piece7 at8 i9 t34 t35 m1_0 m1_1 m1_2 (seqK (fun σ => f64i N f64c38 f64p38 σ (joinK (some f64l8) K)) (joinK (some f64l8) K))) (funext fun num3 => funext fun den4 => funext fun out5 => funext fun piece7 => funext fun at8 => funext fun i9 => funext fun t34 => funext fun t35 => funext fun t62 => funext fun t63 => funext fun m1_0 => funext fun m1_1 => funext fun m1_2 => f64t38 N num3 den4 out5 piece7 at8 i9 t34 t35 t62 t63 m1_0 m1_1 m1_2 K) (by kernel_rfl) (by kernel_rfl)
noncomputable def f64c34 := codeAt (bodyOf Try.f64) [1,1,1,0,1,0,0,1,1,0,0,1,1,1,1,0,1,0,0,1,0,0]
noncomputable def f64p34 : Plan := .mk (some f64l9) none .n f64p36
theorem f64t34 {ρ : Type} (N : Nat) (num3 : List Int) (den4 : List Int) (out5 : List Int) (piece7 : List Int) (at8 : Int) (t34 : Int) (t35 : Int) (m1_0 : Int) (m1_1 : Int) (m1_2 : List Int) (K : KT ρ) : f64i N f64c34 f64p34 (f64s8 num3 den4 out5 piece7 at8 t34 t35 m1_0 m1_1 m1_2) (joinK (some f64l8) K) =
  impl_factors.Z34 N num3 den4 out5 piece7 at8 t34 t35 m1_0 m1_1 m1_2 (fun num3 den4 out5 piece7 at8 t34 t35 m1_0 m1_1 m1_2 => K .nrm (f64s8 num3 den4 out5 piece7 at8 t34 t35 m1_0 m1_1 m1_2)) (fun t2 => K .ret (f64s21 t2)) :=
  viaSeq (fun k => impl_factors.Z35 N num3 den4 out5 piece7 at8 t34 t35 m1_0 m1_1 m1_2 k) (by kernel_rfl) (by kernel_rfl) (f64t35 N num3 den4 out5 piece7 at8 t34 t35 m1_0 m1_1 m1_2 (seqK (fun σ => f64i N f64c36 f64p36 σ (joinK (some f64l8) K)) (joinK (some f64l8) K))) (funext fun num3 => funext fun den4 => funext fun out5 => funext fun piece7 => funext fun at8 => funext fun i9 => funext fun t34 => funext fun t35 => funext fun m1_0 => funext fun m1_1 => funext fun m1_2 => f64t36 N num3 den4 out5 piece7 at8 i9 t34 t35 m1_0 m1_1 m1_2 K) (by kernel_rfl) (by kernel_rfl)
noncomputable def f64c33 := codeAt (bodyOf Try.f64) [1,1,1,0,1,0,0,1,1,0,0,1,1,1,1,0,1,0,0,1,0]
noncomputable def f64p33 : Plan := .mk (some f64l8) none f64p34 .n
theorem f64t33 {ρ : Type} (N : Nat) (num3 : List Int) (den4 : List Int) (out5 : List Int) (piece7 : List Int) (at8 : Int) (t34 : Int) (t35 : Int) (m1_0 : Int) (m1_1 : Int) (m1_2 : List Int) (K : KT ρ) : f64i N f64c33 f64p33 (f64s8 num3 den4 out5 piece7 at8 t34 t35 m1_0 m1_1 m1_2) (joinK (some f64l8) K) =
  impl_factors.Z33 N num3 den4 out5 piece7 at8 t34 t35 m1_0 m1_1 m1_2 (fun num3 den4 out5 piece7 at8 t34 t35 m1_0 m1_1 m1_2 => K .nrm (f64s8 num3 den4 out5 piece7 at8 t34 t35 m1_0 m1_1 m1_2)) (fun t2 => K .ret (f64s21 t2)) :=
  viaBlock (by kernel_rfl) (by kernel_rfl) (f64t34 N num3 den4 out5 piece7 at8 t34 t35 m1_0 m1_1 m1_2 (blockK 3 (joinK (some f64l8) K))) (by kernel_rfl)
noncomputable def f64c54 := codeAt (bodyOf Try.f64) [1,1,1,0,1,0,0,1,1,0,0,1,1,1,1,0,1,0,0,1,1]
theorem f64t54 {ρ : Type} (N : Nat) (num3 : List Int) (den4 : List Int) (out5 : List Int) (piece7 : List Int) (at8 : Int) (t34 : Int) (t35 : Int) (m1_0 : Int) (m1_1 : Int) (m1_2 : List Int) (K : KT ρ) : f64i N f64c54 .n (f64s8 num3 den4 out5 piece7 at8 t34 t35 m1_0 m1_1 m1_2) (joinK (some f64l8) K) =
  impl_factors.Z54 N num3 den4 out5 piece7 at8 t34 t35 m1_0 m1_1 m1_2 (fun num3 den4 out5 piece7 at8 t34 t35 m1_0 m1_1 m1_2 => K .nrm (f64s8 num3 den4 out5 piece7 at8 t34 t35 m1_0 m1_1 m1_2)) := by kernel_rfl
noncomputable def f64c32 := codeAt (bodyOf Try.f64) [1,1,1,0,1,0,0,1,1,0,0,1,1,1,1,0,1,0,0,1]
noncomputable def f64p32 : Plan := .mk (some f64l8) none f64p33 .n
theorem f64t32 {ρ : Type} (N : Nat) (num3 : List Int) (den4 : List Int) (out5 : List Int) (piece7 : List Int) (at8 : Int) (t34 : Int) (t35 : Int) (m1_0 : Int) (m1_1 : Int) (m1_2 : List Int) (K : KT ρ) : f64i N f64c32 f64p32 (f64s8 num3 den4 out5 piece7 at8 t34 t35 m1_0 m1_1 m1_2) (joinK (some f64l8) K) =
  impl_factors.Z32 N num3 den4 out5 piece7 at8 t34 t35 m1_0 m1_1 m1_2 (fun num3 den4 out5 piece7 at8 t34 t35 m1_0 m1_1 m1_2 => K .nrm (f64s8 num3 den4 out5 piece7 at8 t34 t35 m1_0 m1_1 m1_2)) (fun t2 => K .ret (f64s21 t2)) :=
  viaSeq (fun k => impl_factors.Z33 N num3 den4 out5 piece7 at8 t34 t35 m1_0 m1_1 m1_2 k (fun t2 => K .ret (f64s21 t2))) (by kernel_rfl) (by kernel_rfl) (f64t33 N num3 den4 out5 piece7 at8 t34 t35 m1_0 m1_1 m1_2 (seqK (fun σ => f64i N f64c54 .n σ (joinK (some f64l8) K)) (joinK (some f64l8) K))) (funext fun num3 => funext fun den4 => funext fun out5 => funext fun piece7 => funext fun at8 => funext fun t34 => funext fun t35 => funext fun m1_0 => funext fun m1_1 => funext fun m1_2 => f64t54 N num3 den4 out5 piece7 at8 t34 t35 m1_0 m1_1 m1_2 K) (by kernel_rfl) (by kernel_rfl)
noncomputable def f64c30 := codeAt (bodyOf Try.f64) [1,1,1,0,1,0,0,1,1,0,0,1,1,1,1,0,1,0,0]
noncomputable def f64p30 : Plan := .mk (some f64l8) none .n f64p32
theorem f64t30 {ρ : Type} (N : Nat) (num3 : List Int) (den4 : List Int) (out5 : List Int) (piece7 : List Int) (at8 : Int) (t34 : Int) (t35 : Int) (m1_0 : Int) (m1_1 : Int) (m1_2 : List Int) (K : KT ρ) : f64i N f64c30 f64p30 (f64s8 num3 den4 out5 piece7 at8 t34 t35 m1_0 m1_1 m1_2) (joinK (some f64l8) K) =
  impl_factors.Z30 N num3 den4 out5 piece7 at8 t34 t35 m1_0 m1_1 m1_2 (fun num3 den4 out5 piece7 at8 t34 t35 m1_0 m1_1 m1_2 => K .nrm (f64s8 num3 den4 out5 piece7 at8 t34 t35 m1_0 m1_1 m1_2)) (fun num3 den4 out5 piece7 t34 t35 m1_0 m1_1 m1_2 => K (.exit 2) (f64s7 num3 den4 out5 piece7 t34 t35 m1_0 m1_1 m1_2)) (fun t2 => K .ret (f64s21 t2)) :=
  viaSeq (fun k => impl_factors.Z31 N num3 den4 out5 piece7 at8 t34 t35 m1_0 m1_1 m1_2 k (fun num3 den4 out5 piece7 t34 t35 m1_0 m1_1 m1_2 => K (.exit 2) (f64s7 num3 den4 out5 piece7 t34 t35 m1_0 m1_1 m1_2))) (by kernel_rfl) (by kernel_rfl) (f64t31 N num3 den4 out5 piece7 at8 t34 t35 m1_0 m1_1 m1_2 (seqK (fun σ => f64i N f64c32 f64p32 σ (joinK (some f64l8) K)) (joinK (some f64l8) K))) (funext fun num3 => funext fun den4 => funext fun out5 => funext fun piece7 => funext fun at8 => funext fun t34 => funext fun t35 => funext fun m1_0 => funext fun m1_1 => funext fun m1_2 => f64t32 N num3 den4 out5 piece7 at8 t34 t35 m1_0 m1_1 m1_2 K) (by kernel_rfl) (by kernel_rfl)
noncomputable def f64c29 := codeAt (bodyOf Try.f64) [1,1,1,0,1,0,0,1,1,0,0,1,1,1,1,0,1,0]
noncomputable def f64p29 : Plan := .mk none (some f64l8) f64p30 .n
noncomputable abbrev f64w29 {ρ : Type} (N : Nat) (M : Nat) (σ : St) (K : KT ρ) : Option ρ := loopC (fun σ K => f64i N f64c30 f64p30 σ K) f64l8 M σ K
theorem f64t29L {ρ : Type} (N : Nat) (K : KT ρ) : ∀ (M : Nat) (num3 : List Int) (den4 : List Int) (out5 : List Int) (piece7 : List Int) (at8 : Int) (t34 : Int) (t35 : Int) (m1_0 : Int) (m1_1 : Int) (m1_2 : List Int), f64w29 N M (f64s8 num3 den4 out5 piece7 at8 t34 t35 m1_0 m1_1 m1_2) K =
  impl_factors.Z29L N (fun num3 den4 out5 piece7 t34 t35 m1_0 m1_1 m1_2 => K (.exit 2) (f64s7 num3 den4 out5 piece7 t34 t35 m1_0 m1_1 m1_2)) (fun t2 => K .ret (f64s21 t2)) M num3 den4 out5 piece7 at8 t34 t35 m1_0 m1_1 m1_2
  | 0, _, _, _, _, _, _, _, _, _, _ => rfl
  | M + 1, num3, den4, out5, piece7, at8, t34, t35, m1_0, m1_1, m1_2 => viaRound (fun k => impl_factors.Z30 N num3 den4 out5 piece7 at8 t34 t35 m1_0 m1_1 m1_2 k (fun num3 den4 out5 piece7 t34 t35 m1_0 m1_1 m1_2 => K (.exit 2) (f64s7 num3 den4 out5 piece7 t34 t35 m1_0 m1_1 m1_2)) (fun t2 => K .ret (f64s21 t2))) (f64t30 N num3 den4 out5 piece7 at8 t34 t35 m1_0 m1_1 m1_2 (seqK (fun σ => f64w29 N M σ K) K)) (funext fun num3 => funext fun den4 => funext fun out5 => funext fun piece7 => funext fun at8 => funext fun t34 => funext fun t35 => funext fun m1_0 => funext fun m1_1 => funext fun m1_2 => f64t29L N K M num3 den4 out5 piece7 at8 t34 t35 m1_0 m1_1 m1_2) (by kernel_rfl) (by kernel_rfl)
theorem f64t29 {ρ : Type} (N : Nat) (num3 : List Int) (den4 : List Int) (out5 : List Int) (piece7 : List Int) (at8 : Int) (t34 : Int) (t35 : Int) (m1_0 : Int) (m1_1 : Int) (m1_2 : List Int) (K : KT ρ) : f64i N f64c29 f64p29 (f64s8 num3 den4 out5 piece7 at8 t34 t35 m1_0 m1_1 m1_2) (joinK (some f64l7) K) =
  impl_factors.Z29 N num3 den4 out5 piece7 at8 t34 t35 m1_0 m1_1 m1_2 (fun num3 den4 out5 piece7 t34 t35 m1_0 m1_1 m1_2 => K (.exit 2) (f64s7 num3 den4 out5 piece7 t34 t35 m1_0 m1_1 m1_2)) (fun t2 => K .ret (f64s21 t2)) :=
  viaLoop (by kernel_rfl) (by kernel_rfl) (σ' := f64s8 num3 den4 out5 piece7 at8 t34 t35 m1_0 m1_1 m1_2) (by kernel_rfl) (f64t29L N (joinK (some f64l7) K) N num3 den4 out5 piece7 at8 t34 t35 m1_0 m1_1 m1_2) (by kernel_rfl)
noncomputable def f64c28 := codeAt (bodyOf Try.f64) [1,1,1,0,1,0,0,1,1,0,0,1,1,1,1,0,1]
noncomputable def f64p28 : Plan := .mk (some f64l7) none f64p29 .n
theorem f64t28 {ρ : Type} (N : Nat) (num3 : List Int) (den4 : List Int) (out5 : List Int) (piece7 : List Int) (at8 : Int) (t34 : Int) (t35 : Int) (m1_0 : Int) (m1_1 : Int) (m1_2 : List Int) (K : KT ρ) : f64i N f64c28 f64p28 (f64s8 num3 den4 out5 piece7 at8 t34 t35 m1_0 m1_1 m1_2) (joinK (some f64l7) K) =
  impl_factors.Z28 N num3 den4 out5 piece7 at8 t34 t35 m1_0 m1_1 m1_2 (fun num3 den4 out5 piece7 t34 t35 m1_0 m1_1 m1_2 => K .nrm (f64s7 num3 den4 out5 piece7 t34 t35 m1_0 m1_1 m1_2)) (fun t2 => K .ret (f64s21 t2)) :=
  viaBlock (by kernel_rfl) (by kernel_rfl) (f64t29 N num3 den4 out5 piece7 at8 t34 t35 m1_0 m1_1 m1_2 (blockK 2 (joinK (some f64l7) K))) (by kernel_rfl)
noncomputable def f64c26 := codeAt (bodyOf Try.f64) [1,1,1,0,1,0,0,1,1,0,0,1,1,1,1,0]
noncomputable def f64p26 : Plan := .mk (some f64l8) none .n f64p28
theorem f64t26 {ρ : Type} (N : Nat) (num3 : List Int) (den4 : List Int) (out5 : List Int) (piece7 : List Int) (t34 : Int) (t35 : Int) (m1_0 : Int) (m1_1 : Int) (m1_2 : List Int) (K : KT ρ) : f64i N f64c26 f64p26 (f64s7 num3 den4 out5 piece7 t34 t35 m1_0 m1_1 m1_2) (joinK (some f64l7) K) =
  impl_factors.Z26 N num3 den4 out5 piece7 t34 t35 m1_0 m1_1 m1_2 (fun num3 den4 out5 piece7 t34 t35 m1_0 m1_1 m1_2 => K .nrm (f64s7 num3 den4 out5 piece7 t34 t35 m1_0 m1_1 m1_2)) (fun t2 => K .ret (f64s21 t2)) :=
  viaSeq (fun k => impl_factors.Z27 N num3 den4 out5 piece7 t34 t35 m1_0 m1_1 m1_2 k) (by kernel_rfl) (by kernel_rfl) (f64t27 N num3 den4 out5 piece7 t34 t35 m1_0 m1_1 m1_2 (seqK (fun σ => f64i N f64c28 f64p28 σ (joinK (some f64l7) K)) (joinK (some f64l7) K))) (funext fun num3 => funext fun den4 => funext fun out5 => funext fun piece7 => funext fun at8 => funext fun t34 => funext fun t35 => funext fun m1_0 => funext fun m1_1 => funext fun m1_2 => f64t28 N num3 den4 out5 piece7 at8 t34 t35 m1_0 m1_1 m1_2 K) (by kernel_rfl) (by kernel_rfl)
noncomputable def f64c56 := codeAt (bodyOf Try.f64) [1,1,1,0,1,0,0,1,1,0,0,1,1,1,1,1,0]
theorem f64t56 {ρ : Type} (N : Nat) (num3 : List Int) (den4 : List Int) (out5 : List Int) (piece7 : List Int) (t34 : Int) (t35 : Int) (m1_0 : Int) (m1_1 : Int) (m1_2 : List Int) (K : KT ρ) : f64i N f64c56 .n (f64s7 num3 den4 out5 piece7 t34 t35 m1_0 m1_1 m1_2) (joinK (some f64l14) K) =
  impl_factors.Z56 N num3 den4 out5 piece7 t34 t35 m1_0 m1_1 m1_2 (fun num3 den4 out5 piece7 common16 t34 t35 m1_0 m1_1 m1_2 => K .nrm (f64s14 num3 den4 out5 piece7 common16 t34 t35 m1_0 m1_1 m1_2)) := by kernel_rfl
noncomputable def f64c59 := codeAt (bodyOf Try.f64) [1,1,1,0,1,0,0,1,1,0,0,1,1,1,1,1,1,0,0]
theorem f64t59 {ρ : Type} (N : Nat) (num3 : List Int) (den4 : List Int) (out5 : List Int) (piece7 : List Int) (common16 : Int) (t34 : Int) (t35 : Int) (m1_0 : Int) (m1_1 : Int) (m1_2 : List Int) (K : KT ρ) : f64i N f64c59 .n (f64s14 num3 den4 out5 piece7 common16 t34 t35 m1_0 m1_1 m1_2) (joinK (some f64l15) K) =
  impl_factors.Z59 N num3 den4 out5 piece7 common16 t34 t35 m1_0 m1_1 m1_2 (fun num3 den4 out5 piece7 common16 t34 t35 t159 t160 m1_0 m1_1 m1_2 => K .nrm (f64s15 num3 den4 out5 piece7 common16 t34 t35 t159 t160 m1_0 m1_1 m1_2)) := by kernel_rfl
noncomputable def f64c62 := codeAt (bodyOf Try.f64) [1,1,1,0,1,0,0,1,1,0,0,1,1,1,1,1,1,0,1,0,0]
theorem f64t62 {ρ : Type} (N : Nat) (num3 : List Int) (den4 : List Int) (out5 : List Int) (piece7 : List Int) (common16 : Int) (t34 : Int) (t35 : Int) (t159 : Int) (t160 : Int) (m1_0 : Int) (m1_1 : Int) (m1_2 : List Int) (K : KT ρ) : f64i N f64c62 .n (f64s15 num3 den4 out5 piece7 common16 t34 t35 t159 t160 m1_0 m1_1 m1_2) (joinK (some f64l15) K) =
  impl_factors.Z62 N num3 den4 out5 piece7 common16 t34 t35 t159 t160 m1_0 m1_1 m1_2 (fun num3 den4 out5 piece7 common16 t34 t35 t159 t160 m1_0 m1_1 m1_2 => K .nrm (f64s15 num3 den4 out5 piece7 common16 t34 t35 t159 t160 m1_0 m1_1 m1_2)) (fun num3 den4 out5 piece7 common16 t34 t35 m1_0 m1_1 m1_2 => K (.exit 6) (f64s14 num3 den4 out5 piece7 common16 t34 t35 m1_0 m1_1 m1_2)) := by kernel_rfl
noncomputable def f64c61 := codeAt (bodyOf Try.f64) [1,1,1,0,1,0,0,1,1,0,0,1,1,1,1,1,1,0,1,0]
noncomputable def f64p61 : Plan := .mk none (some f64l15) .n .n
noncomputable abbrev f64w61 {ρ : Type} (N : Nat) (M : Nat) (σ : St) (K : KT ρ) : Option ρ := loopC (fun σ K => f64i N f64c62 .n σ K) f64l15 M σ K
theorem f64t61L {ρ : Type} (N : Nat) (K : KT ρ) : ∀ (M : Nat) (num3 : List Int) (den4 : List Int) (out5 : List Int) (piece7 : List Int) (common16 : Int) (t34 : Int) (t35 : Int) (t159 : Int) (t160 : Int) (m1_0 : Int) (m1_1 : Int) (m1_2 : List Int), f64w61 N M (f64s15 num3 den4 out5 piece7 common16 t34 t35 t159 t160 m1_0 m1_1 m1_2) K =
  impl_factors.Z61L N (fun num3 den4 out5 piece7 common16 t34 t35 m1_0 m1_1 m1_2 => K (.exit 6) (f64s14 num3 den4 out5 piece7 common16 t34 t35 m1_0 m1_1 m1_2)) M num3 den4 out5 piece7 common16 t34 t35 t159 t160 m1_0 m1_1 m1_2
  | 0, _, _, _, _, _, _, _, _, _, _, _, _ => rfl
  | M + 1, num3, den4, out5, piece7, common16, t34, t35, t159, t160, m1_0, m1_1, m1_2 => viaRound (fun k => impl_factors.Z62 N num3 den4 out5 piece7 common16 t34 t35 t159 t160 m1_0 m1_1 m1_2 k (fun num3 den4 out5 piece7 common16 t34 t35 m1_0 m1_1 m1_2 => K (.exit 6) (f64s14 num3 den4 out5 piece7 common16 t34 t35 m1_0 m1_1 m1_2))) (f64t62 N num3 den4 out5 piece7 common16 t34 t35 t159 t160 m1_0 m1_1 m1_2 (seqK (fun σ => f64w61 N M σ K) K)) (funext fun num3 => funext fun den4 => funext fun out5 => funext fun piece7 => funext fun common16 => funext fun t34 => funext fun t35 => funext fun t159 => funext fun t160 => funext fun m1_0 => funext fun m1_1 => funext fun m1_2 => f64t61L N K M num3 den4 out5 piece7 common16 t34 t35 t159 t160 m1_0 m1_1 m1_2) (by kernel_rfl) (by kernel_rfl)
theorem f64t61 {ρ : Type} (N : Nat) (num3 : List Int) (den4 : List Int) (out5 : List Int) (piece7 : List Int) (common16 : Int) (t34 : Int) (t35 : Int) (t159 : Int) (t160 : Int) (m1_0 : Int) (m1_1 : Int) (m1_2 : List Int) (K : KT ρ) : f64i N f64c61 f64p61 (f64s15 num3 den4 out5 piece7 common16 t34 t35 t159 t160 m1_0 m1_1 m1_2) (joinK (some f64l14) K) =
  impl_factors.Z61 N num3 den4 out5 piece7 common16 t34 t35 t159 t160 m1_0 m1_1 m1_2 (fun num3 den4 out5 piece7 common16 t34 t35 m1_0 m1_1 m1_2 => K (.exit 6) (f64s14 num3 den4 out5 piece7 common16 t34 t35 m1_0 m1_1 m1_2)) :=
  viaLoop (by kernel_rfl) (by kernel_rfl) (σ' := f64s15 num3 den4 out5 piece7 common16 t34 t35 t159 t160 m1_0 m1_1 m1_2) (by kernel_rfl) (f64t61L N (joinK (some f64l14) K) N num3 den4 out5 piece7 common16 t34 t35 t159 t160 m1_0 m1_1 m1_2) (by kernel_rfl)
noncomputable def f64c60 := codeAt (bodyOf Try.f64) [1,1,1,0,1,0,0,1,1,0,0,1,1,1,1,1,1,0,1]
noncomputable def f64p60 : Plan := .mk (some f64l14) none f64p61 .n
theorem f64t60 {ρ : Type} (N : Nat) (num3 : List Int) (den4 : List Int) (out5 : List Int) (piece7 : List Int) (common16 : Int) (t34 : Int) (t35 : Int) (t159 : Int) (t160 : Int) (m1_0 : Int) (m1_1 : Int) (m1_2 : List Int) (K : KT ρ) : f64i N f64c60 f64p60 (f64s15 num3 den4 out5 piece7 common16 t34 t35 t159 t160 m1_0 m1_1 m1_2) (joinK (some f64l14) K) =
  impl_factors.Z60 N num3 den4 out5 piece7 common16 t34 t35 t159 t160 m1_0 m1_1 m1_2 (fun num3 den4 out5 piece7 common16 t34 t35 m1_0 m1_1 m1_2 => K .nrm (f64s14 num3 den4 out5 piece7 common16 t34 t35 m1_0 m1_1 m1_2)) :=
  viaBlock (by kernel_rfl) (by kernel_rfl) (f64t61 N num3 den4 out5 piece7 common16 t34 t35 t159 t160 m1_0 m1_1 m1_2 (blockK 6 (joinK (some f64l14) K))) (by kernel_rfl)
noncomputable def f64c58 := codeAt (bodyOf Try.f64) [1,1,1,0,1,0,0,1,1,0,0,1,1,1,1,1,1,0]
noncomputable def f64p58 : Plan := .mk (some f64l15) none .n f64p60
theorem f64t58 {ρ : Type} (N : Nat) (num3 : List Int) (den4 : List Int) (out5 : List Int) (piece7 : List Int) (common16 : Int) (t34 : Int) (t35 : Int) (m1_0 : Int) (m1_1 : Int) (m1_2 : List Int) (K : KT ρ) : f64i N f64c58 f64p58 (f64s14 num3 den4 out5 piece7 common16 t34 t35 m1_0 m1_1 m1_2) (joinK (some f64l14) K) =
  impl_factors.Z58 N num3 den4 out5 piece7 common16 t34 t35 m1_0 m1_1 m1_2 (fun num3 den4 out5 piece7 common16 t34 t35 m1_0 m1_1 m1_2 => K .nrm (f64s14 num3 den4 out5 piece7 common16 t34 t35 m1_0 m1_1 m1_2)) :=
  viaSeq (fun k => impl_factors.Z59 N num3 den4 out5 piece7 common16 t34 t35 m1_0 m1_1 m1_2 k) (by kernel_rfl) (by kernel_rfl) (f64t59 N num3 den4 out5 piece7 common16 t34 t35 m1_0 m1_1 m1_2 (seqK (fun σ => f64i N f64c60 f64p60 σ (joinK (some f64l14) K)) (joinK (some f64l14) K))) (funext fun num3 => funext fun den4 => funext fun out5 => funext fun piece7 => funext fun common16 => funext fun t34 => funext fun t35 => funext fun t159 => funext fun t160 => funext fun m1_0 => funext fun m1_1 => funext fun m1_2 => f64t60 N num3 den4 out5 piece7 common16 t34 t35 t159 t160 m1_0 m1_1 m1_2 K) (by kernel_rfl) (by kernel_rfl)
noncomputable def f64c64 := codeAt (bodyOf Try.f64) [1,1,1,0,1,0,0,1,1,0,0,1,1,1,1,1,1,1,0]
theorem f64t64 {ρ : Type} (N : Nat) (num3 : List Int) (den4 : List Int) (out5 : List Int) (piece7 : List Int) (common16 : Int) (t34 : Int) (t35 : Int) (m1_0 : Int) (m1_1 : Int) (m1_2 : List Int) (K : KT ρ) : f64i N f64c64 .n (f64s14 num3 den4 out5 piece7 common16 t34 t35 m1_0 m1_1 m1_2) (joinK (some f64l16) K) =
  impl_factors.Z64 N num3 den4 out5 piece7 common16 t34 t35 m1_0 m1_1 m1_2 (fun num3 den4 out5 piece7 common16 g19 t34 t35 m1_0 m1_1 m1_2 => K .nrm (f64s16 num3 den4 out5 piece7 common16 g19 t34 t35 m1_0 m1_1 m1_2)) := by kernel_rfl
noncomputable def f64c67 := codeAt (bodyOf Try.f64) [1,1,1,0,1,0,0,1,1,0,0,1,1,1,1,1,1,1,1,0,0]
theorem f64t67 {ρ : Type} (N : Nat) (num3 : List Int) (den4 : List Int) (out5 : List Int) (piece7 : List Int) (common16 : Int) (g19 : Int) (t34 : Int) (t35 : Int) (m1_0 : Int) (m1_1 : Int) (m1_2 : List Int) (K : KT ρ) : f64i N f64c67 .n (f64s16 num3 den4 out5 piece7 common16 g19 t34 t35 m1_0 m1_1 m1_2) (joinK (some f64l17) K) =
  impl_factors.Z67 N num3 den4 out5 piece7 common16 g19 t34 t35 m1_0 m1_1 m1_2 (fun num3 den4 out5 piece7 common16 g19 t34 t35 t179 t180 m1_0 m1_1 m1_2 => K .nrm (f64s17 num3 den4 out5 piece7 common16 g19 t34 t35 t179 t180 m1_0 m1_1 m1_2)) := by kernel_rfl
noncomputable def f64c70 := codeAt (bodyOf Try.f64) [1,1,1,0,1,0,0,1,1,0,0,1,1,1,1,1,1,1,1,0,1,0,0]
theorem f64t70 {ρ : Type} (N : Nat) (num3 : List Int) (den4 : List Int) (out5 : List Int) (piece7 : List Int) (common16 : Int) (g19 : Int) (t34 : Int) (t35 : Int) (t179 : Int) (t180 : Int) (m1_0 : Int) (m1_1 : Int) (m1_2 : List Int) (K : KT ρ) : f64i N f64c70 .n (f64s17 num3 den4 out5 piece7 common16 g19 t34 t35 t179 t180 m1_0 m1_1 m1_2) (joinK (some f64l17) K) =
  impl_factors.Z70 N num3 den4 out5 piece7 common16 g19 t34 t35 t179 t180 m1_0 m1_1 m1_2 (fun num3 den4 out5 piece7 common16 g19 t34 t35 t179 t180 m1_0 m1_1 m1_2 => K .nrm (f64s17 num3 den4 out5 piece7 common16 g19 t34 t35 t179 t180 m1_0 m1_1 m1_2)) (fun num3 den4 out5 piece7 g19 t34 t35 m1_0 m1_1 m1_2 => K (.exit 8) (f64s18 num3 den4 out5 piece7 g19 t34 t35 m1_0 m1_1 m1_2)) := by kernel_rfl
noncomputable def f64c69 := codeAt (bodyOf Try.f64) [1,1,1,0,1,0,0,1,1,0,0,1,1,1,1,1,1,1,1,0,1,0]
noncomputable def f64p69 : Plan := .mk none (some f64l17) .n .n
noncomputable abbrev f64w69 {ρ : Type} (N : Nat) (M : Nat) (σ : St) (K : KT ρ) : Option ρ := loopC (fun σ K => f64i N f64c70 .n σ K) f64l17 M σ K
theorem f64t69L {ρ : Type} (N : Nat) (K : KT ρ) : ∀ (M : Nat) (num3 : List Int) (den4 : List Int) (out5 : List Int) (piece7 : List Int) (common16 : Int) (g19 : Int) (t34 : Int) (t35 : Int) (t179 : Int) (t180 : Int) (m1_0 : Int) (m1_1 : Int) (m1_2 : List Int), f64w69 N M (f64s17 num3 den4 out5 piece7 common16 g19 t34 t35 t179 t180 m1_0 m1_1 m1_2) K =
  impl_factors.Z69L N (fun num3 den4 out5 piece7 g19 t34 t35 m1_0 m1_1 m1_2 => K (.exit 8) (f64s18 num3 den4 out5 piece7 g19 t34 t35 m1_0 m1_1 m1_2)) M num3 den4 out5 piece7 common16 g19 t34 t35 t179 t180 m1_0 m1_1 m1_2
  | 0, _, _, _, _, _, _, _, _, _, _, _, _, _ => rfl
  | M + 1, num3, den4, out5, piece7, common16, g19, t34, t35, t179, t180, m1_0, m1_1, m1_2 => viaRound (fun k => impl_factors.Z70 N num3 den4 out5 piece7 common16 g19 t34 t35 t179 t180 m1_0 m1_1 m1_2 k (fun num3 den4 out5 piece7 g19 t34 t35 m1_0 m1_1 m1_2 => K (.exit 8) (f64s18 num3 den4 out5 piece7 g19 t34 t35 m1_0 m1_1 m1_2))) (f64t70 N num3 den4 out5 piece7 common16 g19 t34 t35 t179 t180 m1_0 m1_1 m1_2 (seqK (fun σ => f64w69 N M σ K) K)) (funext fun num3 => funext fun den4 => funext fun out5 => funext fun piece7 => funext fun common16 => funext fun g19 => funext fun t34 => funext fun t35 => funext fun t179 => funext fun t180 => funext fun m1_0 => funext fun m1_1 => funext fun m1_2 => f64t69L N K M num3 den4 out5 piece7 common16 g19 t34 t35 t179 t180 m1_0 m1_1 m1_2) (by kernel_rfl) (by kernel_rfl)
theorem f64t69 {ρ : Type} (N : Nat) (num3 : List Int) (den4 : List Int) (out5 : List Int) (piece7 : List Int) (common16 : Int) (g19 : Int) (t34 : Int) (t35 : Int) (t179 : Int) (t180 : Int) (m1_0 : Int) (m1_1 : Int) (m1_2 : List Int) (K : KT ρ) : f64i N f64c69 f64p69 (f64s17 num3 den4 out5 piece7 common16 g19 t34 t35 t179 t180 m1_0 m1_1 m1_2) (joinK (some f64l18) K) =
  impl_factors.Z69 N num3 den4 out5 piece7 common16 g19 t34 t35 t179 t180 m1_0 m1_1 m1_2 (fun num3 den4 out5 piece7 g19 t34 t35 m1_0 m1_1 m1_2 => K (.exit 8) (f64s18 num3 den4 out5 piece7 g19 t34 t35 m1_0 m1_1 m1_2)) :=
  viaLoop (by kernel_rfl) (by kernel_rfl) (σ' := f64s17 num3 den4 out5 piece7 common16 g19 t34 t35 t179 t180 m1_0 m1_1 m1_2) (by kernel_rfl) (f64t69L N (joinK (some f64l18) K) N num3 den4 out5 piece7 common16 g19 t34 t35 t179 t180 m1_0 m1_1 m1_2) (by kernel_rfl)
noncomputable def f64c68 := codeAt (bodyOf Try.f64) [1,1,1,0,1,0,0,1,1,0,0,1,1,1,1,1,1,1,1,0,1]
noncomputable def f64p68 : Plan := .mk (some f64l18) none f64p69 .n
theorem f64t68 {ρ : Type} (N : Nat) (num3 : List Int) (den4 : List Int) (out5 : List Int) (piece7 : List Int) (common16 : Int) (g19 : Int) (t34 : Int) (t35 : Int) (t179 : Int) (t180 : Int) (m1_0 : Int) (m1_1 : Int) (m1_2 : List Int) (K : KT ρ) : f64i N f64c68 f64p68 (f64s17 num3 den4 out5 piece7 common16 g19 t34 t35 t179 t180 m1_0 m1_1 m1_2) (joinK (some f64l18) K) =
  impl_factors.Z68 N num3 den4 out5 piece7 common16 g19 t34 t35 t179 t180 m1_0 m1_1 m1_2 (fun num3 den4 out5 piece7 g19 t34 t35 m1_0 m1_1 m1_2 => K .nrm (f64s18 num3 den4 out5 piece7 g19 t34 t35 m1_0 m1_1 m1_2)) :=
  viaBlock (by kernel_rfl) (by kernel_rfl) (f64t69 N num3 den4 out5 piece7 common16 g19 t34 t35 t179 t180 m1_0 m1_1 m1_2 (blockK 8 (joinK (some f64l18) K))) (by kernel_rfl)
noncomputable def f64c66 := codeAt (bodyOf Try.f64) [1,1,1,0,1,0,0,1,1,0,0,1,1,1,1,1,1,1,1,0]
noncomputable def f64p66 : Plan := .mk (some f64l17) none .n f64p68
theorem f64t66 {ρ : Type} (N : Nat) (num3 : List Int) (den4 : List Int) (out5 : List Int) (piece7 : List Int) (common16 : Int) (g19 : Int) (t34 : Int) (t35 : Int) (m1_0 : Int) (m1_1 : Int) (m1_2 : List Int) (K : KT ρ) : f64i N f64c66 f64p66 (f64s16 num3 den4 out5 piece7 common16 g19 t34 t35 m1_0 m1_1 m1_2) (joinK (some f64l18) K) =
  impl_factors.Z66 N num3 den4 out5 piece7 common16 g19 t34 t35 m1_0 m1_1 m1_2 (fun num3 den4 out5 piece7 g19 t34 t35 m1_0 m1_1 m1_2 => K .nrm (f64s18 num3 den4 out5 piece7 g19 t34 t35 m1_0 m1_1 m1_2)) :=
  viaSeq (fun k => impl_factors.Z67 N num3 den4 out5 piece7 common16 g19 t34 t35 m1_0 m1_1 m1_2 k) (by kernel_rfl) (by kernel_rfl) (f64t67 N num3 den4 out5 piece7 common16 g19 t34 t35 m1_0 m1_1 m1_2 (seqK (fun σ => f64i N f64c68 f64p68 σ (joinK (some f64l18) K)) (joinK (some f64l18) K))) (funext fun num3 => funext fun den4 => funext fun out5 => funext fun piece7 => funext fun common16 => funext fun g19 => funext fun t34 => funext fun t35 => funext fun t179 => funext fun t180 => funext fun m1_0 => funext fun m1_1 => funext fun m1_2 => f64t68 N num3 den4 out5 piece7 common16 g19 t34 t35 t179 t180 m1_0 m1_1 m1_2 K) (by kernel_rfl) (by kernel_rfl)
noncomputable def f64c72 := codeAt (bodyOf Try.f64) [1,1,1,0,1,0,0,1,1,0,0,1,1,1,1,1,1,1,1,1,0]
theorem f64t72 {ρ : Type} (N : Nat) (num3 : List Int) (den4 : List Int) (out5 : List Int) (piece7 : List Int) (g19 : Int) (t34 : Int) (t35 : Int) (m1_0 : Int) (m1_1 : Int) (m1_2 : List Int) (K : KT ρ) : f64i N f64c72 .n (f64s18 num3 den4 out5 piece7 g19 t34 t35 m1_0 m1_1 m1_2) (joinK (some f64l19) K) =
  impl_factors.Z72 N num3 den4 out5 piece7 g19 t34 t35 m1_0 m1_1 m1_2 (fun num3 den4 out5 t205 g19 t34 t35 t206 t207 m1_0 m1_1 m1_2 => K .nrm (f64s19 num3 den4 out5 t205 g19 t34 t35 t206 t207 m1_0 m1_1 m1_2)) := by kernel_rfl
noncomputable def f64c75 := codeAt (bodyOf Try.f64) [1,1,1,0,1,0,0,1,1,0,0,1,1,1,1,1,1,1,1,1,1,0,0]
theorem f64t75 {ρ : Type} (N : Nat) (num3 : List Int) (den4 : List Int) (out5 : List Int) (t205 : List Int) (g19 : Int) (t34 : Int) (t35 : Int) (t206 : Int) (t207 : Int) (m1_0 : Int) (m1_1 : Int) (m1_2 : List Int) (K : KT ρ) : f64i N f64c75 .n (f64s19 num3 den4 out5 t205 g19 t34 t35 t206 t207 m1_0 m1_1 m1_2) (joinK (some f64l19) K) =
  impl_factors.Z75 N num3 den4 out5 t205 g19 t34 t35 t206 t207 m1_0 m1_1 m1_2 (fun num3 den4 out5 t205 g19 t34 t35 t206 t207 m1_0 m1_1 m1_2 => K .nrm (f64s19 num3 den4 out5 t205 g19 t34 t35 t206 t207 m1_0 m1_1 m1_2)) (fun num3 den4 out5 t34 t35 m1_0 m1_1 m1_2 => K (.exit 10) (f64s4 num3 den4 out5 t34 t35 m1_0 m1_1 m1_2)) := by kernel_rfl
noncomputable def f64c74 := codeAt (bodyOf Try.f64) [1,1,1,0,1,0,0,1,1,0,0,1,1,1,1,1,1,1,1,1,1,0]
noncomputable def f64p74 : Plan := .mk none (some f64l19) .n .n
noncomputable abbrev f64w74 {ρ : Type} (N : Nat) (M : Nat) (σ : St) (K : KT ρ) : Option ρ := loopC (fun σ K => f64i N f64c75 .n σ K) f64l19 M σ K
theorem f64t74L {ρ : Type} (N : Nat) (K : KT ρ) : ∀ (M : Nat) (num3 : List Int) (den4 : List Int) (out5 : List Int) (t205 : List Int) (g19 : Int) (t34 : Int) (t35 : Int) (t206 : Int) (t207 : Int) (m1_0 : Int) (m1_1 : Int) (m1_2 : List Int), f64w74 N M (f64s19 num3 den4 out5 t205 g19 t34 t35 t206 t207 m1_0 m1_1 m1_2) K =
  impl_factors.Z74L N (fun num3 den4 out5 t34 t35 m1_0 m1_1 m1_2 => K (.exit 10) (f64s4 num3 den4 out5 t34 t35 m1_0 m1_1 m1_2)) M num3 den4 out5 t205 g19 t34 t35 t206 t207 m1_0 m1_1 m1_2
  | 0, _, _, _, _, _, _, _, _, _, _, _, _ => rfl
  | M + 1, num3, den4, out5, t205, g19, t34, t35, t206, t207, m1_0, m1_1, m1_2 => viaRound (fun k => impl_factors.Z75 N num3 den4 out5 t205 g19 t34 t35 t206 t207 m1_0 m1_1 m1_2 k (fun num3 den4 out5 t34 t35 m1_0 m1_1 m1_2 => K (.exit 10) (f64s4 num3 den4 out5 t34 t35 m1_0 m1_1 m1_2))) (f64t75 N num3 den4 out5 t205 g19 t34 t35 t206 t207 m1_0 m1_1 m1_2 (seqK (fun σ => f64w74 N M σ K) K)) (funext fun num3 => funext fun den4 => funext fun out5 => funext fun t205 => funext fun g19 => funext fun t34 => funext fun t35 => funext fun t206 => funext fun t207 => funext fun m1_0 => funext fun m1_1 => funext fun m1_2 => f64t74L N K M num3 den4 out5 t205 g19 t34 t35 t206 t207 m1_0 m1_1 m1_2) (by kernel_rfl) (by kernel_rfl)
theorem f64t74 {ρ : Type} (N : Nat) (num3 : List Int) (den4 : List Int) (out5 : List Int) (t205 : List Int) (g19 : Int) (t34 : Int) (t35 : Int) (t206 : Int) (t207 : Int) (m1_0 : Int) (m1_1 : Int) (m1_2 : List Int) (K : KT ρ) : f64i N f64c74 f64p74 (f64s19 num3 den4 out5 t205 g19 t34 t35 t206 t207 m1_0 m1_1 m1_2) (joinK (some f64l4) K) =
  impl_factors.Z74 N num3 den4 out5 t205 g19 t34 t35 t206 t207 m1_0 m1_1 m1_2 (fun num3 den4 out5 t34 t35 m1_0 m1_1 m1_2 => K (.exit 10) (f64s4 num3 den4 out5 t34 t35 m1_0 m1_1 m1_2)) :=
  viaLoop (by kernel_rfl) (by kernel_rfl) (σ' := f64s19 num3 den4 out5 t205 g19 t34 t35 t206 t207 m1_0 m1_1 m1_2) (by kernel_rfl) (f64t74L N (joinK (some f64l4) K) N num3 den4 out5 t205 g19 t34 t35 t206 t207 m1_0 m1_1 m1_2) (by kernel_rfl)
noncomputable def f64c73 := codeAt (bodyOf Try.f64) [1,1,1,0,1,0,0,1,1,0,0,1,1,1,1,1,1,1,1,1,1]
noncomputable def f64p73 : Plan := .mk (some f64l4) none f64p74 .n
theorem f64t73 {ρ : Type} (N : Nat) (num3 : List Int) (den4 : List Int) (out5 : List Int) (t205 : List Int) (g19 : Int) (t34 : Int) (t35 : Int) (t206 : Int) (t207 : Int) (m1_0 : Int) (m1_1 : Int) (m1_2 : List Int) (K : KT ρ) : f64i N f64c73 f64p73 (f64s19 num3 den4 out5 t205 g19 t34 t35 t206 t207 m1_0 m1_1 m1_2) (joinK (some f64l4) K) =
  impl_factors.Z73 N num3 den4 out5 t205 g19 t34 t35 t206 t207 m1_0 m1_1 m1_2 (fun num3 den4 out5 t34 t35 m1_0 m1_1 m1_2 => K .nrm (f64s4 num3 den4 out5 t34 t35 m1_0 m1_1 m1_2)) :=
  viaBlock (by kernel_rfl) (by kernel_rfl) (f64t74 N num3 den4 out5 t205 g19 t34 t35 t206 t207 m1_0 m1_1 m1_2 (blockK 10 (joinK (some f64l4) K))) (by kernel_rfl)
noncomputable def f64c71 := codeAt (bodyOf Try.f64) [1,1,1,0,1,0,0,1,1,0,0,1,1,1,1,1,1,1,1,1]
noncomputable def f64p71 : Plan := .mk (some f64l19) none .n f64p73
theorem f64t71 {ρ : Type} (N : Nat) (num3 : List Int) (den4 : List Int) (out5 : List Int) (piece7 : List Int) (g19 : Int) (t34 : Int) (t35 : Int) (m1_0 : Int) (m1_1 : Int) (m1_2 : List Int) (K : KT ρ) : f64i N f64c71 f64p71 (f64s18 num3 den4 out5 piece7 g19 t34 t35 m1_0 m1_1 m1_2) (joinK (some f64l4) K) =
  impl_factors.Z71 N num3 den4 out5 piece7 g19 t34 t35 m1_0 m1_1 m1_2 (fun num3 den4 out5 t34 t35 m1_0 m1_1 m1_2 => K .nrm (f64s4 num3 den4 out5 t34 t35 m1_0 m1_1 m1_2)) :=
  viaSeq (fun k => impl_factors.Z72 N num3 den4 out5 piece7 g19 t34 t35 m1_0 m1_1 m1_2 k) (by kernel_rfl) (by kernel_rfl) (f64t72 N num3 den4 out5 piece7 g19 t34 t35 m1_0 m1_1 m1_2 (seqK (fun σ => f64i N f64c73 f64p73 σ (joinK (some f64l4) K)) (joinK (some f64l4) K))) (funext fun num3 => funext fun den4 => funext fun out5 => funext fun t205 => funext fun g19 => funext fun t34 => funext fun t35 => funext fun t206 => funext fun t207 => funext fun m1_0 => funext fun m1_1 => funext fun m1_2 => f64t73 N num3 den4 out5 t205 g19 t34 t35 t206 t207 m1_0 m1_1 m1_2 K) (by kernel_rfl) (by kernel_rfl)
noncomputable def f64c65 := codeAt (bodyOf Try.f64) [1,1,1,0,1,0,0,1,1,0,0,1,1,1,1,1,1,1,1]
noncomputable def f64p65 : Plan := .mk (some f64l18) none f64p66 f64p71
theorem f64t65 {ρ : Type} (N : Nat) (num3 : List Int) (den4 : List Int) (out5 : List Int) (piece7 : List Int) (common16 : Int) (g19 : Int) (t34 : Int) (t35 : Int) (m1_0 : Int) (m1_1 : Int) (m1_2 : List Int) (K : KT ρ) : f64i N f64c65 f64p65 (f64s16 num3 den4 out5 piece7 common16 g19 t34 t35 m1_0 m1_1 m1_2) (joinK (some f64l4) K) =
  impl_factors.Z65 N num3 den4 out5 piece7 common16 g19 t34 t35 m1_0 m1_1 m1_2 (fun num3 den4 out5 t34 t35 m1_0 m1_1 m1_2 => K .nrm (f64s4 num3 den4 out5 t34 t35 m1_0 m1_1 m1_2)) :=
  viaSeq (fun k => impl_factors.Z66 N num3 den4 out5 piece7 common16 g19 t34 t35 m1_0 m1_1 m1_2 k) (by kernel_rfl) (by kernel_rfl) (f64t66 N num3 den4 out5 piece7 common16 g19 t34 t35 m1_0 m1_1 m1_2 (seqK (fun σ => f64i N f64c71 f64p71 σ (joinK (some f64l4) K)) (joinK (some f64l4) K))) (funext fun num3 => funext fun den4 => funext fun out5 => funext fun piece7 => funext fun g19 => funext fun t34 => funext fun t35 => funext fun m1_0 => funext fun m1_1 => funext fun m1_2 => f64t71 N num3 den4 out5 piece7 g19 t34 t35 m1_0 m1_1 m1_2 K) (by kernel_rfl) (by kernel_rfl)
noncomputable def f64c63 := codeAt (bodyOf Try.f64) [1,1,1,0,1,0,0,1,1,0,0,1,1,1,1,1,1,1]
noncomputable def f64p63 : Plan := .mk (some f64l16) none .n f64p65
theorem f64t63 {ρ : Type} (N : Nat) (num3 : List Int) (den4 : List Int) (out5 : List Int) (piece7 : List Int) (common16 : Int) (t34 : Int) (t35 : Int) (m1_0 : Int) (m1_1 : Int) (m1_2 : List Int) (K : KT ρ) : f64i N f64c63 f64p63 (f64s14 num3 den4 out5 piece7 common16 t34 t35 m1_0 m1_1 m1_2) (joinK (some f64l4) K) =
  impl_factors.Z63 N num3 den4 out5 piece7 common16 t34 t35 m1_0 m1_1 m1_2 (fun num3 den4 out5 t34 t35 m1_0 m1_1 m1_2 => K .nrm (f64s4 num3 den4 out5 t34 t35 m1_0 m1_1 m1_2)) :=
  viaSeq (fun k => impl_factors.Z64 N num3 den4 out5 piece7 common16 t34 t35 m1_0 m1_1 m1_2 k) (by kernel_rfl) (by kernel_rfl) (f64t64 N num3 den4 out5 piece7 common16 t34 t35 m1_0 m1_1 m1_2 (seqK (fun σ => f64i N f64c65 f64p65 σ (joinK (some f64l4) K)) (joinK (some f64l4) K))) (funext fun num3 => funext fun den4 => funext fun out5 => funext fun piece7 => funext fun common16 => funext fun g19 => funext fun t34 => funext fun t35 => funext fun m1_0 => funext fun m1_1 => funext fun m1_2 => f64t65 N num3 den4 out5 piece7 common16 g19 t34 t35 m1_0 m1_1 m1_2 K) (by kernel_rfl) (by kernel_rfl)
noncomputable def f64c57 := codeAt (bodyOf Try.f64) [1,1,1,0,1,0,0,1,1,0,0,1,1,1,1,1,1]
noncomputable def f64p57 : Plan := .mk (some f64l14) none f64p58 f64p63
theorem f64t57 {ρ : Type} (N : Nat) (num3 : List Int) (den4 : List Int) (out5 : List Int) (piece7 : List Int) (common16 : Int) (t34 : Int) (t35 : Int) (m1_0 : Int) (m1_1 : Int) (m1_2 : List Int) (K : KT ρ) : f64i N f64c57 f64p57 (f64s14 num3 den4 out5 piece7 common16 t34 t35 m1_0 m1_1 m1_2) (joinK (some f64l4) K) =
  impl_factors.Z57 N num3 den4 out5 piece7 common16 t34 t35 m1_0 m1_1 m1_2 (fun num3 den4 out5 t34 t35 m1_0 m1_1 m1_2 => K .nrm (f64s4 num3 den4 out5 t34 t35 m1_0 m1_1 m1_2)) :=
  viaSeq (fun k => impl_factors.Z58 N num3 den4 out5 piece7 common16 t34 t35 m1_0 m1_1 m1_2 k) (by kernel_rfl) (by kernel_rfl) (f64t58 N num3 den4 out5 piece7 common16 t34 t35 m1_0 m1_1 m1_2 (seqK (fun σ => f64i N f64c63 f64p63 σ (joinK (some f64l4) K)) (joinK (some f64l4) K))) (funext fun num3 => funext fun den4 => funext fun out5 => funext fun piece7 => funext fun common16 => funext fun t34 => funext fun t35 => funext fun m1_0 => funext fun m1_1 => funext fun m1_2 => f64t63 N num3 den4 out5 piece7 common16 t34 t35 m1_0 m1_1 m1_2 K) (by kernel_rfl) (by kernel_rfl)
noncomputable def f64c55 := codeAt (bodyOf Try.f64) [1,1,1,0,1,0,0,1,1,0,0,1,1,1,1,1]
noncomputable def f64p55 : Plan := .mk (some f64l14) none .n f64p57
theorem f64t55 {ρ : Type} (N : Nat) (num3 : List Int) (den4 : List Int) (out5 : List Int) (piece7 : List Int) (t34 : Int) (t35 : Int) (m1_0 : Int) (m1_1 : Int) (m1_2 : List Int) (K : KT ρ) : f64i N f64c55 f64p55 (f64s7 num3 den4 out5 piece7 t34 t35 m1_0 m1_1 m1_2) (joinK (some f64l4) K) =
  impl_factors.Z55 N num3 den4 out5 piece7 t34 t35 m1_0 m1_1 m1_2 (fun num3 den4 out5 t34 t35 m1_0 m1_1 m1_2 => K .nrm (f64s4 num3 den4 out5 t34 t35 m1_0 m1_1 m1_2)) :=
  viaSeq (fun k => impl_factors.Z56 N num3 den4 out5 piece7 t34 t35 m1_0 m1_1 m1_2 k) (by kernel_rfl) (by kernel_rfl) (f64t56 N num3 den4 out5 piece7 t34 t35 m1_0 m1_1 m1_2 (seqK (fun σ => f64i N f64c57 f64p57 σ (joinK (some f64l4) K)) (joinK (some f64l4) K))) (funext fun num3 => funext fun den4 => funext fun out5 => funext fun piece7 => funext fun common16 => funext fun t34 => funext fun t35 => funext fun m1_0 => funext fun m1_1 => funext fun m1_2 => f64t57 N num3 den4 out5 piece7 common16 t34 t35 m1_0 m1_1 m1_2 K) (by kernel_rfl) (by kernel_rfl)
noncomputable def f64c25 := codeAt (bodyOf Try.f64) [1,1,1,0,1,0,0,1,1,0,0,1,1,1,1]
noncomputable def f64p25 : Plan := .mk (some f64l7) none f64p26 f64p55
theorem f64t25 {ρ : Type} (N : Nat) (num3 : List Int) (den4 : List Int) (out5 : List Int) (piece7 : List Int) (t34 : Int) (t35 : Int) (m1_0 : Int) (m1_1 : Int) (m1_2 : List Int) (K : KT ρ) : f64i N f64c25 f64p25 (f64s7 num3 den4 out5 piece7 t34 t35 m1_0 m1_1 m1_2) (joinK (some f64l4) K) =
  impl_factors.Z25 N num3 den4 out5 piece7 t34 t35 m1_0 m1_1 m1_2 (fun num3 den4 out5 t34 t35 m1_0 m1_1 m1_2 => K .nrm (f64s4 num3 den4 out5 t34 t35 m1_0 m1_1 m1_2)) (fun t2 => K .ret (f64s21 t2)) :=
  viaSeq (fun k => impl_factors.Z26 N num3 den4 out5 piece7 t34 t35 m1_0 m1_1 m1_2 k (fun t2 => K .ret (f64s21 t2))) (by kernel_rfl) (by kernel_rfl) (f64t26 N num3 den4 out5 piece7 t34 t35 m1_0 m1_1 m1_2 (seqK (fun σ => f64i N f64c55 f64p55 σ (joinK (some f64l4) K)) (joinK (some f64l4) K))) (funext fun num3 => funext fun den4 => funext fun out5 => funext fun piece7 => funext fun t34 => funext fun t35 => funext fun m1_0 => funext fun m1_1 => funext fun m1_2 => f64t55 N num3 den4 out5 piece7 t34 t35 m1_0 m1_1 m1_2 K) (by kernel_rfl) (by kernel_rfl)
noncomputable def f64c23 := codeAt (bodyOf Try.f64) [1,1,1,0,1,0,0,1,1,0,0,1,1,1]
noncomputable def f64p23 : Plan := .mk (some f64l7) none .n f64p25
theorem f64t23 {ρ : Type} (N : Nat) (num3 : List Int) (den4 : List Int) (out5 : List Int) (s6 : Int) (t34 : Int) (t35 : Int) (m1_0 : Int) (m1_1 : Int) (m1_2 : List Int) (K : KT ρ) : f64i N f64c23 f64p23 (f64s6 num3 den4 out5 s6 t34 t35 m1_0 m1_1 m1_2) (joinK (some f64l4) K) =
  impl_factors.Z23 N num3 den4 out5 s6 t34 t35 m1_0 m1_1 m1_2 (fun num3 den4 out5 t34 t35 m1_0 m1_1 m1_2 => K .nrm (f64s4 num3 den4 out5 t34 t35 m1_0 m1_1 m1_2)) (fun t2 => K .ret (f64s21 t2)) :=
  viaSeq (fun k => impl_factors.Z24 N num3 den4 out5 s6 t34 t35 m1_0 m1_1 m1_2 k) (by kernel_rfl) (by kernel_rfl) (f64t24 N num3 den4 out5 s6 t34 t35 m1_0 m1_1 m1_2 (seqK (fun σ => f64i N f64c25 f64p25 σ (joinK (some f64l4) K)) (joinK (some f64l4) K))) (funext fun num3 => funext fun den4 => funext fun out5 => funext fun piece7 => funext fun t34 => funext fun t35 => funext fun m1_0 => funext fun m1_1 => funext fun m1_2 => f64t25 N num3 den4 out5 piece7 t34 t35 m1_0 m1_1 m1_2 K) (by kernel_rfl) (by kernel_rfl)
noncomputable def f64c21 := codeAt (bodyOf Try.f64) [1,1,1,0,1,0,0,1,1,0,0,1,1]
noncomputable def f64p21 : Plan := .mk (some f64l6) none .n f64p23
theorem f64t21 {ρ : Type} (N : Nat) (num3 : List Int) (den4 : List Int) (out5 : List Int) (s6 : Int) (t34 : Int) (t35 : Int) (m1_0 : Int) (m1_1 : Int) (m1_2 : List Int) (K : KT ρ) : f64i N f64c21 f64p21 (f64s6 num3 den4 out5 s6 t34 t35 m1_0 m1_1 m1_2) (joinK (some f64l4) K) =
  impl_factors.Z21 N num3 den4 out5 s6 t34 t35 m1_0 m1_1 m1_2 (fun num3 den4 out5 t34 t35 m1_0 m1_1 m1_2 => K .nrm (f64s4 num3 den4 out5 t34 t35 m1_0 m1_1 m1_2)) (fun t2 => K .ret (f64s21 t2)) :=
  viaSeq (fun k => impl_factors.Z22 N num3 den4 out5 s6 t34 t35 m1_0 m1_1 m1_2 k) (by kernel_rfl) (by kernel_rfl) (f64t22 N num3 den4 out5 s6 t34 t35 m1_0 m1_1 m1_2 (seqK (fun σ => f64i N f64c23 f64p23 σ (joinK (some f64l4) K)) (joinK (some f64l4) K))) (funext fun num3 => funext fun den4 => funext fun out5 => funext fun s6 => funext fun t34 => funext fun t35 => funext fun m1_0 => funext fun m1_1 => funext fun m1_2 => f64t23 N num3 den4 out5 s6 t34 t35 m1_0 m1_1 m1_2 K) (by kernel_rfl) (by kernel_rfl)
noncomputable def f64c19 := codeAt (bodyOf Try.f64) [1,1,1,0,1,0,0,1,1,0,0,1]
noncomputable def f64p19 : Plan := .mk (some f64l6) none .n f64p21
theorem f64t19 {ρ : Type} (N : Nat) (num3 : List Int) (den4 : List Int) (out5 : List Int) (s6 : Int) (t34 : Int) (t35 : Int) (m1_0 : Int) (m1_1 : Int) (m1_2 : List Int) (K : KT ρ) : f64i N f64c19 f64p19 (f64s6 num3 den4 out5 s6 t34 t35 m1_0 m1_1 m1_2) (joinK (some f64l4) K) =
  impl_factors.Z19 N num3 den4 out5 s6 t34 t35 m1_0 m1_1 m1_2 (fun num3 den4 out5 t34 t35 m1_0 m1_1 m1_2 => K .nrm (f64s4 num3 den4 out5 t34 t35 m1_0 m1_1 m1_2)) (fun num3 den4 out5 t34 t35 m1_0 m1_1 m1_2 => K (.exit 1) (f64s4 num3 den4 out5 t34 t35 m1_0 m1_1 m1_2)) (fun t2 => K .ret (f64s21 t2)) :=
  viaSeq (fun k => impl_factors.Z20 N num3 den4 out5 s6 t34 t35 m1_0 m1_1 m1_2 k (fun num3 den4 out5 t34 t35 m1_0 m1_1 m1_2 => K (.exit 1) (f64s4 num3 den4 out5 t34 t35 m1_0 m1_1 m1_2))) (by kernel_rfl) (by kernel_rfl) (f64t20 N num3 den4 out5 s6 t34 t35 m1_0 m1_1 m1_2 (seqK (fun σ => f64i N f64c21 f64p21 σ (joinK (some f64l4) K)) (joinK (some f64l4) K))) (funext fun num3 => funext fun den4 => funext fun out5 => funext fun s6 => funext fun t34 => funext fun t35 => funext fun m1_0 => funext fun m1_1 => funext fun m1_2 => f64t21 N num3 den4 out5 s6 t34 t35 m1_0 m1_1 m1_2 K) (by kernel_rfl) (by kernel_rfl)
noncomputable def f64c17 := codeAt (bodyOf Try.f64) [1,1,1,0,1,0,0,1,1,0,0]
noncomputable def f64p17 : Plan := .mk (some f64l6) none .n f64p19
theorem f64t17 {ρ : Type} (N : Nat) (num3 : List Int) (den4 : List Int) (out5 : List Int) (t34 : Int) (t35 : Int) (m1_0 : Int) (m1_1 : Int) (m1_2 : List Int) (K : KT ρ) : f64i N f64c17 f64p17 (f64s4 num3 den4 out5 t34 t35 m1_0 m1_1 m1_2) (joinK (some f64l4) K) =
  impl_factors.Z17 N num3 den4 out5 t34 t35 m1_0 m1_1 m1_2 (fun num3 den4 out5 t34 t35 m1_0 m1_1 m1_2 => K .nrm (f64s4 num3 den4 out5 t34 t35 m1_0 m1_1 m1_2)) (fun num3 den4 out5 t34 t35 m1_0 m1_1 m1_2 => K (.exit 1) (f64s4 num3 den4 out5 t34 t35 m1_0 m1_1 m1_2)) (fun t2 => K .ret (f64s21 t2)) :=
  viaSeq (fun k => impl_factors.Z18 N num3 den4 out5 t34 t35 m1_0 m1_1 m1_2 k) (by kernel_rfl) (by kernel_rfl) (f64t18 N num3 den4 out5 t34 t35 m1_0 m1_1 m1_2 (seqK (fun σ => f64i N f64c19 f64p19 σ (joinK (some f64l4) K)) (joinK (some f64l4) K))) (funext fun num3 => funext fun den4 => funext fun out5 => funext fun s6 => funext fun t34 => funext fun t35 => funext fun m1_0 => funext fun m1_1 => funext fun m1_2 => f64t19 N num3 den4 out5 s6 t34 t35 m1_0 m1_1 m1_2 K) (by kernel_rfl) (by kernel_rfl)
noncomputable def f64c16 := codeAt (bodyOf Try.f64) [1,1,1,0,1,0,0,1,1,0]
noncomputable def f64p16 : Plan := .mk (some f64l4) none f64p17 .n
theorem f64t16 {ρ : Type} (N : Nat) (num3 : List Int) (den4 : List Int) (out5 : List Int) (t34 : Int) (t35 : Int) (m1_0 : Int) (m1_1 : Int) (m1_2 : List Int) (K : KT ρ) : f64i N f64c16 f64p16 (f64s4 num3 den4 out5 t34 t35 m1_0 m1_1 m1_2) (joinK (some f64l4) K) =
  impl_factors.Z16 N num3 den4 out5 t34 t35 m1_0 m1_1 m1_2 (fun num3 den4 out5 t34 t35 m1_0 m1_1 m1_2 => K .nrm (f64s4 num3 den4 out5 t34 t35 m1_0 m1_1 m1_2)) (fun t2 => K .ret (f64s21 t2)) :=
  viaBlock (by kernel_rfl) (by kernel_rfl) (f64t17 N num3 den4 out5 t34 t35 m1_0 m1_1 m1_2 (blockK 1 (joinK (some f64l4) K))) (by kernel_rfl)
noncomputable def f64c76 := codeAt (bodyOf Try.f64) [1,1,1,0,1,0,0,1,1,1]
theorem f64t76 {ρ : Type} (N : Nat) (num3 : List Int) (den4 : List Int) (out5 : List Int) (t34 : Int) (t35 : Int) (m1_0 : Int) (m1_1 : Int) (m1_2 : List Int) (K : KT ρ) : f64i N f64c76 .n (f64s4 num3 den4 out5 t34 t35 m1_0 m1_1 m1_2) (joinK (some f64l4) K) =
  impl_factors.Z76 N num3 den4 out5 t34 t35 m1_0 m1_1 m1_2 (fun num3 den4 out5 t34 t35 m1_0 m1_1 m1_2 => K .nrm (f64s4 num3 den4 out5 t34 t35 m1_0 m1_1 m1_2)) := by kernel_rfl
noncomputable def f64c15 := codeAt (bodyOf Try.f64) [1,1,1,0,1,0,0,1,1]
noncomputable def f64p15 : Plan := .mk (some f64l4) none f64p16 .n
theorem f64t15 {ρ : Type} (N : Nat) (num3 : List Int) (den4 : List Int) (out5 : List Int) (t34 : Int) (t35 : Int) (m1_0 : Int) (m1_1 : Int) (m1_2 : List Int) (K : KT ρ) : f64i N f64c15 f64p15 (f64s4 num3 den4 out5 t34 t35 m1_0 m1_1 m1_2) (joinK (some f64l4) K) =
  impl_factors.Z15 N num3 den4 out5 t34 t35 m1_0 m1_1 m1_2 (fun num3 den4 out5 t34 t35 m1_0 m1_1 m1_2 => K .nrm (f64s4 num3 den4 out5 t34 t35 m1_0 m1_1 m1_2)) (fun t2 => K .ret (f64s21 t2)) :=
  viaSeq (fun k => impl_factors.Z16 N num3 den4 out5 t34 t35 m1_0 m1_1 m1_2 k (fun t2 => K .ret (f64s21 t2))) (by kernel_rfl) (by kernel_rfl) (f64t16 N num3 den4 out5 t34 t35 m1_0 m1_1 m1_2 (seqK (fun σ => f64i N f64c76 .n σ (joinK (some f64l4) K)) (joinK (some f64l4) K))) (funext fun num3 => funext fun den4 => funext fun out5 => funext fun t34 => funext fun t35 => funext fun m1_0 => funext fun m1_1 => funext fun m1_2 => f64t76 N num3 den4 out5 t34 t35 m1_0 m1_1 m1_2 K) (by kernel_rfl) (by kernel_rfl)
noncomputable def f64c13 := codeAt (bodyOf Try.f64) [1,1,1,0,1,0,0,1]
noncomputable def f64p13 : Plan := .mk (some f64l4) none .n f64p15
theorem f64t13 {ρ : Type} (N : Nat) (num3 : List Int) (den4 : List Int) (out5 : List Int) (t34 : Int) (t35 : Int) (t36 : Bool) (m1_0 : Int) (m1_1 : Int) (m1_2 : List Int) (K : KT ρ) : f64i N f64c13 f64p13 (f64s5 num3 den4 out5 t34 t35 t36 m1_0 m1_1 m1_2) (joinK (some f64l4) K) =
  impl_factors.Z13 N num3 den4 out5 t34 t35 t36 m1_0 m1_1 m1_2 (fun num3 den4 out5 t34 t35 m1_0 m1_1 m1_2 => K .nrm (f64s4 num3 den4 out5 t34 t35 m1_0 m1_1 m1_2)) (fun out5 => K (.exit 0) (f64s20 out5)) (fun t2 => K .ret (f64s21 t2)) :=
  viaSeq (fun k => impl_factors.Z14 N num3 den4 out5 t34 t35 t36 m1_0 m1_1 m1_2 k (fun out5 => K (.exit 0) (f64s20 out5))) (by kernel_rfl) (by kernel_rfl) (f64t14 N num3 den4 out5 t34 t35 t36 m1_0 m1_1 m1_2 (seqK (fun σ => f64i N f64c15 f64p15 σ (joinK (some f64l4) K)) (joinK (some f64l4) K))) (funext fun num3 => funext fun den4 => funext fun out5 => funext fun t34 => funext fun t35 => funext fun m1_0 => funext fun m1_1 => funext fun m1_2 => f64t15 N num3 den4 out5 t34 t35 m1_0 m1_1 m1_2 K) (by kernel_rfl) (by kernel_rfl)
noncomputable def f64c11 := codeAt (bodyOf Try.f64) [1,1,1,0,1,0,0]
noncomputable def f64p11 : Plan := .mk (some f64l5) none .n f64p13
theorem f64t11 {ρ : Type} (N : Nat) (num3 : List Int) (den4 : List Int) (out5 : List Int) (t34 : Int) (t35 : Int) (m1_0 : Int) (m1_1 : Int) (m1_2 : List Int) (K : KT ρ) : f64i N f64c11 f64p11 (f64s4 num3 den4 out5 t34 t35 m1_0 m1_1 m1_2) (joinK (some f64l4) K) =
  impl_factors.Z11 N num3 den4 out5 t34 t35 m1_0 m1_1 m1_2 (fun num3 den4 out5 t34 t35 m1_0 m1_1 m1_2 => K .nrm (f64s4 num3 den4 out5 t34 t35 m1_0 m1_1 m1_2)) (fun out5 => K (.exit 0) (f64s20 out5)) (fun t2 => K .ret (f64s21 t2)) :=
  viaSeq (fun k => impl_factors.Z12 N num3 den4 out5 t34 t35 m1_0 m1_1 m1_2 k) (by kernel_rfl) (by kernel_rfl) (f64t12 N num3 den4 out5 t34 t35 m1_0 m1_1 m1_2 (seqK (fun σ => f64i N f64c13 f64p13 σ (joinK (some f64l4) K)) (joinK (some f64l4) K))) (funext fun num3 => funext fun den4 => funext fun out5 => funext fun t34 => funext fun t35 => funext fun t36 => funext fun m1_0 => funext fun m1_1 => funext fun m1_2 => f64t13 N num3 den4 out5 t34 t35 t36 m1_0 m1_1 m1_2 K) (by kernel_rfl) (by kernel_rfl)
noncomputable def f64c10 := codeAt (bodyOf Try.f64) [1,1,1,0,1,0]
noncomputable def f64p10 : Plan := .mk none (some f64l4) f64p11 .n
noncomputable abbrev f64w10 {ρ : Type} (N : Nat) (M : Nat) (σ : St) (K : KT ρ) : Option ρ := loopC (fun σ K => f64i N f64c11 f64p11 σ K) f64l4 M σ K
theorem f64t10L {ρ : Type} (N : Nat) (K : KT ρ) : ∀ (M : Nat) (num3 : List Int) (den4 : List Int) (out5 : List Int) (t34 : Int) (t35 : Int) (m1_0 : Int) (m1_1 : Int) (m1_2 : List Int), f64w10 N M (f64s4 num3 den4 out5 t34 t35 m1_0 m1_1 m1_2) K =
  impl_factors.Z10L N (fun out5 => K (.exit 0) (f64s20 out5)) (fun t2 => K .ret (f64s21 t2)) M num3 den4 out5 t34 t35 m1_0 m1_1 m1_2
  | 0, _, _, _, _, _, _, _, _ => rfl
  | M + 1, num3, den4, out5, t34, t35, m1_0, m1_1, m1_2 => viaRound (fun k => impl_factors.Z11 N num3 den4 out5 t34 t35 m1_0 m1_1 m1_2 k (fun out5 => K (.exit 0) (f64s20 out5)) (fun t2 => K .ret (f64s21 t2))) (f64t11 N num3 den4 out5 t34 t35 m1_0 m1_1 m1_2 (seqK (fun σ => f64w10 N M σ K) K)) (funext fun num3 => funext fun den4 => funext fun out5 => funext fun t34 => funext fun t35 => funext fun m1_0 => funext fun m1_1 => funext fun m1_2 => f64t10L N K M num3 den4 out5 t34 t35 m1_0 m1_1 m1_2) (by kernel_rfl) (by kernel_rfl)
theorem f64t10 {ρ : Type} (N : Nat) (num3 : List Int) (den4 : List Int) (out5 : List Int) (t34 : Int) (t35 : Int) (m1_0 : Int) (m1_1 : Int) (m1_2 : List Int) (K : KT ρ) : f64i N f64c10 f64p10 (f64s4 num3 den4 out5 t34 t35 m1_0 m1_1 m1_2) (joinK (some f64l20) K) =
  impl_factors.Z10 N num3 den4 out5 t34 t35 m1_0 m1_1 m1_2 (fun out5 => K (.exit 0) (f64s20 out5)) (fun t2 => K .ret (f64s21 t2)) :=
  viaLoop (by kernel_rfl) (by kernel_rfl) (σ' := f64s4 num3 den4 out5 t34 t35 m1_0 m1_1 m1_2) (by kernel_rfl) (f64t10L N (joinK (some f64l20) K) N num3 den4 out5 t34 t35 m1_0 m1_1 m1_2) (by kernel_rfl)
noncomputable def f64c9 := codeAt (bodyOf Try.f64) [1,1,1,0,1]
noncomputable def f64p9 : Plan := .mk (some f64l20) none f64p10 .n
theorem f64t9 {ρ : Type} (N : Nat) (num3 : List Int) (den4 : List Int) (out5 : List Int) (t34 : Int) (t35 : Int) (m1_0 : Int) (m1_1 : Int) (m1_2 : List Int) (K : KT ρ) : f64i N f64c9 f64p9 (f64s4 num3 den4 out5 t34 t35 m1_0 m1_1 m1_2) (joinK (some f64l20) K) =
  impl_factors.Z9 N num3 den4 out5 t34 t35 m1_0 m1_1 m1_2 (fun out5 => K .nrm (f64s20 out5)) (fun t2 => K .ret (f64s21 t2)) :=
  viaBlock (by kernel_rfl) (by kernel_rfl) (f64t10 N num3 den4 out5 t34 t35 m1_0 m1_1 m1_2 (blockK 0 (joinK (some f64l20) K))) (by kernel_rfl)
noncomputable def f64c7 := codeAt (bodyOf Try.f64) [1,1,1,0]
noncomputable def f64p7 : Plan := .mk (some f64l4) none .n f64p9
theorem f64t7 {ρ : Type} (N : Nat) (num3 : List Int) (den4 : List Int) (out5 : List Int) (m1_0 : Int) (m1_1 : Int) (m1_2 : List Int) (K : KT ρ) : f64i N f64c7 f64p7 (f64s3 num3 den4 out5 m1_0 m1_1 m1_2) (joinK (some f64l20) K) =
  impl_factors.Z7 N num3 den4 out5 m1_0 m1_1 m1_2 (fun out5 => K .nrm (f64s20 out5)) (fun t2 => K .ret (f64s21 t2)) :=
  viaSeq (fun k => impl_factors.Z8 N num3 den4 out5 m1_0 m1_1 m1_2 k) (by kernel_rfl) (by kernel_rfl) (f64t8 N num3 den4 out5 m1_0 m1_1 m1_2 (seqK (fun σ => f64i N f64c9 f64p9 σ (joinK (some f64l20) K)) (joinK (some f64l20) K))) (funext fun num3 => funext fun den4 => funext fun out5 => funext fun t34 => funext fun t35 => funext fun m1_0 => funext fun m1_1 => funext fun m1_2 => f64t9 N num3 den4 out5 t34 t35 m1_0 m1_1 m1_2 K) (by kernel_rfl) (by kernel_rfl)
noncomputable def f64c77 := codeAt (bodyOf Try.f64) [1,1,1,1]
theorem f64t77 {ρ : Type} (N : Nat) (out5 : List Int) (K : KT ρ) : f64i N f64c77 .n (f64s20 out5) (joinK (some f64lE) K) =
  impl_factors.Z77 N out5 (fun t2 => K .ret (f64s21 t2)) := by kernel_rfl
noncomputable def f64c6 := codeAt (bodyOf Try.f64) [1,1,1]
noncomputable def f64p6 : Plan := .mk (some f64l20) none f64p7 .n
theorem f64t6 {ρ : Type} (N : Nat) (num3 : List Int) (den4 : List Int) (out5 : List Int) (m1_0 : Int) (m1_1 : Int) (m1_2 : List Int) (K : KT ρ) : f64i N f64c6 f64p6 (f64s3 num3 den4 out5 m1_0 m1_1 m1_2) (joinK (some f64lE) K) =
  impl_factors.Z6 N num3 den4 out5 m1_0 m1_1 m1_2 (fun t2 => K .ret (f64s21 t2)) :=
  viaSeq (fun k => impl_factors.Z7 N num3 den4 out5 m1_0 m1_1 m1_2 k (fun t2 => K .ret (f64s21 t2))) (by kernel_rfl) (by kernel_rfl) (f64t7 N num3 den4 out5 m1_0 m1_1 m1_2 (seqK (fun σ => f64i N f64c77 .n σ (joinK (some f64lE) K)) (joinK (some f64lE) K))) (funext fun out5 => f64t77 N out5 K) (by kernel_rfl) (by kernel_rfl)
noncomputable def f64c4 := codeAt (bodyOf Try.f64) [1,1]
noncomputable def f64p4 : Plan := .mk (some f64l3) none .n f64p6
theorem f64t4 {ρ : Type} (N : Nat) (num3 : List Int) (den4 : List Int) (m1_0 : Int) (m1_1 : Int) (m1_2 : List Int) (K : KT ρ) : f64i N f64c4 f64p4 (f64s2 num3 den4 m1_0 m1_1 m1_2) (joinK (some f64lE) K) =
  impl_factors.Z4 N num3 den4 m1_0 m1_1 m1_2 (fun t2 => K .ret (f64s21 t2)) :=
  viaSeq (fun k => impl_factors.Z5 N num3 den4 m1_0 m1_1 m1_2 k) (by kernel_rfl) (by kernel_rfl) (f64t5 N num3 den4 m1_0 m1_1 m1_2 (seqK (fun σ => f64i N f64c6 f64p6 σ (joinK (some f64lE) K)) (joinK (some f64lE) K))) (funext fun num3 => funext fun den4 => funext fun out5 => funext fun m1_0 => funext fun m1_1 => funext fun m1_2 => f64t6 N num3 den4 out5 m1_0 m1_1 m1_2 K) (by kernel_rfl) (by kernel_rfl)
noncomputable def f64c2 := codeAt (bodyOf Try.f64) [1]
noncomputable def f64p2 : Plan := .mk (some f64l2) none .n f64p4
theorem f64t2 {ρ : Type} (N : Nat) (m1_0 : Int) (m1_1 : Int) (m1_2 : List Int) (K : KT ρ) : f64i N f64c2 f64p2 (f64s1 m1_0 m1_1 m1_2) (joinK (some f64lE) K) =
  impl_factors.Z2 N m1_0 m1_1 m1_2 (fun t2 => K .ret (f64s21 t2)) :=
  viaSeq (fun k => impl_factors.Z3 N m1_0 m1_1 m1_2 k) (by kernel_rfl) (by kernel_rfl) (f64t3 N m1_0 m1_1 m1_2 (seqK (fun σ => f64i N f64c4 f64p4 σ (joinK (some f64lE) K)) (joinK (some f64lE) K))) (funext fun num3 => funext fun den4 => funext fun m1_0 => funext fun m1_1 => funext fun m1_2 => f64t4 N num3 den4 m1_0 m1_1 m1_2 K) (by kernel_rfl) (by kernel_rfl)
noncomputable def f64c0 := codeAt (bodyOf Try.f64) []
noncomputable def f64p0 : Plan := .mk (some f64l1) none .n f64p2
theorem f64t0 {ρ : Type} (N : Nat) (m0 : Int × Int × List Int) (K : KT ρ) : f64i N f64c0 f64p0 (f64s0 m0) (joinK (some f64lE) K) =
  impl_factors.Z0 N m0 (fun t2 => K .ret (f64s21 t2)) :=
  viaSeq (fun k => impl_factors.Z1 N m0 k) (by kernel_rfl) (by kernel_rfl) (f64t1 N m0 (seqK (fun σ => f64i N f64c2 f64p2 σ (joinK (some f64lE) K)) (joinK (some f64lE) K))) (funext fun m1_0 => funext fun m1_1 => funext fun m1_2 => f64t2 N m1_0 m1_1 m1_2 K) (by kernel_rfl) (by kernel_rfl)
theorem f64m (N : Nat) (m0 : Int × Int × List Int) : f64i N f64c0 f64p0 (f64s0 m0) (joinK (some f64lE) (finK tab f64sig Try.f64.results.toList)) = impl_factors.Z0 N m0 (fun t2 => some ((), (t2, ()))) :=
  (f64t0 N m0 (finK tab f64sig Try.f64.results.toList)).trans (by kernel_rfl)
theorem f64ok (h : impl_factors.Spec) : EntryOk Try.prog 64 e64 :=
  entry_of_code (sig := f64sig) (c := f64c0) (pl := f64p0) (je := (some f64lE)) (B := f64B) Try.func64 (by kernel_rfl) (by kernel_rfl) (by kernel_rfl) tabOk f64GOk (by kernel_rfl) (by kernel_rfl) (by kernel_rfl) (by kernel_rfl) fun X hb hp => by
    obtain ⟨m0, _⟩ := X
    obtain ⟨N, h⟩ := h m0 hb.1 hp
    exact ⟨N, (f64m N m0).trans (h N (Nat.le_refl N))⟩
theorem e64ok : EntryOk Try.prog 64 e64 := f64ok impl_factors.ok
end Go.Fw
set_option linter.unusedVariables false
set_option linter.unusedSimpArgs false
set_option maxRecDepth 100000
namespace Go.Fw
open Go.Proofs
/-! ### loop.example/g03115/impl.MatrixOk -/
noncomputable def f61sig : Sig := ⟨[⟨.pair (.int .i64) (.pair (.int .i64) (.sl 3 (.int .i64))), true, false⟩], [⟨.bool, false, false⟩]⟩
noncomputable def e61 : Entry := ⟨f61sig, none, fun X => ((), ((impl_MatrixOk.g X.1), ()))⟩
noncomputable def f61G : Nat → Option Entry := addG (addG (fun _ => none) 63 e63) 64 e64
theorem f61GOk : GOk Try.prog f61G := ((GOk.nil).add e63ok (by kernel_rfl)).add e64ok (by kernel_rfl)
noncomputable def f61lE : Clean := ⟨[], [], [], [], []⟩
noncomputable def f61s0 (m0 : Int × Int × List Int) : St := initSt f61sig.ps (m0, ())
noncomputable def f61s1 (t2 : Bool) : St := stOf [(2, .c (.bool t2))] [] []
noncomputable def f61l1 : Clean := ⟨[2], [], [], [], []⟩
noncomputable def f61B : Nat → Option Clean := lookL [(1000000, f61l1)]
noncomputable abbrev f61i {ρ : Type} (N : Nat) (c : Code) (p : Plan) (σ : St) (K : KT ρ) : Option ρ := iCode f61G tab f61B N c p σ K
noncomputable def f61c0 := codeAt (bodyOf Try.f61) []
theorem f61t0 {ρ : Type} (N : Nat) (m0 : Int × Int × List Int) (K : KT ρ) : f61i N f61c0 .n (f61s0 m0) (joinK (some f61lE) K) =
  impl_MatrixOk.Z0 N m0 (fun t2 => K .ret (f61s1 t2)) := by kernel_rfl
theorem f61m (N : Nat) (m0 : Int × Int × List Int) : f61i N f61c0 .n (f61s0 m0) (joinK (some f61lE) (finK tab f61sig Try.f61.results.toList)) = impl_MatrixOk.Z0 N m0 (fun t2 => some ((), (t2, ()))) :=
  (f61t0 N m0 (finK tab f61sig Try.f61.results.toList)).trans (by kernel_rfl)
theorem f61ok (h : impl_MatrixOk.Spec) : EntryOk Try.prog 61 e61 :=
  entry_of_code (sig := f61sig) (c := f61c0) (pl := .n) (je := (some f61lE)) (B := f61B) Try.func61 (by kernel_rfl) (by kernel_rfl) (by kernel_rfl) tabOk f61GOk (by kernel_rfl) (by kernel_rfl) (by kernel_rfl) (by kernel_rfl) fun X hb hp => by
    obtain ⟨m0, _⟩ := X
    obtain ⟨N, h⟩ := h m0 hb.1
    exact ⟨N, (f61m N m0).trans (h N (Nat.le_refl N))⟩
theorem e61ok : EntryOk Try.prog 61 e61 := f61ok impl_MatrixOk.ok
end Go.Fw
set_option linter.unusedVariables false
set_option linter.unusedSimpArgs false
set_option maxRecDepth 100000
namespace Go.Fw
open Go.Proofs
/-! ### slices.Index[[]int,int] -/
noncomputable def f116sig : Sig := ⟨[⟨.sl 3 (.int .i64), false, false⟩, ⟨.int .i64, false, false⟩], [⟨.int .i64, false, false⟩]⟩
noncomputable def e116 : Entry := ⟨f116sig, none, fun X => ((), ((slices_Index_int_int.g X.1 X.2.1), ()))⟩
noncomputable def f116G : Nat → Option Entry := (fun _ => none)
theorem f116GOk : GOk Try.prog f116G := GOk.nil
noncomputable def f116lE : Clean := ⟨[], [], [], [], []⟩
noncomputable def f116s0 (s0 : List Int) (v1 : Int) : St := initSt f116sig.ps (s0, (v1, ()))
noncomputable def f116s1 (s0 : List Int) (v1 : Int) : St := stOf [(0, .c (.sn 3 (.int .i64) s0 none)), (1, .c (.int .i64 v1))] [] []
noncomputable def f116l1 : Clean := ⟨[0, 1], [], [], [], []⟩
noncomputable def f116s2 (s0 : List Int) (v1 : Int) (t7 : Int) (t8 : Int) : St := stOf [(0, .c (.sn 3 (.int .i64) s0 none)), (1, .c (.int .i64 v1)), (7, .c (.int .i64 t7)), (8, .c (.int .i64 t8))] [] []
noncomputable def f116l2 : Clean := ⟨[0, 1, 7, 8], [], [], [], []⟩
noncomputable def f116s3  : St := stOf [] [] []
noncomputable def f116l3 : Clean := ⟨[], [], [], [], []⟩
noncomputable def f116s4 (t4 : Int) : St := stOf [(4, .c (.int .i64 t4))] [] []
noncomputable def f116l4 : Clean := ⟨[4], [], [], [], []⟩
noncomputable def f116B : Nat → Option Clean := lookL [(0, f116l3), (1000000, f116l4)]
noncomputable abbrev f116i {ρ : Type} (N : Nat) (c : Code) (p : Plan) (σ : St) (K : KT ρ) : Option ρ := iCode f116G tab f116B N c p σ K
noncomputable def f116c1 := codeAt (bodyOf Try.f116) [0]
theorem f116t1 {ρ : Type} (N : Nat) (s0 : List Int) (v1 : Int) (K : KT ρ) : f116i N f116c1 .n (f116s0 s0 v1) (joinK (some f116l1) K) =
  slices_Index_int_int.Z1 N s0 v1 (fun s0 v1 => K .nrm (f116s1 s0 v1)) := by kernel_rfl
noncomputable def f116c4 := codeAt (bodyOf Try.f116) [1,0,0]
theorem f116t4 {ρ : Type} (N : Nat) (s0 : List Int) (v1 : Int) (K : KT ρ) : f116i N f116c4 .n (f116s1 s0 v1) (joinK (some f116l2) K) =
  slices_Index_int_int.Z4 N s0 v1 (fun s0 v1 t7 t8 => K .nrm (f116s2 s0 v1 t7 t8)) := by kernel_rfl
noncomputable def f116c7 := codeAt (bodyOf Try.f116) [1,0,1,0,0]
theorem f116t7 {ρ : Type} (N : Nat) (s0 : List Int) (v1 : Int) (t7 : Int) (t8 : Int) (K : KT ρ) : f116i N f116c7 .n (f116s2 s0 v1 t7 t8) (joinK (some f116l2) K) =
  slices_Index_int_int.Z7 N s0 v1 t7 t8 (fun s0 v1 t7 t8 => K .nrm (f116s2 s0 v1 t7 t8)) (K (.exit 0) f116s3) (fun t4 => K .ret (f116s4 t4)) := by kernel_rfl
noncomputable def f116c6 := codeAt (bodyOf Try.f116) [1,0,1,0]
noncomputable def f116p6 : Plan := .mk none (some f116l2) .n .n
noncomputable abbrev f116w6 {ρ : Type} (N : Nat) (M : Nat) (σ : St) (K : KT ρ) : Option ρ := loopC (fun σ K => f116i N f116c7 .n σ K) f116l2 M σ K
theorem f116t6L {ρ : Type} (N : Nat) (K : KT ρ) : ∀ (M : Nat) (s0 : List Int) (v1 : Int) (t7 : Int) (t8 : Int), f116w6 N M (f116s2 s0 v1 t7 t8) K =
  slices_Index_int_int.Z6L N (K (.exit 0) f116s3) (fun t4 => K .ret (f116s4 t4)) M s0 v1 t7 t8
  | 0, _, _, _, _ => rfl
  | M + 1, s0, v1, t7, t8 => viaRound (fun k => slices_Index_int_int.Z7 N s0 v1 t7 t8 k (K (.exit 0) f116s3) (fun t4 => K .ret (f116s4 t4))) (f116t7 N s0 v1 t7 t8 (seqK (fun σ => f116w6 N M σ K) K)) (funext fun s0 => funext fun v1 => funext fun t7 => funext fun t8 => f116t6L N K M s0 v1 t7 t8) (by kernel_rfl) (by kernel_rfl)
theorem f116t6 {ρ : Type} (N : Nat) (s0 : List Int) (v1 : Int) (t7 : Int) (t8 : Int) (K : KT ρ) : f116i N f116c6 f116p6 (f116s2 s0 v1 t7 t8) (joinK (some f116l3) K) =
  slices_Index_int_int.Z6 N s0 v1 t7 t8 (K (.exit 0) f116s3) (fun t4 => K .ret (f116s4 t4)) :=
  viaLoop (by kernel_rfl) (by kernel_rfl) (σ' := f116s2 s0 v1 t7 t8) (by kernel_rfl) (f116t6L N (joinK (some f116l3) K) N s0 v1 t7 t8) (by kernel_rfl)
noncomputable def f116c5 := codeAt (bodyOf Try.f116) [1,0,1]
noncomputable def f116p5 : Plan := .mk (some f116l3) none f116p6 .n
theorem f116t5 {ρ : Type} (N : Nat) (s0 : List Int) (v1 : Int) (t7 : Int) (t8 : Int) (K : KT ρ) : f116i N f116c5 f116p5 (f116s2 s0 v1 t7 t8) (joinK (some f116l3) K) =
  slices_Index_int_int.Z5 N s0 v1 t7 t8 (K .nrm f116s3) (fun t4 => K .ret (f116s4 t4)) :=
  viaBlock (by kernel_rfl) (by kernel_rfl) (f116t6 N s0 v1 t7 t8 (blockK 0 (joinK (some f116l3) K))) (by kernel_rfl)
noncomputable def f116c3 := codeAt (bodyOf Try.f116) [1,0]
noncomputable def f116p3 : Plan := .mk (some f116l2) none .n f116p5
theorem f116t3 {ρ : Type} (N : Nat) (s0 : List Int) (v1 : Int) (K : KT ρ) : f116i N f116c3 f116p3 (f116s1 s0 v1) (joinK (some f116l3) K) =
  slices_Index_int_int.Z3 N s0 v1 (K .nrm f116s3) (fun t4 => K .ret (f116s4 t4)) :=
  viaSeq (fun k => slices_Index_int_int.Z4 N s0 v1 k) (by kernel_rfl) (by kernel_rfl) (f116t4 N s0 v1 (seqK (fun σ => f116i N f116c5 f116p5 σ (joinK (some f116l3) K)) (joinK (some f116l3) K))) (funext fun s0 => funext fun v1 => funext fun t7 => funext fun t8 => f116t5 N s0 v1 t7 t8 K) (by kernel_rfl) (by kernel_rfl)
noncomputable def f116c8 := codeAt (bodyOf Try.f116) [1,1]
theorem f116t8 {ρ : Type} (N : Nat)  (K : KT ρ) : f116i N f116c8 .n f116s3 (joinK (some f116lE) K) =
  slices_Index_int_int.Z8 N (fun t4 => K .ret (f116s4 t4)) := by kernel_rfl
noncomputable def f116c2 := codeAt (bodyOf Try.f116) [1]
noncomputable def f116p2 : Plan := .mk (some f116l3) none f116p3 .n
theorem f116t2 {ρ : Type} (N : Nat) (s0 : List Int) (v1 : Int) (K : KT ρ) : f116i N f116c2 f116p2 (f116s1 s0 v1) (joinK (some f116lE) K) =
  slices_Index_int_int.Z2 N s0 v1 (fun t4 => K .ret (f116s4 t4)) :=
  viaSeq (fun k => slices_Index_int_int.Z3 N s0 v1 k (fun t4 => K .ret (f116s4 t4))) (by kernel_rfl) (by kernel_rfl) (f116t3 N s0 v1 (seqK (fun σ => f116i N f116c8 .n σ (joinK (some f116lE) K)) (joinK (some f116lE) K))) (f116t8 N K) (by kernel_rfl) (by kernel_rfl)
noncomputable def f116c0 := codeAt (bodyOf Try.f116) []
noncomputable def f116p0 : Plan := .mk (some f116l1) none .n f116p2
theorem f116t0 {ρ : Type} (N : Nat) (s0 : List Int) (v1 : Int) (K : KT ρ) : f116i N f116c0 f116p0 (f116s0 s0 v1) (joinK (some f116lE) K) =
  slices_Index_int_int.Z0 N s0 v1 (fun t4 => K .ret (f116s4 t4)) :=
  viaSeq (fun k => slices_Index_int_int.Z1 N s0 v1 k) (by kernel_rfl) (by kernel_rfl) (f116t1 N s0 v1 (seqK (fun σ => f116i N f116c2 f116p2 σ (joinK (some f116lE) K)) (joinK (some f116lE) K))) (funext fun s0 => funext fun v1 => f116t2 N s0 v1 K) (by kernel_rfl) (by kernel_rfl)
theorem f116m (N : Nat) (s0 : List Int) (v1 : Int) : f116i N f116c0 f116p0 (f116s0 s0 v1) (joinK (some f116lE) (finK tab f116sig Try.f116.results.toList)) = slices_Index_int_int.Z0 N s0 v1 (fun t4 => some ((), (t4, ()))) :=
  (f116t0 N s0 v1 (finK tab f116sig Try.f116.results.toList)).trans (by kernel_rfl)
theorem f116ok (h : slices_Index_int_int.Spec) : EntryOk Try.prog 116 e116 :=
  entry_of_code (sig := f116sig) (c := f116c0) (pl := f116p0) (je := (some f116lE)) (B := f116B) Try.func116 (by kernel_rfl) (by kernel_rfl) (by kernel_rfl) tabOk f116GOk (by kernel_rfl) (by kernel_rfl) (by kernel_rfl) (by kernel_rfl) fun X hb hp => by
    obtain ⟨s0, v1, _⟩ := X
    obtain ⟨N, h⟩ := h s0 v1 hb.1
    exact ⟨N, (f116m N s0 v1).trans (h N (Nat.le_refl N))⟩
theorem e116ok : EntryOk Try.prog 116 e116 := f116ok slices_Index_int_int.ok
end Go.Fw
set_option linter.unusedVariables false
set_option linter.unusedSimpArgs false
set_option maxRecDepth 100000
namespace Go.Fw
open Go.Proofs
/-! ### slices.Contains[[]int,int] -/
noncomputable def f101sig : Sig := ⟨[⟨.sl 3 (.int .i64), false, false⟩, ⟨.int .i64, false, false⟩], [⟨.bool, false, false⟩]⟩
noncomputable def e101 : Entry := ⟨f101sig, none, fun X => ((), ((slices_Contains_int_int.g X.1 X.2.1), ()))⟩
noncomputable def f101G : Nat → Option Entry := addG (fun _ => none) 116 e116
theorem f101GOk : GOk Try.prog f101G := (GOk.nil).add e116ok (by kernel_rfl)
noncomputable def f101lE : Clean := ⟨[], [], [], [], []⟩
noncomputable def f101s0 (s0 : List Int) (v1 : Int) : St := initSt f101sig.ps (s0, (v1, ()))
noncomputable def f101s1 (t4 : Bool) : St := stOf [(4, .c (.bool t4))] [] []
noncomputable def f101l1 : Clean := ⟨[4], [], [], [], []⟩
noncomputable def f101B : Nat → Option Clean := lookL [(1000000, f101l1)]
noncomputable abbrev f101i {ρ : Type} (N : Nat) (c : Code) (p : Plan) (σ : St) (K : KT ρ) : Option ρ := iCode f101G tab f101B N c p σ K
noncomputable def f101c0 := codeAt (bodyOf Try.f101) []
theorem f101t0 {ρ : Type} (N : Nat) (s0 : List Int) (v1 : Int) (K : KT ρ) : f101i N f101c0 .n (f101s0 s0 v1) (joinK (some f101lE) K) =
  slices_Contains_int_int.Z0 N s0 v1 (fun t4 => K .ret (f101s1 t4)) := by kernel_rfl
theorem f101m (N : Nat) (s0 : List Int) (v1 : Int) : f101i N f101c0 .n (f101s0 s0 v1) (joinK (some f101lE) (finK tab f101sig Try.f101.results.toList)) = slices_Contains_int_int.Z0 N s0 v1 (fun t4 => some ((), (t4, ()))) :=
  (f101t0 N s0 v1 (finK tab f101sig Try.f101.results.toList)).trans (by kernel_rfl)
theorem f101ok (h : slices_Contains_int_int.Spec) : EntryOk Try.prog 101 e101 :=
  entry_of_code (sig := f101sig) (c := f101c0) (pl := .n) (je := (some f101lE)) (B := f101B) Try.func101 (by kernel_rfl) (by kernel_rfl) (by kernel_rfl) tabOk f101GOk (by kernel_rfl) (by kernel_rfl) (by kernel_rfl) (by kernel_rfl) fun X hb hp => by
    obtain ⟨s0, v1, _⟩ := X
    obtain ⟨N, h⟩ := h s0 v1 hb.1
    exact ⟨N, (f101m N s0 v1).trans (h N (Nat.le_refl N))⟩
theorem e101ok : EntryOk Try.prog 101 e101 := f101ok slices_Contains_int_int.ok
end Go.Fw
set_option linter.unusedVariables false
set_option linter.unusedSimpArgs false
set_option maxRecDepth 100000
namespace Go.Fw
open Go.Proofs
/-! ### loop.example/g03115/impl.isOrder -/
noncomputable def f82sig : Sig := ⟨[⟨.sl 3 (.int .i64), false, false⟩, ⟨.int .i64, false, false⟩], [⟨.bool, false, false⟩]⟩
noncomputable def e82 : Entry := ⟨f82sig, none, fun X => ((), ((impl_isOrder.g X.1 X.2.1), ()))⟩
noncomputable def f82G : Nat → Option Entry := addG (addG (fun _ => none) 65 e65) 101 e101
theorem f82GOk : GOk Try.prog f82G := ((GOk.nil).add e65ok (by kernel_rfl)).add e101ok (by kernel_rfl)
noncomputable def f82lE : Clean := ⟨[], [], [], [], []⟩
noncomputable def f82s0 (l0 : List Int) (n1 : Int) : St := initSt f82sig.ps (l0, (n1, ()))
noncomputable def f82s1 (l0 : List Int) (n1 : Int) : St := stOf [(0, .c (.sn 3 (.int .i64) l0 none)), (1, .c (.int .i64 n1))] [] []
noncomputable def f82l1 : Clean := ⟨[0, 1], [], [], [], []⟩
noncomputable def f82s2 (l0 : List Int) (n1 : Int) (t11 : List Int) (t12 : Int) (t13 : Int) : St := stOf [(0, .c (.sn 3 (.int .i64) l0 none)), (1, .c (.int .i64 n1)), (11, .c (.sn 3 (.int .i64) t11 none)), (12, .c (.int .i64 t12)), (13, .c (.int .i64 t13))] [] []
noncomputable def f82l2 : Clean := ⟨[0, 1, 11, 12, 13], [], [], [], []⟩
noncomputable def f82s3  : St := stOf [] [] []
noncomputable def f82l3 : Clean := ⟨[], [], [], [], []⟩
noncomputable def f82s4 (t4 : Bool) : St := stOf [(4, .c (.bool t4))] [] []
noncomputable def f82l4 : Clean := ⟨[4], [], [], [], []⟩
noncomputable def f82B : Nat → Option Clean := lookL [(0, f82l3), (1000000, f82l4)]
noncomputable abbrev f82i {ρ : Type} (N : Nat) (c : Code) (p : Plan) (σ : St) (K : KT ρ) : Option ρ := iCode f82G tab f82B N c p σ K
noncomputable def f82c1 := codeAt (bodyOf Try.f82) [0]
theorem f82t1 {ρ : Type} (N : Nat) (l0 : List Int) (n1 : Int) (K : KT ρ) : f82i N f82c1 .n (f82s0 l0 n1) (joinK (some f82l1) K) =
  impl_isOrder.Z1 N l0 n1 (fun l0 n1 => K .nrm (f82s1 l0 n1)) := by kernel_rfl
noncomputable def f82c3 := codeAt (bodyOf Try.f82) [1,0]
theorem f82t3 {ρ : Type} (N : Nat) (l0 : List Int) (n1 : Int) (K : KT ρ) : f82i N f82c3 .n (f82s1 l0 n1) (joinK (some f82l1) K) =
  impl_isOrder.Z3 N l0 n1 (fun l0 n1 => K .nrm (f82s1 l0 n1)) (fun t4 => K .ret (f82s4 t4)) := by kernel_rfl
noncomputable def f82c6 := codeAt (bodyOf Try.f82) [1,1,0,0]
theorem f82t6 {ρ : Type} (N : Nat) (l0 : List Int) (n1 : Int) (K : KT ρ) : f82i N f82c6 .n (f82s1 l0 n1) (joinK (some f82l2) K) =
  impl_isOrder.Z6 N l0 n1 (fun l0 n1 t11 t12 t13 => K .nrm (f82s2 l0 n1 t11 t12 t13)) := by kernel_rfl
noncomputable def f82c9 := codeAt (bodyOf Try.f82) [1,1,0,1,0,0]
theorem f82t9 {ρ : Type} (N : Nat) (l0 : List Int) (n1 : Int) (t11 : List Int) (t12 : Int) (t13 : Int) (K : KT ρ) : f82i N f82c9 .n (f82s2 l0 n1 t11 t12 t13) (joinK (some f82l2) K) =
  impl_isOrder.Z9 N l0 n1 t11 t12 t13 (fun l0 n1 t11 t12 t13 => K .nrm (f82s2 l0 n1 t11 t12 t13)) (K (.exit 0) f82s3) (fun t4 => K .ret (f82s4 t4)) := by kernel_rfl
noncomputable def f82c8 := codeAt (bodyOf Try.f82) [1,1,0,1,0]
noncomputable def f82p8 : Plan := .mk none (some f82l2) .n .n
noncomputable abbrev f82w8 {ρ : Type} (N : Nat) (M : Nat) (σ : St) (K : KT ρ) : Option ρ := loopC (fun σ K => f82i N f82c9 .n σ K) f82l2 M σ K
theorem f82t8L {ρ : Type} (N : Nat) (K : KT ρ) : ∀ (M : Nat) (l0 : List Int) (n1 : Int) (t11 : List Int) (t12 : Int) (t13 : Int), f82w8 N M (f82s2 l0 n1 t11 t12 t13) K =
  impl_isOrder.Z8L N (K (.exit 0) f82s3) (fun t4 => K .ret (f82s4 t4)) M l0 n1 t11 t12 t13
  | 0, _, _, _, _, _ => rfl
  | M + 1, l0, n1, t11, t12, t13 => viaRound (fun k => impl_isOrder.Z9 N l0 n1 t11 t12 t13 k (K (.exit 0) f82s3) (fun t4 => K .ret (f82s4 t4))) (f82t9 N l0 n1 t11 t12 t13 (seqK (fun σ => f82w8 N M σ K) K)) (funext fun l0 => funext fun n1 => funext fun t11 => funext fun t12 => funext fun t13 => f82t8L N K M l0 n1 t11 t12 t13) (by kernel_rfl) (by kernel_rfl)
theorem f82t8 {ρ : Type} (N : Nat) (l0 : List Int) (n1 : Int) (t11 : List Int) (t12 : Int) (t13 : Int) (K : KT ρ) : f82i N f82c8 f82p8 (f82s2 l0 n1 t11 t12 t13) (joinK (some f82l3) K) =
  impl_isOrder.Z8 N l0 n1 t11 t12 t13 (K (.exit 0) f82s3) (fun t4 => K .ret (f82s4 t4)) :=
  viaLoop (by kernel_rfl) (by kernel_rfl) (σ' := f82s2 l0 n1 t11 t12 t13) (by kernel_rfl) (f82t8L N (joinK (some f82l3) K) N l0 n1 t11 t12 t13) (by kernel_rfl)
noncomputable def f82c7 := codeAt (bodyOf Try.f82) [1,1,0,1]
noncomputable def f82p7 : Plan := .mk (some f82l3) none f82p8 .n
theorem f82t7 {ρ : Type} (N : Nat) (l0 : List Int) (n1 : Int) (t11 : List Int) (t12 : Int) (t13 : Int) (K : KT ρ) : f82i N f82c7 f82p7 (f82s2 l0 n1 t11 t12 t13) (joinK (some f82l3) K) =
  impl_isOrder.Z7 N l0 n1 t11 t12 t13 (K .nrm f82s3) (fun t4 => K .ret (f82s4 t4)) :=
  viaBlock (by kernel_rfl) (by kernel_rfl) (f82t8 N l0 n1 t11 t12 t13 (blockK 0 (joinK (some f82l3) K))) (by kernel_rfl)
noncomputable def f82c5 := codeAt (bodyOf Try.f82) [1,1,0]
noncomputable def f82p5 : Plan := .mk (some f82l2) none .n f82p7
theorem f82t5 {ρ : Type} (N : Nat) (l0 : List Int) (n1 : Int) (K : KT ρ) : f82i N f82c5 f82p5 (f82s1 l0 n1) (joinK (some f82l3) K) =
  impl_isOrder.Z5 N l0 n1 (K .nrm f82s3) (fun t4 => K .ret (f82s4 t4)) :=
  viaSeq (fun k => impl_isOrder.Z6 N l0 n1 k) (by kernel_rfl) (by kernel_rfl) (f82t6 N l0 n1 (seqK (fun σ => f82i N f82c7 f82p7 σ (joinK (some f82l3) K)) (joinK (some f82l3) K))) (funext fun l0 => funext fun n1 => funext fun t11 => funext fun t12 => funext fun t13 => f82t7 N l0 n1 t11 t12 t13 K) (by kernel_rfl) (by kernel_rfl)
noncomputable def f82c10 := codeAt (bodyOf Try.f82) [1,1,1]
theorem f82t10 {ρ : Type} (N : Nat)  (K : KT ρ) : f82i N f82c10 .n f82s3 (joinK (some f82lE) K) =
  impl_isOrder.Z10 N (fun t4 => K .ret (f82s4 t4)) := by kernel_rfl
noncomputable def f82c4 := codeAt (bodyOf Try.f82) [1,1]
noncomputable def f82p4 : Plan := .mk (some f82l3) none f82p5 .n
theorem f82t4 {ρ : Type} (N : Nat) (l0 : List Int) (n1 : Int) (K : KT ρ) : f82i N f82c4 f82p4 (f82s1 l0 n1) (joinK (some f82lE) K) =
  impl_isOrder.Z4 N l0 n1 (fun t4 => K .ret (f82s4 t4)) :=
  viaSeq (fun k => impl_isOrder.Z5 N l0 n1 k (fun t4 => K .ret (f82s4 t4))) (by kernel_rfl) (by kernel_rfl) (f82t5 N l0 n1 (seqK (fun σ => f82i N f82c10 .n σ (joinK (some f82lE) K)) (joinK (some f82lE) K))) (f82t10 N K) (by kernel_rfl) (by kernel_rfl)
noncomputable def f82c2 := codeAt (bodyOf Try.f82) [1]
noncomputable def f82p2 : Plan := .mk (some f82l1) none .n f82p4
theorem f82t2 {ρ : Type} (N : Nat) (l0 : List Int) (n1 : Int) (K : KT ρ) : f82i N f82c2 f82p2 (f82s1 l0 n1) (joinK (some f82lE) K) =
  impl_isOrder.Z2 N l0 n1 (fun t4 => K .ret (f82s4 t4)) :=
  viaSeq (fun k => impl_isOrder.Z3 N l0 n1 k (fun t4 => K .ret (f82s4 t4))) (by kernel_rfl) (by kernel_rfl) (f82t3 N l0 n1 (seqK (fun σ => f82i N f82c4 f82p4 σ (joinK (some f82lE) K)) (joinK (some f82lE) K))) (funext fun l0 => funext fun n1 => f82t4 N l0 n1 K) (by kernel_rfl) (by kernel_rfl)
noncomputable def f82c0 := codeAt (bodyOf Try.f82) []
noncomputable def f82p0 : Plan := .mk (some f82l1) none .n f82p2
theorem f82t0 {ρ : Type} (N : Nat) (l0 : List Int) (n1 : Int) (K : KT ρ) : f82i N f82c0 f82p0 (f82s0 l0 n1) (joinK (some f82lE) K) =
  impl_isOrder.Z0 N l0 n1 (fun t4 => K .ret (f82s4 t4)) :=
  viaSeq (fun k => impl_isOrder.Z1 N l0 n1 k) (by kernel_rfl) (by kernel_rfl) (f82t1 N l0 n1 (seqK (fun σ => f82i N f82c2 f82p2 σ (joinK (some f82lE) K)) (joinK (some f82lE) K))) (funext fun l0 => funext fun n1 => f82t2 N l0 n1 K) (by kernel_rfl) (by kernel_rfl)
theorem f82m (N : Nat) (l0 : List Int) (n1 : Int) : f82i N f82c0 f82p0 (f82s0 l0 n1) (joinK (some f82lE) (finK tab f82sig Try.f82.results.toList)) = impl_isOrder.Z0 N l0 n1 (fun t4 => some ((), (t4, ()))) :=
  (f82t0 N l0 n1 (finK tab f82sig Try.f82.results.toList)).trans (by kernel_rfl)
theorem f82ok (h : impl_isOrder.Spec) : EntryOk Try.prog 82 e82 :=
  entry_of_code (sig := f82sig) (c := f82c0) (pl := f82p0) (je := (some f82lE)) (B := f82B) Try.func82 (by kernel_rfl) (by kernel_rfl) (by kernel_rfl) tabOk f82GOk (by kernel_rfl) (by kernel_rfl) (by kernel_rfl) (by kernel_rfl) fun X hb hp => by
    obtain ⟨l0, n1, _⟩ := X
    obtain ⟨N, h⟩ := h l0 n1 hb.1
    exact ⟨N, (f82m N l0 n1).trans (h N (Nat.le_refl N))⟩
theorem e82ok : EntryOk Try.prog 82 e82 := f82ok impl_isOrder.ok
end Go.Fw
set_option linter.unusedVariables false
set_option linter.unusedSimpArgs false
set_option maxRecDepth 100000
namespace Go.Fw
open Go.Proofs
/-! ### loop.example/g03115/impl.RenameMatrix -/
noncomputable def f43sig : Sig := ⟨[⟨.pair (.int .i64) (.pair (.int .i64) (.sl 3 (.int .i64))), true, false⟩, ⟨.sl 3 (.int .i64), false, false⟩], [⟨.pair (.int .i64) (.pair (.int .i64) (.sl 3 (.int .i64))), true, false⟩, ⟨.bool, false, false⟩]⟩
noncomputable def e43 : Entry := ⟨f43sig, none, fun X => ((), ((impl_RenameMatrix.g X.1 X.2.1).1, ((impl_RenameMatrix.g X.1 X.2.1).2, ())))⟩
noncomputable def f43G : Nat → Option Entry := addG (addG (addG (fun _ => none) 60 e60) 61 e61) 82 e82
theorem f43GOk : GOk Try.prog f43G := (((GOk.nil).add e60ok (by kernel_rfl)).add e61ok (by kernel_rfl)).add e82ok (by kernel_rfl)
noncomputable def f43lE : Clean := ⟨[], [], [], [], []⟩
noncomputable def f43s0 (m0 : Int × Int × List Int) (names1 : List Int) : St := initSt f43sig.ps (m0, (names1, ()))
noncomputable def f43s1 (names1 : List Int) (m2_0 : Int) (m2_1 : Int) (m2_2 : List Int) (t4_0 : Int) (t4_1 : Int) : St := stOf [(1, .c (.sn 3 (.int .i64) names1 none)), (2, .c (.box 2 0)), (4, .c (.box 4 0))] [(2, (26, [.int .i64 m2_0, .int .i64 m2_1, .sn 3 (.int .i64) m2_2 none])), (4, (26, [.int .i64 t4_0, .int .i64 t4_1, .nil]))] []
noncomputable def f43l1 : Clean := ⟨[1, 2, 4], [2, 4], [], [], []⟩
noncomputable def f43s2 (out6_2 : List Int) (names1 : List Int) (m2_0 : Int) (m2_1 : Int) (m2_2 : List Int) (t4_0 : Int) (t4_1 : Int) (out6_0 : Int) (out6_1 : Int) : St := stOf [(1, .c (.sn 3 (.int .i64) names1 none)), (2, .c (.box 2 0)), (4, .c (.box 4 0)), (6, .c (.box 6 0))] [(2, (26, [.int .i64 m2_0, .int .i64 m2_1, .sn 3 (.int .i64) m2_2 none])), (4, (26, [.int .i64 t4_0, .int .i64 t4_1, .nil])), (6, (26, [.int .i64 out6_0, .int .i64 out6_1, .own 20000386]))] [(20000386, (⟨3, .int .i64, out6_2, true, false⟩ : Row))]
noncomputable def f43l2 : Clean := ⟨[1, 2, 4, 6], [2, 4, 6], [], [], [(⟨true, 6, 2⟩, 20000386)]⟩
noncomputable def f43s3 (out6_2 : List Int) (names1 : List Int) (i7 : Int) (m2_0 : Int) (m2_1 : Int) (m2_2 : List Int) (t4_0 : Int) (t4_1 : Int) (out6_0 : Int) (out6_1 : Int) : St := stOf [(1, .c (.sn 3 (.int .i64) names1 none)), (2, .c (.box 2 0)), (4, .c (.box 4 0)), (6, .c (.box 6 0)), (7, .c (.int .i64 i7))] [(2, (26, [.int .i64 m2_0, .int .i64 m2_1, .sn 3 (.int .i64) m2_2 none])), (4, (26, [.int .i64 t4_0, .int .i64 t4_1, .nil])), (6, (26, [.int .i64 out6_0, .int .i64 out6_1, .own 20000386]))] [(20000386, (⟨3, .int .i64, out6_2, true, false⟩ : Row))]
noncomputable def f43l3 : Clean := ⟨[1, 2, 4, 6, 7], [2, 4, 6], [], [], [(⟨true, 6, 2⟩, 20000386)]⟩
noncomputable def f43s4 (out6_2 : List Int) (names1 : List Int) (i7 : Int) (row8 : Int) (m2_0 : Int) (m2_1 : Int) (m2_2 : List Int) (t4_0 : Int) (t4_1 : Int) (out6_0 : Int) (out6_1 : Int) : St := stOf [(1, .c (.sn 3 (.int .i64) names1 none)), (2, .c (.box 2 0)), (4, .c (.box 4 0)), (6, .c (.box 6 0)), (7, .c (.int .i64 i7)), (8, .c (.int .i64 row8))] [(2, (26, [.int .i64 m2_0, .int .i64 m2_1, .sn 3 (.int .i64) m2_2 none])), (4, (26, [.int .i64 t4_0, .int .i64 t4_1, .nil])), (6, (26, [.int .i64 out6_0, .int .i64 out6_1, .own 20000386]))] [(20000386, (⟨3, .int .i64, out6_2, true, false⟩ : Row))]
noncomputable def f43l4 : Clean := ⟨[1, 2, 4, 6, 7, 8], [2, 4, 6], [], [], [(⟨true, 6, 2⟩, 20000386)]⟩
noncomputable def f43s5 (out6_2 : List Int) (names1 : List Int) (i7 : Int) (row8 : Int) (j9 : Int) (m2_0 : Int) (m2_1 : Int) (m2_2 : List Int) (t4_0 : Int) (t4_1 : Int) (out6_0 : Int) (out6_1 : Int) : St := stOf [(1, .c (.sn 3 (.int .i64) names1 none)), (2, .c (.box 2 0)), (4, .c (.box 4 0)), (6, .c (.box 6 0)), (7, .c (.int .i64 i7)), (8, .c (.int .i64 row8)), (9, .c (.int .i64 j9))] [(2, (26, [.int .i64 m2_0, .int .i64 m2_1, .sn 3 (.int .i64) m2_2 none])), (4, (26, [.int .i64 t4_0, .int .i64 t4_1, .nil])), (6, (26, [.int .i64 out6_0, .int .i64 out6_1, .own 20000386]))] [(20000386, (⟨3, .int .i64, out6_2, true, false⟩ : Row))]
noncomputable def f43l5 : Clean := ⟨[1, 2, 4, 6, 7, 8, 9], [2, 4, 6], [], [], [(⟨true, 6, 2⟩, 20000386)]⟩
noncomputable def f43s6 (out6_2 : List Int) (t4_0 : Int) (t4_1 : Int) (out6_0 : Int) (out6_1 : Int) : St := stOf [(4, .c (.box 4 0)), (6, .c (.box 6 0))] [(4, (26, [.int .i64 t4_0, .int .i64 t4_1, .nil])), (6, (26, [.int .i64 out6_0, .int .i64 out6_1, .own 20000386]))] [(20000386, (⟨3, .int .i64, out6_2, true, false⟩ : Row))]
noncomputable def f43l6 : Clean := ⟨[4, 6], [4, 6], [], [], [(⟨true, 6, 2⟩, 20000386)]⟩
noncomputable def f43s7 (t4_2 : List Int) (t5 : Bool) (t4_0 : Int) (t4_1 : Int) : St := stOf [(4, .c (.box 4 0)), (5, .c (.bool t5))] [(4, (26, [.int .i64 t4_0, .int .i64 t4_1, .own 20000258]))] [(20000258, (⟨3, .int .i64, t4_2, true, false⟩ : Row))]
noncomputable def f43l7 : Clean := ⟨[4, 5], [4], [⟨⟨true, 4, 2⟩, 30000000, 3, .int .i64, true⟩], [], [(⟨true, 4, 2⟩, 20000258)]⟩
noncomputable def f43B : Nat → Option Clean := lookL [(2, f43l3), (1, f43l3), (0, f43l6), (1000000, f43l7)]
noncomputable abbrev f43i {ρ : Type} (N : Nat) (c : Code) (p : Plan) (σ : St) (K : KT ρ) : Option ρ := iCode f43G tab f43B N c p σ K
noncomputable def f43c1 := codeAt (bodyOf Try.f43) [0]
theorem f43t1 {ρ : Type} (N : Nat) (m0 : Int × Int × List Int) (names1 : List Int) (K : KT ρ) : f43i N f43c1 .n (f43s0 m0 names1) (joinK (some f43l1) K) =
  impl_RenameMatrix.Z1 N m0 names1 (fun names1 m2_0 m2_1 m2_2 t4_0 t4_1 => K .nrm (f43s1 names1 m2_0 m2_1 m2_2 t4_0 t4_1)) := by kernel_rfl
noncomputable def f43c3 := codeAt (bodyOf Try.f43) [1,0]
theorem f43t3 {ρ : Type} (N : Nat) (names1 : List Int) (m2_0 : Int) (m2_1 : Int) (m2_2 : List Int) (t4_0 : Int) (t4_1 : Int) (K : KT ρ) : f43i N f43c3 .n (f43s1 names1 m2_0 m2_1 m2_2 t4_0 t4_1) (joinK (some f43l1) K) =
  impl_RenameMatrix.Z3 N names1 m2_0 m2_1 m2_2 t4_0 t4_1 (fun names1 m2_0 m2_1 m2_2 t4_0 t4_1 => K .nrm (f43s1 names1 m2_0 m2_1 m2_2 t4_0 t4_1)) (fun t4_2 t5 t4_0 t4_1 => K .ret (f43s7 t4_2 t5 t4_0 t4_1)) := by kernel_rfl
noncomputable def f43c5 := codeAt (bodyOf Try.f43) [1,1,0]
theorem f43t5 {ρ : Type} (N : Nat) (names1 : List Int) (m2_0 : Int) (m2_1 : Int) (m2_2 : List Int) (t4_0 : Int) (t4_1 : Int) (K : KT ρ) : f43i N f43c5 .n (f43s1 names1 m2_0 m2_1 m2_2 t4_0 t4_1) (joinK (some f43l2) K) =
  impl_RenameMatrix.Z5 N names1 m2_0 m2_1 m2_2 t4_0 t4_1 (fun out6_2 names1 m2_0 m2_1 m2_2 t4_0 t4_1 out6_0 out6_1 => K .nrm (f43s2 out6_2 names1 m2_0 m2_1 m2_2 t4_0 t4_1 out6_0 out6_1)) := by kernel_rfl
noncomputable def f43c8 := codeAt (bodyOf Try.f43) [1,1,1,0,0]
theorem f43t8 {ρ : Type} (N : Nat) (out6_2 : List Int) (names1 : List Int) (m2_0 : Int) (m2_1 : Int) (m2_2 : List Int) (t4_0 : Int) (t4_1 : Int) (out6_0 : Int) (out6_1 : Int) (K : KT ρ) : f43i N f43c8 .n (f43s2 out6_2 names1 m2_0 m2_1 m2_2 t4_0 t4_1 out6_0 out6_1) (joinK (some f43l3) K) =
  impl_RenameMatrix.Z8 N out6_2 names1 m2_0 m2_1 m2_2 t4_0 t4_1 out6_0 out6_1 (fun out6_2 names1 i7 m2_0 m2_1 m2_2 t4_0 t4_1 out6_0 out6_1 => K .nrm (f43s3 out6_2 names1 i7 m2_0 m2_1 m2_2 t4_0 t4_1 out6_0 out6_1)) := by kernel_rfl
noncomputable def f43c12 := codeAt (bodyOf Try.f43) [1,1,1,0,1,0,0,0]
theorem f43t12 {ρ : Type} (N : Nat) (out6_2 : List Int) (names1 : List Int) (i7 : Int) (m2_0 : Int) (m2_1 : Int) (m2_2 : List Int) (t4_0 : Int) (t4_1 : Int) (out6_0 : Int) (out6_1 : Int) (K : KT ρ) : f43i N f43c12 .n (f43s3 out6_2 names1 i7 m2_0 m2_1 m2_2 t4_0 t4_1 out6_0 out6_1) (joinK (some f43l3) K) =
  impl_RenameMatrix.Z12 N out6_2 names1 i7 m2_0 m2_1 m2_2 t4_0 t4_1 out6_0 out6_1 (fun out6_2 names1 i7 m2_0 m2_1 m2_2 t4_0 t4_1 out6_0 out6_1 => K .nrm (f43s3 out6_2 names1 i7 m2_0 m2_1 m2_2 t4_0 t4_1 out6_0 out6_1)) (fun out6_2 t4_0 t4_1 out6_0 out6_1 => K (.exit 0) (f43s6 out6_2 t4_0 t4_1 out6_0 out6_1)) := by kernel_rfl
noncomputable def f43c16 := codeAt (bodyOf Try.f43) [1,1,1,0,1,0,0,1,0,0,0]
theorem f43t16 {ρ : Type} (N : Nat) (out6_2 : List Int) (names1 : List Int) (i7 : Int) (m2_0 : Int) (m2_1 : Int) (m2_2 : List Int) (t4_0 : Int) (t4_1 : Int) (out6_0 : Int) (out6_1 : Int) (K : KT ρ) : f43i N f43c16 .n (f43s3 out6_2 names1 i7 m2_0 m2_1 m2_2 t4_0 t4_1 out6_0 out6_1) (joinK (some f43l4) K) =
  impl_RenameMatrix.Z16 N out6_2 names1 i7 m2_0 m2_1 m2_2 t4_0 t4_1 out6_0 out6_1 (fun out6_2 names1 i7 row8 m2_0 m2_1 m2_2 t4_0 t4_1 out6_0 out6_1 => K .nrm (f43s4 out6_2 names1 i7 row8 m2_0 m2_1 m2_2 t4_0 t4_1 out6_0 out6_1)) := by kernel_rfl
noncomputable def f43c18 := codeAt (bodyOf Try.f43) [1,1,1,0,1,0,0,1,0,0,1,0]
theorem f43t18 {ρ : Type} (N : Nat) (out6_2 : List Int) (names1 : List Int) (i7 : Int) (row8 : Int) (m2_0 : Int) (m2_1 : Int) (m2_2 : List Int) (t4_0 : Int) (t4_1 : Int) (out6_0 : Int) (out6_1 : Int) (K : KT ρ) : f43i N f43c18 .n (f43s4 out6_2 names1 i7 row8 m2_0 m2_1 m2_2 t4_0 t4_1 out6_0 out6_1) (joinK (some f43l4) K) =
  impl_RenameMatrix.Z18 N out6_2 names1 i7 row8 m2_0 m2_1 m2_2 t4_0 t4_1 out6_0 out6_1 (fun out6_2 names1 i7 row8 m2_0 m2_1 m2_2 t4_0 t4_1 out6_0 out6_1 => K .nrm (f43s4 out6_2 names1 i7 row8 m2_0 m2_1 m2_2 t4_0 t4_1 out6_0 out6_1)) := by kernel_rfl
noncomputable def f43c20 := codeAt (bodyOf Try.f43) [1,1,1,0,1,0,0,1,0,0,1,1,0]
theorem f43t20 {ρ : Type} (N : Nat) (out6_2 : List Int) (names1 : List Int) (i7 : Int) (row8 : Int) (m2_0 : Int) (m2_1 : Int) (m2_2 : List Int) (t4_0 : Int) (t4_1 : Int) (out6_0 : Int) (out6_1 : Int) (K : KT ρ) : f43i N f43c20 .n (f43s4 out6_2 names1 i7 row8 m2_0 m2_1 m2_2 t4_0 t4_1 out6_0 out6_1) (joinK (some f43l5) K) =
  impl_RenameMatrix.Z20 N out6_2 names1 i7 row8 m2_0 m2_1 m2_2 t4_0 t4_1 out6_0 out6_1 (fun out6_2 names1 i7 row8 j9 m2_0 m2_1 m2_2 t4_0 t4_1 out6_0 out6_1 => K .nrm (f43s5 out6_2 names1 i7 row8 j9 m2_0 m2_1 m2_2 t4_0 t4_1 out6_0 out6_1)) := by kernel_rfl
noncomputable def f43c23 := codeAt (bodyOf Try.f43) [1,1,1,0,1,0,0,1,0,0,1,1,1,0,0]
theorem f43t23 {ρ : Type} (N : Nat) (out6_2 : List Int) (names1 : List Int) (i7 : Int) (row8 : Int) (j9 : Int) (m2_0 : Int) (m2_1 : Int) (m2_2 : List Int) (t4_0 : Int) (t4_1 : Int) (out6_0 : Int) (out6_1 : Int) (K : KT ρ) : f43i N f43c23 .n (f43s5 out6_2 names1 i7 row8 j9 m2_0 m2_1 m2_2 t4_0 t4_1 out6_0 out6_1) (joinK (some f43l5) K) =
  impl_RenameMatrix.Z23 N out6_2 names1 i7 row8 j9 m2_0 m2_1 m2_2 t4_0 t4_1 out6_0 out6_1 (fun out6_2 names1 i7 row8 j9 m2_0 m2_1 m2_2 t4_0 t4_1 out6_0 out6_1 => K .nrm (f43s5 out6_2 names1 i7 row8 j9 m2_0 m2_1 m2_2 t4_0 t4_1 out6_0 out6_1)) (fun out6_2 names1 i7 m2_0 m2_1 m2_2 t4_0 t4_1 out6_0 out6_1 => K (.exit 2) (f43s3 out6_2 names1 i7 m2_0 m2_1 m2_2 t4_0 t4_1 out6_0 out6_1)) := by kernel_rfl
noncomputable def f43c22 := codeAt (bodyOf Try.f43) [1,1,1,0,1,0,0,1,0,0,1,1,1,0]
noncomputable def f43p22 : Plan := .mk none (some f43l5) .n .n
noncomputable abbrev f43w22 {ρ : Type} (N : Nat) (M : Nat) (σ : St) (K : KT ρ) : Option ρ := loopC (fun σ K => f43i N f43c23 .n σ K) f43l5 M σ K
theorem f43t22L {ρ : Type} (N : Nat) (K : KT ρ) : ∀ (M : Nat) (out6_2 : List Int) (names1 : List Int) (i7 : Int) (row8 : Int) (j9 : Int) (m2_0 : Int) (m2_1 : Int) (m2_2 : List Int) (t4_0 : Int) (t4_1 : Int) (out6_0 : Int) (out6_1 : Int), f43w22 N M (f43s5 out6_2 names1 i7 row8 j9 m2_0 m2_1 m2_2 t4_0 t4_1 out6_0 out6_1) K =
  impl_RenameMatrix.Z22L N (fun out6_2 names1 i7 m2_0 m2_1 m2_2 t4_0 t4_1 out6_0 out6_1 => K (.exit 2) (f43s3 out6_2 names1 i7 m2_0 m2_1 m2_2 t4_0 t4_1 out6_0 out6_1)) M out6_2 names1 i7 row8 j9 m2_0 m2_1 m2_2 t4_0 t4_1 out6_0 out6_1
  | 0, _, _, _, _, _, _, _, _, _, _, _, _ => rfl
  | M + 1, out6_2, names1, i7, row8, j9, m2_0, m2_1, m2_2, t4_0, t4_1, out6_0, out6_1 => viaRound (fun k => impl_RenameMatrix.Z23 N out6_2 names1 i7 row8 j9 m2_0 m2_1 m2_2 t4_0 t4_1 out6_0 out6_1 k (fun out6_2 names1 i7 m2_0 m2_1 m2_2 t4_0 t4_1 out6_0 out6_1 => K (.exit 2) (f43s3 out6_2 names1 i7 m2_0 m2_1 m2_2 t4_0 t4_1 out6_0 out6_1))) (f43t23 N out6_2 names1 i7 row8 j9 m2_0 m2_1 m2_2 t4_0 t4_1 out6_0 out6_1 (seqK (fun σ => f43w22 N M σ K) K)) (funext fun out6_2 => funext fun names1 => funext fun i7 => funext fun row8 => funext fun j9 => funext fun m2_0 => funext fun m2_1 => funext fun m2_2 => funext fun t4_0 => funext fun t4_1 => funext fun out6_0 => funext fun out6_1 => f43t22L N K M out6_2 names1 i7 row8 j9 m2_0 m2_1 m2_2 t4_0 t4_1 out6_0 out6_1) (by kernel_rfl) (by kernel_rfl)
theorem f43t22 {ρ : Type} (N : Nat) (out6_2 : List Int) (names1 : List Int) (i7 : Int) (row8 : Int) (j9 : Int) (m2_0 : Int) (m2_1 : Int) (m2_2 : List Int) (t4_0 : Int) (t4_1 : Int) (out6_0 : Int) (out6_1 : Int) (K : KT ρ) : f43i N f43c22 f43p22 (f43s5 out6_2 names1 i7 row8 j9 m2_0 m2_1 m2_2 t4_0 t4_1 out6_0 out6_1) (joinK (some f43l3) K) =
  impl_RenameMatrix.Z22 N out6_2 names1 i7 row8 j9 m2_0 m2_1 m2_2 t4_0 t4_1 out6_0 out6_1 (fun out6_2 names1 i7 m2_0 m2_1 m2_2 t4_0 t4_1 out6_0 out6_1 => K (.exit 2) (f43s3 out6_2 names1 i7 m2_0 m2_1 m2_2 t4_0 t4_1 out6_0 out6_1)) :=
  viaLoop (by kernel_rfl) (by kernel_rfl) (σ' := f43s5 out6_2 names1 i7 row8 j9 m2_0 m2_1 m2_2 t4_0 t4_1 out6_0 out6_1) (by kernel_rfl) (f43t22L N (joinK (some f43l3) K) N out6_2 names1 i7 row8 j9 m2_0 m2_1 m2_2 t4_0 t4_1 out6_0 out6_1) (by kernel_rfl)
noncomputable def f43c21 := codeAt (bodyOf Try.f43) [1,1,1,0,1,0,0,1,0,0,1,1,1]
noncomputable def f43p21 : Plan := .mk (some f43l3) none f43p22 .n
theorem f43t21 {ρ : Type} (N : Nat) (out6_2 : List Int) (names1 : List Int) (i7 : Int) (row8 : Int) (j9 : Int) (m2_0 : Int) (m2_1 : Int) (m2_2 : List Int) (t4_0 : Int) (t4_1 : Int) (out6_0 : Int) (out6_1 : Int) (K : KT ρ) : f43i N f43c21 f43p21 (f43s5 out6_2 names1 i7 row8 j9 m2_0 m2_1 m2_2 t4_0 t4_1 out6_0 out6_1) (joinK (some f43l3) K) =
  impl_RenameMatrix.Z21 N out6_2 names1 i7 row8 j9 m2_0 m2_1 m2_2 t4_0 t4_1 out6_0 out6_1 (fun out6_2 names1 i7 m2_0 m2_1 m2_2 t4_0 t4_1 out6_0 out6_1 => K .nrm (f43s3 out6_2 names1 i7 m2_0 m2_1 m2_2 t4_0 t4_1 out6_0 out6_1)) :=
  viaBlock (by kernel_rfl) (by kernel_rfl) (f43t22 N out6_2 names1 i7 row8 j9 m2_0 m2_1 m2_2 t4_0 t4_1 out6_0 out6_1 (blockK 2 (joinK (some f43l3) K))) (by kernel_rfl)
noncomputable def f43c19 := codeAt (bodyOf Try.f43) [1,1,1,0,1,0,0,1,0,0,1,1]
noncomputable def f43p19 : Plan := .mk (some f43l5) none .n f43p21
theorem f43t19 {ρ : Type} (N : Nat) (out6_2 : List Int) (names1 : List Int) (i7 : Int) (row8 : Int) (m2_0 : Int) (m2_1 : Int) (m2_2 : List Int) (t4_0 : Int) (t4_1 : Int) (out6_0 : Int) (out6_1 : Int) (K : KT ρ) : f43i N f43c19 f43p19 (f43s4 out6_2 names1 i7 row8 m2_0 m2_1 m2_2 t4_0 t4_1 out6_0 out6_1) (joinK (some f43l3) K) =
  impl_RenameMatrix.Z19 N out6_2 names1 i7 row8 m2_0 m2_1 m2_2 t4_0 t4_1 out6_0 out6_1 (fun out6_2 names1 i7 m2_0 m2_1 m2_2 t4_0 t4_1 out6_0 out6_1 => K .nrm (f43s3 out6_2 names1 i7 m2_0 m2_1 m2_2 t4_0 t4_1 out6_0 out6_1)) :=
  viaSeq (fun k => impl_RenameMatrix.Z20 N out6_2 names1 i7 row8 m2_0 m2_1 m2_2 t4_0 t4_1 out6_0 out6_1 k) (by kernel_rfl) (by kernel_rfl) (f43t20 N out6_2 names1 i7 row8 m2_0 m2_1 m2_2 t4_0 t4_1 out6_0 out6_1 (seqK (fun σ => f43i N f43c21 f43p21 σ (joinK (some f43l3) K)) (joinK (some f43l3) K))) (funext fun out6_2 => funext fun names1 => funext fun i7 => funext fun row8 => funext fun j9 => funext fun m2_0 => funext fun m2_1 => funext fun m2_2 => funext fun t4_0 => funext fun t4_1 => funext fun out6_0 => funext fun out6_1 => f43t21 N out6_2 names1 i7 row8 j9 m2_0 m2_1 m2_2 t4_0 t4_1 out6_0 out6_1 K) (by kernel_rfl) (by kernel_rfl)
noncomputable def f43c17 := codeAt (bodyOf Try.f43) [1,1,1,0,1,0,0,1,0,0,1]
noncomputable def f43p17 : Plan := .mk (some f43l4) none .n f43p19
theorem f43t17 {ρ : Type} (N : Nat) (out6_2 : List Int) (names1 : List Int) (i7 : Int) (row8 : Int) (m2_0 : Int) (m2_1 : Int) (m2_2 : List Int) (t4_0 : Int) (t4_1 : Int) (out6_0 : Int) (out6_1 : Int) (K : KT ρ) : f43i N f43c17 f43p17 (f43s4 out6_2 names1 i7 row8 m2_0 m2_1 m2_2 t4_0 t4_1 out6_0 out6_1) (joinK (some f43l3) K) =
  impl_RenameMatrix.Z17 N out6_2 names1 i7 row8 m2_0 m2_1 m2_2 t4_0 t4_1 out6_0 out6_1 (fun out6_2 names1 i7 m2_0 m2_1 m2_2 t4_0 t4_1 out6_0 out6_1 => K .nrm (f43s3 out6_2 names1 i7 m2_0 m2_1 m2_2 t4_0 t4_1 out6_0 out6_1)) :=
  viaSeq (fun k => impl_RenameMatrix.Z18 N out6_2 names1 i7 row8 m2_0 m2_1 m2_2 t4_0 t4_1 out6_0 out6_1 k) (by kernel_rfl) (by kernel_rfl) (f43t18 N out6_2 names1 i7 row8 m2_0 m2_1 m2_2 t4_0 t4_1 out6_0 out6_1 (seqK (fun σ => f43i N f43c19 f43p19 σ (joinK (some f43l3) K)) (joinK (some f43l3) K))) (funext fun out6_2 => funext fun names1 => funext fun i7 => funext fun row8 => funext fun m2_0 => funext fun m2_1 => funext fun m2_2 => funext fun t4_0 => funext fun t4_1 => funext fun out6_0 => funext fun out6_1 => f43t19 N out6_2 names1 i7 row8 m2_0 m2_1 m2_2 t4_0 t4_1 out6_0 out6_1 K) (by kernel_rfl) (by kernel_rfl)
noncomputable def f43c15 := codeAt (bodyOf Try.f43) [1,1,1,0,1,0,0,1,0,0]
noncomputable def f43p15 : Plan := .mk (some f43l4) none .n f43p17
theorem f43t15 {ρ : Type} (N : Nat) (out6_2 : List Int) (names1 : List Int) (i7 : Int) (m2_0 : Int) (m2_1 : Int) (m2_2 : List Int) (t4_0 : Int) (t4_1 : Int) (out6_0 : Int) (out6_1 : Int) (K : KT ρ) : f43i N f43c15 f43p15 (f43s3 out6_2 names1 i7 m2_0 m2_1 m2_2 t4_0 t4_1 out6_0 out6_1) (joinK (some f43l3) K) =
  impl_RenameMatrix.Z15 N out6_2 names1 i7 m2_0 m2_1 m2_2 t4_0 t4_1 out6_0 out6_1 (fun out6_2 names1 i7 m2_0 m2_1 m2_2 t4_0 t4_1 out6_0 out6_1 => K .nrm (f43s3 out6_2 names1 i7 m2_0 m2_1 m2_2 t4_0 t4_1 out6_0 out6_1)) :=
  viaSeq (fun k => impl_RenameMatrix.Z16 N out6_2 names1 i7 m2_0 m2_1 m2_2 t4_0 t4_1 out6_0 out6_1 k) (by kernel_rfl) (by kernel_rfl) (f43t16 N out6_2 names1 i7 m2_0 m2_1 m2_2 t4_0 t4_1 out6_0 out6_1 (seqK (fun σ => f43i N f43c17 f43p17 σ (joinK (some f43l3) K)) (joinK (some f43l3) K))) (funext fun out6_2 => funext fun names1 => funext fun i7 => funext fun row8 => funext fun m2_0 => funext fun m2_1 => funext fun m2_2 => funext fun t4_0 => funext fun t4_1 => funext fun out6_0 => funext fun out6_1 => f43t17 N out6_2 names1 i7 row8 m2_0 m2_1 m2_2 t4_0 t4_1 out6_0 out6_1 K) (by kernel_rfl) (by kernel_rfl)
noncomputable def f43c14 := codeAt (bodyOf Try.f43) [1,1,1,0,1,0,0,1,0]
noncomputable def f43p14 : Plan := .mk (some f43l3) none f43p15 .n
theorem f43t14 {ρ : Type} (N : Nat) (out6_2 : List Int) (names1 : List Int) (i7 : Int) (m2_0 : Int) (m2_1 : Int) (m2_2 : List Int) (t4_0 : Int) (t4_1 : Int) (out6_0 : Int) (out6_1 : Int) (K : KT ρ) : f43i N f43c14 f43p14 (f43s3 out6_2 names1 i7 m2_0 m2_1 m2_2 t4_0 t4_1 out6_0 out6_1) (joinK (some f43l3) K) =
  impl_RenameMatrix.Z14 N out6_2 names1 i7 m2_0 m2_1 m2_2 t4_0 t4_1 out6_0 out6_1 (fun out6_2 names1 i7 m2_0 m2_1 m2_2 t4_0 t4_1 out6_0 out6_1 => K .nrm (f43s3 out6_2 names1 i7 m2_0 m2_1 m2_2 t4_0 t4_1 out6_0 out6_1)) :=
  viaBlock (by kernel_rfl) (by kernel_rfl) (f43t15 N out6_2 names1 i7 m2_0 m2_1 m2_2 t4_0 t4_1 out6_0 out6_1 (blockK 1 (joinK (some f43l3) K))) (by kernel_rfl)
noncomputable def f43c24 := codeAt (bodyOf Try.f43) [1,1,1,0,1,0,0,1,1]
theorem f43t24 {ρ : Type} (N : Nat) (out6_2 : List Int) (names1 : List Int) (i7 : Int) (m2_0 : Int) (m2_1 : Int) (m2_2 : List Int) (t4_0 : Int) (t4_1 : Int) (out6_0 : Int) (out6_1 : Int) (K : KT ρ) : f43i N f43c24 .n (f43s3 out6_2 names1 i7 m2_0 m2_1 m2_2 t4_0 t4_1 out6_0 out6_1) (joinK (some f43l3) K) =
  impl_RenameMatrix.Z24 N out6_2 names1 i7 m2_0 m2_1 m2_2 t4_0 t4_1 out6_0 out6_1 (fun out6_2 names1 i7 m2_0 m2_1 m2_2 t4_0 t4_1 out6_0 out6_1 => K .nrm (f43s3 out6_2 names1 i7 m2_0 m2_1 m2_2 t4_0 t4_1 out6_0 out6_1)) := by kernel_rfl
noncomputable def f43c13 := codeAt (bodyOf Try.f43) [1,1,1,0,1,0,0,1]
noncomputable def f43p13 : Plan := .mk (some f43l3) none f43p14 .n
theorem f43t13 {ρ : Type} (N : Nat) (out6_2 : List Int) (names1 : List Int) (i7 : Int) (m2_0 : Int) (m2_1 : Int) (m2_2 : List Int) (t4_0 : Int) (t4_1 : Int) (out6_0 : Int) (out6_1 : Int) (K : KT ρ) : f43i N f43c13 f43p13 (f43s3 out6_2 names1 i7 m2_0 m2_1 m2_2 t4_0 t4_1 out6_0 out6_1) (joinK (some f43l3) K) =
  impl_RenameMatrix.Z13 N out6_2 names1 i7 m2_0 m2_1 m2_2 t4_0 t4_1 out6_0 out6_1 (fun out6_2 names1 i7 m2_0 m2_1 m2_2 t4_0 t4_1 out6_0 out6_1 => K .nrm (f43s3 out6_2 names1 i7 m2_0 m2_1 m2_2 t4_0 t4_1 out6_0 out6_1)) :=
  viaSeq (fun k => impl_RenameMatrix.Z14 N out6_2 names1 i7 m2_0 m2_1 m2_2 t4_0 t4_1 out6_0 out6_1 k) (by kernel_rfl) (by kernel_rfl) (f43t14 N out6_2 names1 i7 m2_0 m2_1 m2_2 t4_0 t4_1 out6_0 out6_1 (seqK (fun σ => f43i N f43c24 .n σ (joinK (some f43l3) K)) (joinK (some f43l3) K))) (funext fun out6_2 => funext fun names1 => funext fun i7 => funext fun m2_0 => funext fun m2_1 => funext fun m2_2 => funext fun t4_0 => funext fun t4_1 => funext fun out6_0 => funext fun out6_1 => f43t24 N out6_2 names1 i7 m2_0 m2_1 m2_2 t4_0 t4_1 out6_0 out6_1 K) (by kernel_rfl) (by kernel_rfl)
noncomputable def f43c11 := codeAt (bodyOf Try.f43) [1,1,1,0,1,0,0]
noncomputable def f43p11 : Plan := .mk (some f43l3) none .n f43p13
theorem f43t11 {ρ : Type} (N : Nat) (out6_2 : List Int) (names1 : List Int) (i7 : Int) (m2_0 : Int) (m2_1 : Int) (m2_2 : List Int) (t4_0 : Int) (t4_1 : Int) (out6_0 : Int) (out6_1 : Int) (K : KT ρ) : f43i N f43c11 f43p11 (f43s3 out6_2 names1 i7 m2_0 m2_1 m2_2 t4_0 t4_1 out6_0 out6_1) (joinK (some f43l3) K) =
  impl_RenameMatrix.Z11 N out6_2 names1 i7 m2_0 m2_1 m2_2 t4_0 t4_1 out6_0 out6_1 (fun out6_2 names1 i7 m2_0 m2_1 m2_2 t4_0 t4_1 out6_0 out6_1 => K .nrm (f43s3 out6_2 names1 i7 m2_0 m2_1 m2_2 t4_0 t4_1 out6_0 out6_1)) (fun out6_2 t4_0 t4_1 out6_0 out6_1 => K (.exit 0) (f43s6 out6_2 t4_0 t4_1 out6_0 out6_1)) :=
  viaSeq (fun k => impl_RenameMatrix.Z12 N out6_2 names1 i7 m2_0 m2_1 m2_2 t4_0 t4_1 out6_0 out6_1 k (fun out6_2 t4_0 t4_1 out6_0 out6_1 => K (.exit 0) (f43s6 out6_2 t4_0 t4_1 out6_0 out6_1))) (by kernel_rfl) (by kernel_rfl) (f43t12 N out6_2 names1 i7 m2_0 m2_1 m2_2 t4_0 t4_1 out6_0 out6_1 (seqK (fun σ => f43i N f43c13 f43p13 σ (joinK (some f43l3) K)) (joinK (some f43l3) K))) (funext fun out6_2 => funext fun names1 => funext fun i7 => funext fun m2_0 => funext fun m2_1 => funext fun m2_2 => funext fun t4_0 => funext fun t4_1 => funext fun out6_0 => funext fun out6_1 => f43t13 N out6_2 names1 i7 m2_0 m2_1 m2_2 t4_0 t4_1 out6_0 out6_1 K) (by kernel_rfl) (by kernel_rfl)
noncomputable def f43c10 := codeAt (bodyOf Try.f43) [1,1,1,0,1,0]
noncomputable def f43p10 : Plan := .mk none (some f43l3) f43p11 .n
noncomputable abbrev f43w10 {ρ : Type} (N : Nat) (M : Nat) (σ : St) (K : KT ρ) : Option ρ := loopC (fun σ K => f43i N f43c11 f43p11 σ K) f43l3 M σ K
theorem f43t10L {ρ : Type} (N : Nat) (K : KT ρ) : ∀ (M : Nat) (out6_2 : List Int) (names1 : List Int) (i7 : Int) (m2_0 : Int) (m2_1 : Int) (m2_2 : List Int) (t4_0 : Int) (t4_1 : Int) (out6_0 : Int) (out6_1 : Int), f43w10 N M (f43s3 out6_2 names1 i7 m2_0 m2_1 m2_2 t4_0 t4_1 out6_0 out6_1) K =
  impl_RenameMatrix.Z10L N (fun out6_2 t4_0 t4_1 out6_0 out6_1 => K (.exit 0) (f43s6 out6_2 t4_0 t4_1 out6_0 out6_1)) M out6_2 names1 i7 m2_0 m2_1 m2_2 t4_0 t4_1 out6_0 out6_1
  | 0, _, _, _, _, _, _, _, _, _, _ => rfl
  | M + 1, out6_2, names1, i7, m2_0, m2_1, m2_2, t4_0, t4_1, out6_0, out6_1 => viaRound (fun k => impl_RenameMatrix.Z11 N out6_2 names1 i7 m2_0 m2_1 m2_2 t4_0 t4_1 out6_0 out6_1 k (fun out6_2 t4_0 t4_1 out6_0 out6_1 => K (.exit 0) (f43s6 out6_2 t4_0 t4_1 out6_0 out6_1))) (f43t11 N out6_2 names1 i7 m2_0 m2_1 m2_2 t4_0 t4_1 out6_0 out6_1 (seqK (fun σ => f43w10 N M σ K) K)) (funext fun out6_2 => funext fun names1 => funext fun i7 => funext fun m2_0 => funext fun m2_1 => funext fun m2_2 => funext fun t4_0 => funext fun t4_1 => funext fun out6_0 => funext fun out6_1 => f43t10L N K M out6_2 names1 i7 m2_0 m2_1 m2_2 t4_0 t4_1 out6_0 out6_1) (by kernel_rfl) (by kernel_rfl)
theorem f43t10 {ρ : Type} (N : Nat) (out6_2 : List Int) (names1 : List Int) (i7 : Int) (m2_0 : Int) (m2_1 : Int) (m2_2 : List Int) (t4_0 : Int) (t4_1 : Int) (out6_0 : Int) (out6_1 : Int) (K : KT ρ) : f43i N f43c10 f43p10 (f43s3 out6_2 names1 i7 m2_0 m2_1 m2_2 t4_0 t4_1 out6_0 out6_1) (joinK (some f43l6) K) =
  impl_RenameMatrix.Z10 N out6_2 names1 i7 m2_0 m2_1 m2_2 t4_0 t4_1 out6_0 out6_1 (fun out6_2 t4_0 t4_1 out6_0 out6_1 => K (.exit 0) (f43s6 out6_2 t4_0 t4_1 out6_0 out6_1)) :=
  viaLoop (by kernel_rfl) (by kernel_rfl) (σ' := f43s3 out6_2 names1 i7 m2_0 m2_1 m2_2 t4_0 t4_1 out6_0 out6_1) (by kernel_rfl) (f43t10L N (joinK (some f43l6) K) N out6_2 names1 i7 m2_0 m2_1 m2_2 t4_0 t4_1 out6_0 out6_1) (by kernel_rfl)
noncomputable def f43c9 := codeAt (bodyOf Try.f43) [1,1,1,0,1]
noncomputable def f43p9 : Plan := .mk (some f43l6) none f43p10 .n
theorem f43t9 {ρ : Type} (N : Nat) (out6_2 : List Int) (names1 : List Int) (i7 : Int) (m2_0 : Int) (m2_1 : Int) (m2_2 : List Int) (t4_0 : Int) (t4_1 : Int) (out6_0 : Int) (out6_1 : Int) (K : KT ρ) : f43i N f43c9 f43p9 (f43s3 out6_2 names1 i7 m2_0 m2_1 m2_2 t4_0 t4_1 out6_0 out6_1) (joinK (some f43l6) K) =
  impl_RenameMatrix.Z9 N out6_2 names1 i7 m2_0 m2_1 m2_2 t4_0 t4_1 out6_0 out6_1 (fun out6_2 t4_0 t4_1 out6_0 out6_1 => K .nrm (f43s6 out6_2 t4_0 t4_1 out6_0 out6_1)) :=
  viaBlock (by kernel_rfl) (by kernel_rfl) (f43t10 N out6_2 names1 i7 m2_0 m2_1 m2_2 t4_0 t4_1 out6_0 out6_1 (blockK 0 (joinK (some f43l6) K))) (by kernel_rfl)
noncomputable def f43c7 := codeAt (bodyOf Try.f43) [1,1,1,0]
noncomputable def f43p7 : Plan := .mk (some f43l3) none .n f43p9
theorem f43t7 {ρ : Type} (N : Nat) (out6_2 : List Int) (names1 : List Int) (m2_0 : Int) (m2_1 : Int) (m2_2 : List Int) (t4_0 : Int) (t4_1 : Int) (out6_0 : Int) (out6_1 : Int) (K : KT ρ) : f43i N f43c7 f43p7 (f43s2 out6_2 names1 m2_0 m2_1 m2_2 t4_0 t4_1 out6_0 out6_1) (joinK (some f43l6) K) =
  impl_RenameMatrix.Z7 N out6_2 names1 m2_0 m2_1 m2_2 t4_0 t4_1 out6_0 out6_1 (fun out6_2 t4_0 t4_1 out6_0 out6_1 => K .nrm (f43s6 out6_2 t4_0 t4_1 out6_0 out6_1)) :=
  viaSeq (fun k => impl_RenameMatrix.Z8 N out6_2 names1 m2_0 m2_1 m2_2 t4_0 t4_1 out6_0 out6_1 k) (by kernel_rfl) (by kernel_rfl) (f43t8 N out6_2 names1 m2_0 m2_1 m2_2 t4_0 t4_1 out6_0 out6_1 (seqK (fun σ => f43i N f43c9 f43p9 σ (joinK (some f43l6) K)) (joinK (some f43l6) K))) (funext fun out6_2 => funext fun names1 => funext fun i7 => funext fun m2_0 => funext fun m2_1 => funext fun m2_2 => funext fun t4_0 => funext fun t4_1 => funext fun out6_0 => funext fun out6_1 => f43t9 N out6_2 names1 i7 m2_0 m2_1 m2_2 t4_0 t4_1 out6_0 out6_1 K) (by kernel_rfl) (by kernel_rfl)
noncomputable def f43c25 := codeAt (bodyOf Try.f43) [1,1,1,1]
theorem f43t25 {ρ : Type} (N : Nat) (out6_2 : List Int) (t4_0 : Int) (t4_1 : Int) (out6_0 : Int) (out6_1 : Int) (K : KT ρ) : f43i N f43c25 .n (f43s6 out6_2 t4_0 t4_1 out6_0 out6_1) (joinK (some f43lE) K) =
  impl_RenameMatrix.Z25 N out6_2 t4_0 t4_1 out6_0 out6_1 (fun t4_2 t5 t4_0 t4_1 => K .ret (f43s7 t4_2 t5 t4_0 t4_1)) := by kernel_rfl
noncomputable def f43c6 := codeAt (bodyOf Try.f43) [1,1,1]
noncomputable def f43p6 : Plan := .mk (some f43l6) none f43p7 .n
theorem f43t6 {ρ : Type} (N : Nat) (out6_2 : List Int) (names1 : List Int) (m2_0 : Int) (m2_1 : Int) (m2_2 : List Int) (t4_0 : Int) (t4_1 : Int) (out6_0 : Int) (out6_1 : Int) (K : KT ρ) : f43i N f43c6 f43p6 (f43s2 out6_2 names1 m2_0 m2_1 m2_2 t4_0 t4_1 out6_0 out6_1) (joinK (some f43lE) K) =
  impl_RenameMatrix.Z6 N out6_2 names1 m2_0 m2_1 m2_2 t4_0 t4_1 out6_0 out6_1 (fun t4_2 t5 t4_0 t4_1 => K .ret (f43s7 t4_2 t5 t4_0 t4_1)) :=
  viaSeq (fun k => impl_RenameMatrix.Z7 N out6_2 names1 m2_0 m2_1 m2_2 t4_0 t4_1 out6_0 out6_1 k) (by kernel_rfl) (by kernel_rfl) (f43t7 N out6_2 names1 m2_0 m2_1 m2_2 t4_0 t4_1 out6_0 out6_1 (seqK (fun σ => f43i N f43c25 .n σ (joinK (some f43lE) K)) (joinK (some f43lE) K))) (funext fun out6_2 => funext fun t4_0 => funext fun t4_1 => funext fun out6_0 => funext fun out6_1 => f43t25 N out6_2 t4_0 t4_1 out6_0 out6_1 K) (by kernel_rfl) (by kernel_rfl)
noncomputable def f43c4 := codeAt (bodyOf Try.f43) [1,1]
noncomputable def f43p4 : Plan := .mk (some f43l2) none .n f43p6
theorem f43t4 {ρ : Type} (N : Nat) (names1 : List Int) (m2_0 : Int) (m2_1 : Int) (m2_2 : List Int) (t4_0 : Int) (t4_1 : Int) (K : KT ρ) : f43i N f43c4 f43p4 (f43s1 names1 m2_0 m2_1 m2_2 t4_0 t4_1) (joinK (some f43lE) K) =
  impl_RenameMatrix.Z4 N names1 m2_0 m2_1 m2_2 t4_0 t4_1 (fun t4_2 t5 t4_0 t4_1 => K .ret (f43s7 t4_2 t5 t4_0 t4_1)) :=
  viaSeq (fun k => impl_RenameMatrix.Z5 N names1 m2_0 m2_1 m2_2 t4_0 t4_1 k) (by kernel_rfl) (by kernel_rfl) (f43t5 N names1 m2_0 m2_1 m2_2 t4_0 t4_1 (seqK (fun σ => f43i N f43c6 f43p6 σ (joinK (some f43lE) K)) (joinK (some f43lE) K))) (funext fun out6_2 => funext fun names1 => funext fun m2_0 => funext fun m2_1 => funext fun m2_2 => funext fun t4_0 => funext fun t4_1 => funext fun out6_0 => funext fun out6_1 => f43t6 N out6_2 names1 m2_0 m2_1 m2_2 t4_0 t4_1 out6_0 out6_1 K) (by kernel_rfl) (by kernel_rfl)
noncomputable def f43c2 := codeAt (bodyOf Try.f43) [1]
noncomputable def f43p2 : Plan := .mk (some f43l1) none .n f43p4
theorem f43t2 {ρ : Type} (N : Nat) (names1 : List Int) (m2_0 : Int) (m2_1 : Int) (m2_2 : List Int) (t4_0 : Int) (t4_1 : Int) (K : KT ρ) : f43i N f43c2 f43p2 (f43s1 names1 m2_0 m2_1 m2_2 t4_0 t4_1) (joinK (some f43lE) K) =
  impl_RenameMatrix.Z2 N names1 m2_0 m2_1 m2_2 t4_0 t4_1 (fun t4_2 t5 t4_0 t4_1 => K .ret (f43s7 t4_2 t5 t4_0 t4_1)) :=
  viaSeq (fun k => impl_RenameMatrix.Z3 N names1 m2_0 m2_1 m2_2 t4_0 t4_1 k (fun t4_2 t5 t4_0 t4_1 => K .ret (f43s7 t4_2 t5 t4_0 t4_1))) (by kernel_rfl) (by kernel_rfl) (f43t3 N names1 m2_0 m2_1 m2_2 t4_0 t4_1 (seqK (fun σ => f43i N f43c4 f43p4 σ (joinK (some f43lE) K)) (joinK (some f43lE) K))) (funext fun names1 => funext fun m2_0 => funext fun m2_1 => funext fun m2_2 => funext fun t4_0 => funext fun t4_1 => f43t4 N names1 m2_0 m2_1 m2_2 t4_0 t4_1 K) (by kernel_rfl) (by kernel_rfl)
noncomputable def f43c0 := codeAt (bodyOf Try.f43) []
noncomputable def f43p0 : Plan := .mk (some f43l1) none .n f43p2
theorem f43t0 {ρ : Type} (N : Nat) (m0 : Int × Int × List Int) (names1 : List Int) (K : KT ρ) : f43i N f43c0 f43p0 (f43s0 m0 names1) (joinK (some f43lE) K) =
  impl_RenameMatrix.Z0 N m0 names1 (fun t4_2 t5 t4_0 t4_1 => K .ret (f43s7 t4_2 t5 t4_0 t4_1)) :=
  viaSeq (fun k => impl_RenameMatrix.Z1 N m0 names1 k) (by kernel_rfl) (by kernel_rfl) (f43t1 N m0 names1 (seqK (fun σ => f43i N f43c2 f43p2 σ (joinK (some f43lE) K)) (joinK (some f43lE) K))) (funext fun names1 => funext fun m2_0 => funext fun m2_1 => funext fun m2_2 => funext fun t4_0 => funext fun t4_1 => f43t2 N names1 m2_0 m2_1 m2_2 t4_0 t4_1 K) (by kernel_rfl) (by kernel_rfl)
theorem f43m (N : Nat) (m0 : Int × Int × List Int) (names1 : List Int) : f43i N f43c0 f43p0 (f43s0 m0 names1) (joinK (some f43lE) (finK tab f43sig Try.f43.results.toList)) = impl_RenameMatrix.Z0 N m0 names1 (fun t4_2 t5 t4_0 t4_1 => some ((), ((t4_0, (t4_1, t4_2)), (t5, ())))) :=
  (f43t0 N m0 names1 (finK tab f43sig Try.f43.results.toList)).trans (by kernel_rfl)
theorem f43ok (h : impl_RenameMatrix.Spec) : EntryOk Try.prog 43 e43 :=
  entry_of_code (sig := f43sig) (c := f43c0) (pl := f43p0) (je := (some f43lE)) (B := f43B) Try.func43 (by kernel_rfl) (by kernel_rfl) (by kernel_rfl) tabOk f43GOk (by kernel_rfl) (by kernel_rfl) (by kernel_rfl) (by kernel_rfl) fun X hb hp => by
    obtain ⟨m0, names1, _⟩ := X
    obtain ⟨N, h⟩ := h m0 names1 hb.1 hb.2.1
    exact ⟨N, (f43m N m0 names1).trans (h N (Nat.le_refl N))⟩
theorem e43ok : EntryOk Try.prog 43 e43 := f43ok impl_RenameMatrix.ok
end Go.Fw
set_option linter.unusedVariables false
set_option linter.unusedSimpArgs false
set_option maxRecDepth 100000
namespace Go.Fw
open Go.Proofs
/-! ### loop.example/g03115/laws.eqIntS -/
noncomputable def f44sig : Sig := ⟨[⟨.sl 3 (.int .i64), false, false⟩, ⟨.sl 3 (.int .i64), false, false⟩], [⟨.bool, false, false⟩]⟩
noncomputable def e44 : Entry := ⟨f44sig, none, fun X => ((), ((laws_eqIntS.g X.1 X.2.1), ()))⟩
noncomputable def f44G : Nat → Option Entry := (fun _ => none)
theorem f44GOk : GOk Try.prog f44G := GOk.nil
noncomputable def f44lE : Clean := ⟨[], [], [], [], []⟩
noncomputable def f44s0 (a0 : List Int) (b1 : List Int) : St := initSt f44sig.ps (a0, (b1, ()))
noncomputable def f44s1 (a0 : List Int) (b1 : List Int) : St := stOf [(0, .c (.sn 3 (.int .i64) a0 none)), (1, .c (.sn 3 (.int .i64) b1 none))] [] []
noncomputable def f44l1 : Clean := ⟨[0, 1], [], [], [], []⟩
noncomputable def f44s2 (a0 : List Int) (b1 : List Int) (i5 : Int) : St := stOf [(0, .c (.sn 3 (.int .i64) a0 none)), (1, .c (.sn 3 (.int .i64) b1 none)), (5, .c (.int .i64 i5))] [] []
noncomputable def f44l2 : Clean := ⟨[0, 1, 5], [], [], [], []⟩
noncomputable def f44s3  : St := stOf [] [] []
noncomputable def f44l3 : Clean := ⟨[], [], [], [], []⟩
noncomputable def f44s4 (t4 : Bool) : St := stOf [(4, .c (.bool t4))] [] []
noncomputable def f44l4 : Clean := ⟨[4], [], [], [], []⟩
noncomputable def f44B : Nat → Option Clean := lookL [(0, f44l3), (1000000, f44l4)]
noncomputable abbrev f44i {ρ : Type} (N : Nat) (c : Code) (p : Plan) (σ : St) (K : KT ρ) : Option ρ := iCode f44G tab f44B N c p σ K
noncomputable def f44c1 := codeAt (bodyOf Try.f44) [0]
theorem f44t1 {ρ : Type} (N : Nat) (a0 : List Int) (b1 : List Int) (K : KT ρ) : f44i N f44c1 .n (f44s0 a0 b1) (joinK (some f44l1) K) =
  laws_eqIntS.Z1 N a0 b1 (fun a0 b1 => K .nrm (f44s1 a0 b1)) := by kernel_rfl
noncomputable def f44c3 := codeAt (bodyOf Try.f44) [1,0]
theorem f44t3 {ρ : Type} (N : Nat) (a0 : List Int) (b1 : List Int) (K : KT ρ) : f44i N f44c3 .n (f44s1 a0 b1) (joinK (some f44l1) K) =
  laws_eqIntS.Z3 N a0 b1 (fun a0 b1 => K .nrm (f44s1 a0 b1)) (fun t4 => K .ret (f44s4 t4)) := by kernel_rfl
noncomputable def f44c6 := codeAt (bodyOf Try.f44) [1,1,0,0]
theorem f44t6 {ρ : Type} (N : Nat) (a0 : List Int) (b1 : List Int) (K : KT ρ) : f44i N f44c6 .n (f44s1 a0 b1) (joinK (some f44l2) K) =
  laws_eqIntS.Z6 N a0 b1 (fun a0 b1 i5 => K .nrm (f44s2 a0 b1 i5)) := by kernel_rfl
noncomputable def f44c9 := codeAt (bodyOf Try.f44) [1,1,0,1,0,0]
theorem f44t9 {ρ : Type} (N : Nat) (a0 : List Int) (b1 : List Int) (i5 : Int) (K : KT ρ) : f44i N f44c9 .n (f44s2 a0 b1 i5) (joinK (some f44l2) K) =
  laws_eqIntS.Z9 N a0 b1 i5 (fun a0 b1 i5 => K .nrm (f44s2 a0 b1 i5)) (K (.exit 0) f44s3) (fun t4 => K .ret (f44s4 t4)) := by kernel_rfl
noncomputable def f44c8 := codeAt (bodyOf Try.f44) [1,1,0,1,0]
noncomputable def f44p8 : Plan := .mk none (some f44l2) .n .n
noncomputable abbrev f44w8 {ρ : Type} (N : Nat) (M : Nat) (σ : St) (K : KT ρ) : Option ρ := loopC (fun σ K => f44i N f44c9 .n σ K) f44l2 M σ K
theorem f44t8L {ρ : Type} (N : Nat) (K : KT ρ) : ∀ (M : Nat) (a0 : List Int) (b1 : List Int) (i5 : Int), f44w8 N M (f44s2 a0 b1 i5) K =
  laws_eqIntS.Z8L N (K (.exit 0) f44s3) (fun t4 => K .ret (f44s4 t4)) M a0 b1 i5
  | 0, _, _, _ => rfl
  | M + 1, a0, b1, i5 => viaRound (fun k => laws_eqIntS.Z9 N a0 b1 i5 k (K (.exit 0) f44s3) (fun t4 => K .ret (f44s4 t4))) (f44t9 N a0 b1 i5 (seqK (fun σ => f44w8 N M σ K) K)) (funext fun a0 => funext fun b1 => funext fun i5 => f44t8L N K M a0 b1 i5) (by kernel_rfl) (by kernel_rfl)
theorem f44t8 {ρ : Type} (N : Nat) (a0 : List Int) (b1 : List Int) (i5 : Int) (K : KT ρ) : f44i N f44c8 f44p8 (f44s2 a0 b1 i5) (joinK (some f44l3) K) =
  laws_eqIntS.Z8 N a0 b1 i5 (K (.exit 0) f44s3) (fun t4 => K .ret (f44s4 t4)) :=
  viaLoop (by kernel_rfl) (by kernel_rfl) (σ' := f44s2 a0 b1 i5) (by kernel_rfl) (f44t8L N (joinK (some f44l3) K) N a0 b1 i5) (by kernel_rfl)
noncomputable def f44c7 := codeAt (bodyOf Try.f44) [1,1,0,1]
noncomputable def f44p7 : Plan := .mk (some f44l3) none f44p8 .n
theorem f44t7 {ρ : Type} (N : Nat) (a0 : List Int) (b1 : List Int) (i5 : Int) (K : KT ρ) : f44i N f44c7 f44p7 (f44s2 a0 b1 i5) (joinK (some f44l3) K) =
  laws_eqIntS.Z7 N a0 b1 i5 (K .nrm f44s3) (fun t4 => K .ret (f44s4 t4)) :=
  viaBlock (by kernel_rfl) (by kernel_rfl) (f44t8 N a0 b1 i5 (blockK 0 (joinK (some f44l3) K))) (by kernel_rfl)
noncomputable def f44c5 := codeAt (bodyOf Try.f44) [1,1,0]
noncomputable def f44p5 : Plan := .mk (some f44l2) none .n f44p7
theorem f44t5 {ρ : Type} (N : Nat) (a0 : List Int) (b1 : List Int) (K : KT ρ) : f44i N f44c5 f44p5 (f44s1 a0 b1) (joinK (some f44l3) K) =
  laws_eqIntS.Z5 N a0 b1 (K .nrm f44s3) (fun t4 => K .ret (f44s4 t4)) :=
  viaSeq (fun k => laws_eqIntS.Z6 N a0 b1 k) (by kernel_rfl) (by kernel_rfl) (f44t6 N a0 b1 (seqK (fun σ => f44i N f44c7 f44p7 σ (joinK (some f44l3) K)) (joinK (some f44l3) K))) (funext fun a0 => funext fun b1 => funext fun i5 => f44t7 N a0 b1 i5 K) (by kernel_rfl) (by kernel_rfl)
noncomputable def f44c10 := codeAt (bodyOf Try.f44) [1,1,1]
theorem f44t10 {ρ : Type} (N : Nat)  (K : KT ρ) : f44i N f44c10 .n f44s3 (joinK (some f44lE) K) =
  laws_eqIntS.Z10 N (fun t4 => K .ret (f44s4 t4)) := by kernel_rfl
noncomputable def f44c4 := codeAt (bodyOf Try.f44) [1,1]
noncomputable def f44p4 : Plan := .mk (some f44l3) none f44p5 .n
theorem f44t4 {ρ : Type} (N : Nat) (a0 : List Int) (b1 : List Int) (K : KT ρ) : f44i N f44c4 f44p4 (f44s1 a0 b1) (joinK (some f44lE) K) =
  laws_eqIntS.Z4 N a0 b1 (fun t4 => K .ret (f44s4 t4)) :=
  viaSeq (fun k => laws_eqIntS.Z5 N a0 b1 k (fun t4 => K .ret (f44s4 t4))) (by kernel_rfl) (by kernel_rfl) (f44t5 N a0 b1 (seqK (fun σ => f44i N f44c10 .n σ (joinK (some f44lE) K)) (joinK (some f44lE) K))) (f44t10 N K) (by kernel_rfl) (by kernel_rfl)
noncomputable def f44c2 := codeAt (bodyOf Try.f44) [1]
noncomputable def f44p2 : Plan := .mk (some f44l1) none .n f44p4
theorem f44t2 {ρ : Type} (N : Nat) (a0 : List Int) (b1 : List Int) (K : KT ρ) : f44i N f44c2 f44p2 (f44s1 a0 b1) (joinK (some f44lE) K) =
  laws_eqIntS.Z2 N a0 b1 (fun t4 => K .ret (f44s4 t4)) :=
  viaSeq (fun k => laws_eqIntS.Z3 N a0 b1 k (fun t4 => K .ret (f44s4 t4))) (by kernel_rfl) (by kernel_rfl) (f44t3 N a0 b1 (seqK (fun σ => f44i N f44c4 f44p4 σ (joinK (some f44lE) K)) (joinK (some f44lE) K))) (funext fun a0 => funext fun b1 => f44t4 N a0 b1 K) (by kernel_rfl) (by kernel_rfl)
noncomputable def f44c0 := codeAt (bodyOf Try.f44) []
noncomputable def f44p0 : Plan := .mk (some f44l1) none .n f44p2
theorem f44t0 {ρ : Type} (N : Nat) (a0 : List Int) (b1 : List Int) (K : KT ρ) : f44i N f44c0 f44p0 (f44s0 a0 b1) (joinK (some f44lE) K) =
  laws_eqIntS.Z0 N a0 b1 (fun t4 => K .ret (f44s4 t4)) :=
  viaSeq (fun k => laws_eqIntS.Z1 N a0 b1 k) (by kernel_rfl) (by kernel_rfl) (f44t1 N a0 b1 (seqK (fun σ => f44i N f44c2 f44p2 σ (joinK (some f44lE) K)) (joinK (some f44lE) K))) (funext fun a0 => funext fun b1 => f44t2 N a0 b1 K) (by kernel_rfl) (by kernel_rfl)
theorem f44m (N : Nat) (a0 : List Int) (b1 : List Int) : f44i N f44c0 f44p0 (f44s0 a0 b1) (joinK (some f44lE) (finK tab f44sig Try.f44.results.toList)) = laws_eqIntS.Z0 N a0 b1 (fun t4 => some ((), (t4, ()))) :=
  (f44t0 N a0 b1 (finK tab f44sig Try.f44.results.toList)).trans (by kernel_rfl)
theorem f44ok (h : laws_eqIntS.Spec) : EntryOk Try.prog 44 e44 :=
  entry_of_code (sig := f44sig) (c := f44c0) (pl := f44p0) (je := (some f44lE)) (B := f44B) Try.func44 (by kernel_rfl) (by kernel_rfl) (by kernel_rfl) tabOk f44GOk (by kernel_rfl) (by kernel_rfl) (by kernel_rfl) (by kernel_rfl) fun X hb hp => by
    obtain ⟨a0, b1, _⟩ := X
    obtain ⟨N, h⟩ := h a0 b1 hb.1 hb.2.1
    exact ⟨N, (f44m N a0 b1).trans (h N (Nat.le_refl N))⟩
theorem e44ok : EntryOk Try.prog 44 e44 := f44ok laws_eqIntS.ok
end Go.Fw
set_option linter.unusedVariables false
set_option linter.unusedSimpArgs false
set_option maxRecDepth 100000
namespace Go.Fw
open Go.Proofs
/-! ### loop.example/g03115/laws.eqMatrix -/
noncomputable def f31sig : Sig := ⟨[⟨.pair (.int .i64) (.pair (.int .i64) (.sl 3 (.int .i64))), true, false⟩, ⟨.pair (.int .i64) (.pair (.int .i64) (.sl 3 (.int .i64))), true, false⟩], [⟨.bool, false, false⟩]⟩
noncomputable def e31 : Entry := ⟨f31sig, none, fun X => ((), ((laws_eqMatrix.g X.1 X.2.1), ()))⟩
noncomputable def f31G : Nat → Option Entry := addG (fun _ => none) 44 e44
theorem f31GOk : GOk Try.prog f31G := (GOk.nil).add e44ok (by kernel_rfl)
noncomputable def f31lE : Clean := ⟨[], [], [], [], []⟩
noncomputable def f31s0 (a0 : Int × Int × List Int) (b1 : Int × Int × List Int) : St := initSt f31sig.ps (a0, (b1, ()))
noncomputable def f31s1 (t4 : Bool) : St := stOf [(4, .c (.bool t4))] [] []
noncomputable def f31l1 : Clean := ⟨[4], [], [], [], []⟩
noncomputable def f31B : Nat → Option Clean := lookL [(1000000, f31l1)]
noncomputable abbrev f31i {ρ : Type} (N : Nat) (c : Code) (p : Plan) (σ : St) (K : KT ρ) : Option ρ := iCode f31G tab f31B N c p σ K
noncomputable def f31c0 := codeAt (bodyOf Try.f31) []
theorem f31t0 {ρ : Type} (N : Nat) (a0 : Int × Int × List Int) (b1 : Int × Int × List Int) (K : KT ρ) : f31i N f31c0 .n (f31s0 a0 b1) (joinK (some f31lE) K) =
  laws_eqMatrix.Z0 N a0 b1 (fun t4 => K .ret (f31s1 t4)) := by kernel_rfl
theorem f31m (N : Nat) (a0 : Int × Int × List Int) (b1 : Int × Int × List Int) : f31i N f31c0 .n (f31s0 a0 b1) (joinK (some f31lE) (finK tab f31sig Try.f31.results.toList)) = laws_eqMatrix.Z0 N a0 b1 (fun t4 => some ((), (t4, ()))) :=
  (f31t0 N a0 b1 (finK tab f31sig Try.f31.results.toList)).trans (by kernel_rfl)
theorem f31ok (h : laws_eqMatrix.Spec) : EntryOk Try.prog 31 e31 :=
  entry_of_code (sig := f31sig) (c := f31c0) (pl := .n) (je := (some f31lE)) (B := f31B) Try.func31 (by kernel_rfl) (by kernel_rfl) (by kernel_rfl) tabOk f31GOk (by kernel_rfl) (by kernel_rfl) (by kernel_rfl) (by kernel_rfl) fun X hb hp => by
    obtain ⟨a0, b1, _⟩ := X
    obtain ⟨N, h⟩ := h a0 b1 hb.1 hb.2.1
    exact ⟨N, (f31m N a0 b1).trans (h N (Nat.le_refl N))⟩
theorem e31ok : EntryOk Try.prog 31 e31 := f31ok laws_eqMatrix.ok
end Go.Fw
set_option linter.unusedVariables false
set_option linter.unusedSimpArgs false
set_option maxRecDepth 100000
namespace Go.Fw
open Go.Proofs
/-! ### loop.example/g03115/laws.markIntS -/
noncomputable def f45sig : Sig := ⟨[⟨.sl 3 (.int .i64), false, true⟩, ⟨.int .i64, false, false⟩], [⟨.int .i64, false, false⟩]⟩
noncomputable def e45 : Entry := ⟨f45sig, none, fun X => ((laws_markIntS.g X.1 X.2.1).1, ((laws_markIntS.g X.1 X.2.1).2, ()))⟩
noncomputable def f45G : Nat → Option Entry := (fun _ => none)
theorem f45GOk : GOk Try.prog f45G := GOk.nil
noncomputable def f45lE : Clean := ⟨[], [], [], [], []⟩
noncomputable def f45s0 (a0 : List Int) (k1 : Int) : St := initSt f45sig.ps (a0, (k1, ()))
noncomputable def f45s1 (a0 : List Int) (k1 : Int) : St := stOf [(0, .c (.own 1000000)), (1, .c (.int .i64 k1)), (100000, .c (.own 1000000))] [] [(1000000, (⟨3, .int .i64, a0, true, false⟩ : Row))]
noncomputable def f45l1 : Clean := ⟨[0, 1, 100000], [], [], [], [(⟨false, 0, 0⟩, 1000000)]⟩
noncomputable def f45s2 (a0 : List Int) (k1 : Int) (i5 : Int) : St := stOf [(0, .c (.own 1000000)), (1, .c (.int .i64 k1)), (5, .c (.int .i64 i5)), (100000, .c (.own 1000000))] [] [(1000000, (⟨3, .int .i64, a0, true, false⟩ : Row))]
noncomputable def f45l2 : Clean := ⟨[0, 1, 5, 100000], [], [], [], [(⟨false, 0, 0⟩, 1000000)]⟩
noncomputable def f45s3 (io100000 : List Int) (k1 : Int) : St := stOf [(1, .c (.int .i64 k1)), (100000, .c (.own 7400000))] [] [(7400000, (⟨3, .int .i64, io100000, true, false⟩ : Row))]
noncomputable def f45l3 : Clean := ⟨[1, 100000], [], [], [], [(⟨false, 100000, 0⟩, 7400000)]⟩
noncomputable def f45s4 (io100000 : List Int) (t4 : Int) : St := stOf [(4, .c (.int .i64 t4)), (100000, .c (.own 7400000))] [] [(7400000, (⟨3, .int .i64, io100000, true, false⟩ : Row))]
noncomputable def f45l4 : Clean := ⟨[4, 100000], [], [], [], [(⟨false, 100000, 0⟩, 7400000)]⟩
noncomputable def f45B : Nat → Option Clean := lookL [(0, f45l3), (1000000, f45l4)]
noncomputable abbrev f45i {ρ : Type} (N : Nat) (c : Code) (p : Plan) (σ : St) (K : KT ρ) : Option ρ := iCode f45G tab f45B N c p σ K
noncomputable def f45c1 := codeAt (bodyOf Try.f45) [0]
theorem f45t1 {ρ : Type} (N : Nat) (a0 : List Int) (k1 : Int) (K : KT ρ) : f45i N f45c1 .n (f45s0 a0 k1) (joinK (some f45l1) K) =
  laws_markIntS.Z1 N a0 k1 (fun a0 k1 => K .nrm (f45s1 a0 k1)) := by kernel_rfl
noncomputable def f45c4 := codeAt (bodyOf Try.f45) [1,0,0]
theorem f45t4 {ρ : Type} (N : Nat) (a0 : List Int) (k1 : Int) (K : KT ρ) : f45i N f45c4 .n (f45s1 a0 k1) (joinK (some f45l2) K) =
  laws_markIntS.Z4 N a0 k1 (fun a0 k1 i5 => K .nrm (f45s2 a0 k1 i5)) := by kernel_rfl
noncomputable def f45c7 := codeAt (bodyOf Try.f45) [1,0,1,0,0]
theorem f45t7 {ρ : Type} (N : Nat) (a0 : List Int) (k1 : Int) (i5 : Int) (K : KT ρ) : f45i N f45c7 .n (f45s2 a0 k1 i5) (joinK (some f45l2) K) =
  laws_markIntS.Z7 N a0 k1 i5 (fun a0 k1 i5 => K .nrm (f45s2 a0 k1 i5)) (fun io100000 k1 => K (.exit 0) (f45s3 io100000 k1)) := by kernel_rfl
noncomputable def f45c6 := codeAt (bodyOf Try.f45) [1,0,1,0]
noncomputable def f45p6 : Plan := .mk none (some f45l2) .n .n
noncomputable abbrev f45w6 {ρ : Type} (N : Nat) (M : Nat) (σ : St) (K : KT ρ) : Option ρ := loopC (fun σ K => f45i N f45c7 .n σ K) f45l2 M σ K
theorem f45t6L {ρ : Type} (N : Nat) (K : KT ρ) : ∀ (M : Nat) (a0 : List Int) (k1 : Int) (i5 : Int), f45w6 N M (f45s2 a0 k1 i5) K =
  laws_markIntS.Z6L N (fun io100000 k1 => K (.exit 0) (f45s3 io100000 k1)) M a0 k1 i5
  | 0, _, _, _ => rfl
  | M + 1, a0, k1, i5 => viaRound (fun k => laws_markIntS.Z7 N a0 k1 i5 k (fun io100000 k1 => K (.exit 0) (f45s3 io100000 k1))) (f45t7 N a0 k1 i5 (seqK (fun σ => f45w6 N M σ K) K)) (funext fun a0 => funext fun k1 => funext fun i5 => f45t6L N K M a0 k1 i5) (by kernel_rfl) (by kernel_rfl)
theorem f45t6 {ρ : Type} (N : Nat) (a0 : List Int) (k1 : Int) (i5 : Int) (K : KT ρ) : f45i N f45c6 f45p6 (f45s2 a0 k1 i5) (joinK (some f45l3) K) =
  laws_markIntS.Z6 N a0 k1 i5 (fun io100000 k1 => K (.exit 0) (f45s3 io100000 k1)) :=
  viaLoop (by kernel_rfl) (by kernel_rfl) (σ' := f45s2 a0 k1 i5) (by kernel_rfl) (f45t6L N (joinK (some f45l3) K) N a0 k1 i5) (by kernel_rfl)
noncomputable def f45c5 := codeAt (bodyOf Try.f45) [1,0,1]
noncomputable def f45p5 : Plan := .mk (some f45l3) none f45p6 .n
theorem f45t5 {ρ : Type} (N : Nat) (a0 : List Int) (k1 : Int) (i5 : Int) (K : KT ρ) : f45i N f45c5 f45p5 (f45s2 a0 k1 i5) (joinK (some f45l3) K) =
  laws_markIntS.Z5 N a0 k1 i5 (fun io100000 k1 => K .nrm (f45s3 io100000 k1)) :=
  viaBlock (by kernel_rfl) (by kernel_rfl) (f45t6 N a0 k1 i5 (blockK 0 (joinK (some f45l3) K))) (by kernel_rfl)
noncomputable def f45c3 := codeAt (bodyOf Try.f45) [1,0]
noncomputable def f45p3 : Plan := .mk (some f45l2) none .n f45p5
theorem f45t3 {ρ : Type} (N : Nat) (a0 : List Int) (k1 : Int) (K : KT ρ) : f45i N f45c3 f45p3 (f45s1 a0 k1) (joinK (some f45l3) K) =
  laws_markIntS.Z3 N a0 k1 (fun io100000 k1 => K .nrm (f45s3 io100000 k1)) :=
  viaSeq (fun k => laws_markIntS.Z4 N a0 k1 k) (by kernel_rfl) (by kernel_rfl) (f45t4 N a0 k1 (seqK (fun σ => f45i N f45c5 f45p5 σ (joinK (some f45l3) K)) (joinK (some f45l3) K))) (funext fun a0 => funext fun k1 => funext fun i5 => f45t5 N a0 k1 i5 K) (by kernel_rfl) (by kernel_rfl)
noncomputable def f45c8 := codeAt (bodyOf Try.f45) [1,1]
theorem f45t8 {ρ : Type} (N : Nat) (io100000 : List Int) (k1 : Int) (K : KT ρ) : f45i N f45c8 .n (f45s3 io100000 k1) (joinK (some f45lE) K) =
  laws_markIntS.Z8 N io100000 k1 (fun io100000 t4 => K .ret (f45s4 io100000 t4)) := by kernel_rfl
noncomputable def f45c2 := codeAt (bodyOf Try.f45) [1]
noncomputable def f45p2 : Plan := .mk (some f45l3) none f45p3 .n
theorem f45t2 {ρ : Type} (N : Nat) (a0 : List Int) (k1 : Int) (K : KT ρ) : f45i N f45c2 f45p2 (f45s1 a0 k1) (joinK (some f45lE) K) =
  laws_markIntS.Z2 N a0 k1 (fun io100000 t4 => K .ret (f45s4 io100000 t4)) :=
  viaSeq (fun k => laws_markIntS.Z3 N a0 k1 k) (by kernel_rfl) (by kernel_rfl) (f45t3 N a0 k1 (seqK (fun σ => f45i N f45c8 .n σ (joinK (some f45lE) K)) (joinK (some f45lE) K))) (funext fun io100000 => funext fun k1 => f45t8 N io100000 k1 K) (by kernel_rfl) (by kernel_rfl)
noncomputable def f45c0 := codeAt (bodyOf Try.f45) []
noncomputable def f45p0 : Plan := .mk (some f45l1) none .n f45p2
theorem f45t0 {ρ : Type} (N : Nat) (a0 : List Int) (k1 : Int) (K : KT ρ) : f45i N f45c0 f45p0 (f45s0 a0 k1) (joinK (some f45lE) K) =
  laws_markIntS.Z0 N a0 k1 (fun io100000 t4 => K .ret (f45s4 io100000 t4)) :=
  viaSeq (fun k => laws_markIntS.Z1 N a0 k1 k) (by kernel_rfl) (by kernel_rfl) (f45t1 N a0 k1 (seqK (fun σ => f45i N f45c2 f45p2 σ (joinK (some f45lE) K)) (joinK (some f45lE) K))) (funext fun a0 => funext fun k1 => f45t2 N a0 k1 K) (by kernel_rfl) (by kernel_rfl)
theorem f45m (N : Nat) (a0 : List Int) (k1 : Int) : f45i N f45c0 f45p0 (f45s0 a0 k1) (joinK (some f45lE) (finK tab f45sig Try.f45.results.toList)) = laws_markIntS.Z0 N a0 k1 (fun io100000 t4 => some (io100000, (t4, ()))) :=
  (f45t0 N a0 k1 (finK tab f45sig Try.f45.results.toList)).trans (by kernel_rfl)
theorem f45ok (h : laws_markIntS.Spec) : EntryOk Try.prog 45 e45 :=
  entry_of_code (sig := f45sig) (c := f45c0) (pl := f45p0) (je := (some f45lE)) (B := f45B) Try.func45 (by kernel_rfl) (by kernel_rfl) (by kernel_rfl) tabOk f45GOk (by kernel_rfl) (by kernel_rfl) (by kernel_rfl) (by kernel_rfl) fun X hb hp => by
    obtain ⟨a0, k1, _⟩ := X
    obtain ⟨N, h⟩ := h a0 k1 hb.1
    exact ⟨N, (f45m N a0 k1).trans (h N (Nat.le_refl N))⟩
theorem e45ok : EntryOk Try.prog 45 e45 := f45ok laws_markIntS.ok
end Go.Fw
set_option linter.unusedVariables false
set_option linter.unusedSimpArgs false
set_option maxRecDepth 100000
namespace Go.Fw
open Go.Proofs
/-! ### loop.example/g03115/laws.markMatrix -/
noncomputable def f32sig : Sig := ⟨[⟨.pair (.int .i64) (.pair (.int .i64) (.sl 3 (.int .i64))), true, true⟩, ⟨.int .i64, false, false⟩], [⟨.int .i64, false, false⟩]⟩
noncomputable def e32 : Entry := ⟨f32sig, none, fun X => ((laws_markMatrix.g X.1 X.2.1).1, ((laws_markMatrix.g X.1 X.2.1).2, ()))⟩
noncomputable def f32G : Nat → Option Entry := addG (fun _ => none) 45 e45
theorem f32GOk : GOk Try.prog f32G := (GOk.nil).add e45ok (by kernel_rfl)
noncomputable def f32lE : Clean := ⟨[], [], [], [], []⟩
noncomputable def f32s0 (a0 : Int × Int × List Int) (k1 : Int) : St := initSt f32sig.ps (a0, (k1, ()))
noncomputable def f32s1 (io100000_2 : List Int) (t4 : Int) (io100000_0 : Int) (io100000_1 : Int) : St := stOf [(4, .c (.int .i64 t4)), (100000, .agg [.int .i64 io100000_0, .int .i64 io100000_1, .own 7400002])] [] [(7400002, (⟨3, .int .i64, io100000_2, true, false⟩ : Row))]
noncomputable def f32l1 : Clean := ⟨[4, 100000], [], [], [], [(⟨false, 100000, 2⟩, 7400002)]⟩
noncomputable def f32B : Nat → Option Clean := lookL [(1000000, f32l1)]
noncomputable abbrev f32i {ρ : Type} (N : Nat) (c : Code) (p : Plan) (σ : St) (K : KT ρ) : Option ρ := iCode f32G tab f32B N c p σ K
noncomputable def f32c0 := codeAt (bodyOf Try.f32) []
theorem f32t0 {ρ : Type} (N : Nat) (a0 : Int × Int × List Int) (k1 : Int) (K : KT ρ) : f32i N f32c0 .n (f32s0 a0 k1) (joinK (some f32lE) K) =
  laws_markMatrix.Z0 N a0 k1 (fun io100000_2 t4 io100000_0 io100000_1 => K .ret (f32s1 io100000_2 t4 io100000_0 io100000_1)) := by kernel_rfl
theorem f32m (N : Nat) (a0 : Int × Int × List Int) (k1 : Int) : f32i N f32c0 .n (f32s0 a0 k1) (joinK (some f32lE) (finK tab f32sig Try.f32.results.toList)) = laws_markMatrix.Z0 N a0 k1 (fun io100000_2 t4 io100000_0 io100000_1 => some ((io100000_0, (io100000_1, io100000_2)), (t4, ()))) :=
  (f32t0 N a0 k1 (finK tab f32sig Try.f32.results.toList)).trans (by kernel_rfl)
theorem f32ok (h : laws_markMatrix.Spec) : EntryOk Try.prog 32 e32 :=
  entry_of_code (sig := f32sig) (c := f32c0) (pl := .n) (je := (some f32lE)) (B := f32B) Try.func32 (by kernel_rfl) (by kernel_rfl) (by kernel_rfl) tabOk f32GOk (by kernel_rfl) (by kernel_rfl) (by kernel_rfl) (by kernel_rfl) fun X hb hp => by
    obtain ⟨a0, k1, _⟩ := X
    obtain ⟨N, h⟩ := h a0 k1 hb.1
    exact ⟨N, (f32m N a0 k1).trans (h N (Nat.le_refl N))⟩
theorem e32ok : EntryOk Try.prog 32 e32 := f32ok laws_markMatrix.ok
end Go.Fw
set_option linter.unusedVariables false
set_option linter.unusedSimpArgs false
set_option maxRecDepth 100000
namespace Go.Fw
open Go.Proofs
/-! ### loop.example/g03115/laws.heldIntS -/
noncomputable def f73sig : Sig := ⟨[⟨.sl 3 (.int .i64), false, false⟩, ⟨.int .i64, false, false⟩], [⟨.int .i64, false, false⟩]⟩
noncomputable def e73 : Entry := ⟨f73sig, none, fun X => ((), ((laws_heldIntS.g X.1 X.2.1), ()))⟩
noncomputable def f73G : Nat → Option Entry := (fun _ => none)
theorem f73GOk : GOk Try.prog f73G := GOk.nil
noncomputable def f73lE : Clean := ⟨[], [], [], [], []⟩
noncomputable def f73s0 (a0 : List Int) (k1 : Int) : St := initSt f73sig.ps (a0, (k1, ()))
noncomputable def f73s1 (a0 : List Int) (k1 : Int) : St := stOf [(0, .c (.sn 3 (.int .i64) a0 none)), (1, .c (.int .i64 k1))] [] []
noncomputable def f73l1 : Clean := ⟨[0, 1], [], [], [], []⟩
noncomputable def f73s2 (a0 : List Int) (k1 : Int) (i5 : Int) : St := stOf [(0, .c (.sn 3 (.int .i64) a0 none)), (1, .c (.int .i64 k1)), (5, .c (.int .i64 i5))] [] []
noncomputable def f73l2 : Clean := ⟨[0, 1, 5], [], [], [], []⟩
noncomputable def f73s3 (k1 : Int) : St := stOf [(1, .c (.int .i64 k1))] [] []
noncomputable def f73l3 : Clean := ⟨[1], [], [], [], []⟩
noncomputable def f73s4 (t4 : Int) : St := stOf [(4, .c (.int .i64 t4))] [] []
noncomputable def f73l4 : Clean := ⟨[4], [], [], [], []⟩
noncomputable def f73B : Nat → Option Clean := lookL [(0, f73l3), (1000000, f73l4)]
noncomputable abbrev f73i {ρ : Type} (N : Nat) (c : Code) (p : Plan) (σ : St) (K : KT ρ) : Option ρ := iCode f73G tab f73B N c p σ K
noncomputable def f73c1 := codeAt (bodyOf Try.f73) [0]
theorem f73t1 {ρ : Type} (N : Nat) (a0 : List Int) (k1 : Int) (K : KT ρ) : f73i N f73c1 .n (f73s0 a0 k1) (joinK (some f73l1) K) =
  laws_heldIntS.Z1 N a0 k1 (fun a0 k1 => K .nrm (f73s1 a0 k1)) := by kernel_rfl
noncomputable def f73c4 := codeAt (bodyOf Try.f73) [1,0,0]
theorem f73t4 {ρ : Type} (N : Nat) (a0 : List Int) (k1 : Int) (K : KT ρ) : f73i N f73c4 .n (f73s1 a0 k1) (joinK (some f73l2) K) =
  laws_heldIntS.Z4 N a0 k1 (fun a0 k1 i5 => K .nrm (f73s2 a0 k1 i5)) := by kernel_rfl
noncomputable def f73c7 := codeAt (bodyOf Try.f73) [1,0,1,0,0]
theorem f73t7 {ρ : Type} (N : Nat) (a0 : List Int) (k1 : Int) (i5 : Int) (K : KT ρ) : f73i N f73c7 .n (f73s2 a0 k1 i5) (joinK (some f73l2) K) =
  laws_heldIntS.Z7 N a0 k1 i5 (fun a0 k1 i5 => K .nrm (f73s2 a0 k1 i5)) (fun k1 => K (.exit 0) (f73s3 k1)) (fun t4 => K .ret (f73s4 t4)) := by kernel_rfl
noncomputable def f73c6 := codeAt (bodyOf Try.f73) [1,0,1,0]
noncomputable def f73p6 : Plan := .mk none (some f73l2) .n .n
noncomputable abbrev f73w6 {ρ : Type} (N : Nat) (M : Nat) (σ : St) (K : KT ρ) : Option ρ := loopC (fun σ K => f73i N f73c7 .n σ K) f73l2 M σ K
theorem f73t6L {ρ : Type} (N : Nat) (K : KT ρ) : ∀ (M : Nat) (a0 : List Int) (k1 : Int) (i5 : Int), f73w6 N M (f73s2 a0 k1 i5) K =
  laws_heldIntS.Z6L N (fun k1 => K (.exit 0) (f73s3 k1)) (fun t4 => K .ret (f73s4 t4)) M a0 k1 i5
  | 0, _, _, _ => rfl
  | M + 1, a0, k1, i5 => viaRound (fun k => laws_heldIntS.Z7 N a0 k1 i5 k (fun k1 => K (.exit 0) (f73s3 k1)) (fun t4 => K .ret (f73s4 t4))) (f73t7 N a0 k1 i5 (seqK (fun σ => f73w6 N M σ K) K)) (funext fun a0 => funext fun k1 => funext fun i5 => f73t6L N K M a0 k1 i5) (by kernel_rfl) (by kernel_rfl)
theorem f73t6 {ρ : Type} (N : Nat) (a0 : List Int) (k1 : Int) (i5 : Int) (K : KT ρ) : f73i N f73c6 f73p6 (f73s2 a0 k1 i5) (joinK (some f73l3) K) =
  laws_heldIntS.Z6 N a0 k1 i5 (fun k1 => K (.exit 0) (f73s3 k1)) (fun t4 => K .ret (f73s4 t4)) :=
  viaLoop (by kernel_rfl) (by kernel_rfl) (σ' := f73s2 a0 k1 i5) (by kernel_rfl) (f73t6L N (joinK (some f73l3) K) N a0 k1 i5) (by kernel_rfl)
noncomputable def f73c5 := codeAt (bodyOf Try.f73) [1,0,1]
noncomputable def f73p5 : Plan := .mk (some f73l3) none f73p6 .n
theorem f73t5 {ρ : Type} (N : Nat) (a0 : List Int) (k1 : Int) (i5 : Int) (K : KT ρ) : f73i N f73c5 f73p5 (f73s2 a0 k1 i5) (joinK (some f73l3) K) =
  laws_heldIntS.Z5 N a0 k1 i5 (fun k1 => K .nrm (f73s3 k1)) (fun t4 => K .ret (f73s4 t4)) :=
  viaBlock (by kernel_rfl) (by kernel_rfl) (f73t6 N a0 k1 i5 (blockK 0 (joinK (some f73l3) K))) (by kernel_rfl)
noncomputable def f73c3 := codeAt (bodyOf Try.f73) [1,0]
noncomputable def f73p3 : Plan := .mk (some f73l2) none .n f73p5
theorem f73t3 {ρ : Type} (N : Nat) (a0 : List Int) (k1 : Int) (K : KT ρ) : f73i N f73c3 f73p3 (f73s1 a0 k1) (joinK (some f73l3) K) =
  laws_heldIntS.Z3 N a0 k1 (fun k1 => K .nrm (f73s3 k1)) (fun t4 => K .ret (f73s4 t4)) :=
  viaSeq (fun k => laws_heldIntS.Z4 N a0 k1 k) (by kernel_rfl) (by kernel_rfl) (f73t4 N a0 k1 (seqK (fun σ => f73i N f73c5 f73p5 σ (joinK (some f73l3) K)) (joinK (some f73l3) K))) (funext fun a0 => funext fun k1 => funext fun i5 => f73t5 N a0 k1 i5 K) (by kernel_rfl) (by kernel_rfl)
noncomputable def f73c8 := codeAt (bodyOf Try.f73) [1,1]
theorem f73t8 {ρ : Type} (N : Nat) (k1 : Int) (K : KT ρ) : f73i N f73c8 .n (f73s3 k1) (joinK (some f73lE) K) =
  laws_heldIntS.Z8 N k1 (fun t4 => K .ret (f73s4 t4)) := by kernel_rfl
noncomputable def f73c2 := codeAt (bodyOf Try.f73) [1]
noncomputable def f73p2 : Plan := .mk (some f73l3) none f73p3 .n
theorem f73t2 {ρ : Type} (N : Nat) (a0 : List Int) (k1 : Int) (K : KT ρ) : f73i N f73c2 f73p2 (f73s1 a0 k1) (joinK (some f73lE) K) =
  laws_heldIntS.Z2 N a0 k1 (fun t4 => K .ret (f73s4 t4)) :=
  viaSeq (fun k => laws_heldIntS.Z3 N a0 k1 k (fun t4 => K .ret (f73s4 t4))) (by kernel_rfl) (by kernel_rfl) (f73t3 N a0 k1 (seqK (fun σ => f73i N f73c8 .n σ (joinK (some f73lE) K)) (joinK (some f73lE) K))) (funext fun k1 => f73t8 N k1 K) (by kernel_rfl) (by kernel_rfl)
noncomputable def f73c0 := codeAt (bodyOf Try.f73) []
noncomputable def f73p0 : Plan := .mk (some f73l1) none .n f73p2
theorem f73t0 {ρ : Type} (N : Nat) (a0 : List Int) (k1 : Int) (K : KT ρ) : f73i N f73c0 f73p0 (f73s0 a0 k1) (joinK (some f73lE) K) =
  laws_heldIntS.Z0 N a0 k1 (fun t4 => K .ret (f73s4 t4)) :=
  viaSeq (fun k => laws_heldIntS.Z1 N a0 k1 k) (by kernel_rfl) (by kernel_rfl) (f73t1 N a0 k1 (seqK (fun σ => f73i N f73c2 f73p2 σ (joinK (some f73lE) K)) (joinK (some f73lE) K))) (funext fun a0 => funext fun k1 => f73t2 N a0 k1 K) (by kernel_rfl) (by kernel_rfl)
theorem f73m (N : Nat) (a0 : List Int) (k1 : Int) : f73i N f73c0 f73p0 (f73s0 a0 k1) (joinK (some f73lE) (finK tab f73sig Try.f73.results.toList)) = laws_heldIntS.Z0 N a0 k1 (fun t4 => some ((), (t4, ()))) :=
  (f73t0 N a0 k1 (finK tab f73sig Try.f73.results.toList)).trans (by kernel_rfl)
theorem f73ok (h : laws_heldIntS.Spec) : EntryOk Try.prog 73 e73 :=
  entry_of_code (sig := f73sig) (c := f73c0) (pl := f73p0) (je := (some f73lE)) (B := f73B) Try.func73 (by kernel_rfl) (by kernel_rfl) (by kernel_rfl) tabOk f73GOk (by kernel_rfl) (by kernel_rfl) (by kernel_rfl) (by kernel_rfl) fun X hb hp => by
    obtain ⟨a0, k1, _⟩ := X
    obtain ⟨N, h⟩ := h a0 k1 hb.1
    exact ⟨N, (f73m N a0 k1).trans (h N (Nat.le_refl N))⟩
theorem e73ok : EntryOk Try.prog 73 e73 := f73ok laws_heldIntS.ok
end Go.Fw
set_option linter.unusedVariables false
set_option linter.unusedSimpArgs false
set_option maxRecDepth 100000
namespace Go.Fw
open Go.Proofs
/-! ### loop.example/g03115/laws.heldMatrix -/
noncomputable def f33sig : Sig := ⟨[⟨.pair (.int .i64) (.pair (.int .i64) (.sl 3 (.int .i64))), true, false⟩, ⟨.int .i64, false, false⟩], [⟨.int .i64, false, false⟩]⟩
noncomputable def e33 : Entry := ⟨f33sig, none, fun X => ((), ((laws_heldMatrix.g X.1 X.2.1), ()))⟩
noncomputable def f33G : Nat → Option Entry := addG (fun _ => none) 73 e73
theorem f33GOk : GOk Try.prog f33G := (GOk.nil).add e73ok (by kernel_rfl)
noncomputable def f33lE : Clean := ⟨[], [], [], [], []⟩
noncomputable def f33s0 (a0 : Int × Int × List Int) (k1 : Int) : St := initSt f33sig.ps (a0, (k1, ()))
noncomputable def f33s1 (t4 : Int) : St := stOf [(4, .c (.int .i64 t4))] [] []
noncomputable def f33l1 : Clean := ⟨[4], [], [], [], []⟩
noncomputable def f33B : Nat → Option Clean := lookL [(1000000, f33l1)]
noncomputable abbrev f33i {ρ : Type} (N : Nat) (c : Code) (p : Plan) (σ : St) (K : KT ρ) : Option ρ := iCode f33G tab f33B N c p σ K
noncomputable def f33c0 := codeAt (bodyOf Try.f33) []
theorem f33t0 {ρ : Type} (N : Nat) (a0 : Int × Int × List Int) (k1 : Int) (K : KT ρ) : f33i N f33c0 .n (f33s0 a0 k1) (joinK (some f33lE) K) =
  laws_heldMatrix.Z0 N a0 k1 (fun t4 => K .ret (f33s1 t4)) := by kernel_rfl
theorem f33m (N : Nat) (a0 : Int × Int × List Int) (k1 : Int) : f33i N f33c0 .n (f33s0 a0 k1) (joinK (some f33lE) (finK tab f33sig Try.f33.results.toList)) = laws_heldMatrix.Z0 N a0 k1 (fun t4 => some ((), (t4, ()))) :=
  (f33t0 N a0 k1 (finK tab f33sig Try.f33.results.toList)).trans (by kernel_rfl)
theorem f33ok (h : laws_heldMatrix.Spec) : EntryOk Try.prog 33 e33 :=
  entry_of_code (sig := f33sig) (c := f33c0) (pl := .n) (je := (some f33lE)) (B := f33B) Try.func33 (by kernel_rfl) (by kernel_rfl) (by kernel_rfl) tabOk f33GOk (by kernel_rfl) (by kernel_rfl) (by kernel_rfl) (by kernel_rfl) fun X hb hp => by
    obtain ⟨a0, k1, _⟩ := X
    obtain ⟨N, h⟩ := h a0 k1 hb.1
    exact ⟨N, (f33m N a0 k1).trans (h N (Nat.le_refl N))⟩
theorem e33ok : EntryOk Try.prog 33 e33 := f33ok laws_heldMatrix.ok
end Go.Fw
set_option linter.unusedVariables false
set_option linter.unusedSimpArgs false
set_option maxRecDepth 100000
namespace Go.Fw
open Go.Proofs
/-! ### loop.example/g03115/laws.FnExactRenameMatrix -/
noncomputable def f8sig : Sig := ⟨[⟨.pair (.int .i64) (.pair (.int .i64) (.sl 3 (.int .i64))), true, false⟩, ⟨.sl 3 (.int .i64), false, false⟩], [⟨.bool, false, false⟩]⟩
noncomputable def e8 : Entry := ⟨f8sig, none, fun X => ((), ((laws_FnExactRenameMatrix.g X.1 X.2.1), ()))⟩
noncomputable def f8G : Nat → Option Entry := addG (addG (addG (addG (addG (addG (addG (addG (addG (addG (fun _ => none) 27 e27) 29 e29) 31 e31) 32 e32) 33 e33) 41 e41) 42 e42) 43 e43) 44 e44) 45 e45
theorem f8GOk : GOk Try.prog f8G := ((((((((((GOk.nil).add e27ok (by kernel_rfl)).add e29ok (by kernel_rfl)).add e31ok (by kernel_rfl)).add e32ok (by kernel_rfl)).add e33ok (by kernel_rfl)).add e41ok (by kernel_rfl)).add e42ok (by kernel_rfl)).add e43ok (by kernel_rfl)).add e44ok (by kernel_rfl)).add e45ok (by kernel_rfl)
noncomputable def f8lE : Clean := ⟨[], [], [], [], []⟩
noncomputable def f8s0 (aM0 : Int × Int × List Int) (aNames1 : List Int) : St := initSt f8sig.ps (aM0, (aNames1, ()))
noncomputable def f8s1 (aNames1 : List Int) (aM2_0 : Int) (aM2_1 : Int) (aM2_2 : List Int) : St := stOf [(1, .c (.sn 3 (.int .i64) aNames1 none)), (2, .c (.box 2 0))] [(2, (41, [.int .i64 aM2_0, .int .i64 aM2_1, .sn 3 (.int .i64) aM2_2 none]))] []
noncomputable def f8l1 : Clean := ⟨[1, 2], [2], [], [], []⟩
noncomputable def f8s2 (aNames1 : List Int) (left5 : Int) (aM2_0 : Int) (aM2_1 : Int) (aM2_2 : List Int) : St := stOf [(1, .c (.sn 3 (.int .i64) aNames1 none)), (2, .c (.box 2 0)), (5, .c (.int .i64 left5))] [(2, (41, [.int .i64 aM2_0, .int .i64 aM2_1, .sn 3 (.int .i64) aM2_2 none]))] []
noncomputable def f8l2 : Clean := ⟨[1, 2, 5], [2], [], [], []⟩
noncomputable def f8s3 (w06_2 : List Int) (aNames1 : List Int) (w17 : Bool) (aM2_0 : Int) (aM2_1 : Int) (aM2_2 : List Int) (w06_0 : Int) (w06_1 : Int) : St := stOf [(1, .c (.sn 3 (.int .i64) aNames1 none)), (2, .c (.box 2 0)), (6, .c (.box 6 0)), (7, .c (.bool w17))] [(2, (41, [.int .i64 aM2_0, .int .i64 aM2_1, .sn 3 (.int .i64) aM2_2 none])), (6, (26, [.int .i64 w06_0, .int .i64 w06_1, .own 20000386]))] [(20000386, (⟨3, .int .i64, w06_2, true, false⟩ : Row))]
noncomputable def f8l3 : Clean := ⟨[1, 2, 6, 7], [2, 6], [], [], [(⟨true, 6, 2⟩, 20000386)]⟩
noncomputable def f8s4 (w06_2 : List Int) (x08_2 : List Int) (aNames1 : List Int) (w17 : Bool) (aM2_0 : Int) (aM2_1 : Int) (aM2_2 : List Int) (w06_0 : Int) (w06_1 : Int) (x08_0 : Int) (x08_1 : Int) : St := stOf [(1, .c (.sn 3 (.int .i64) aNames1 none)), (2, .c (.box 2 0)), (6, .c (.box 6 0)), (7, .c (.bool w17)), (8, .c (.box 8 0))] [(2, (41, [.int .i64 aM2_0, .int .i64 aM2_1, .sn 3 (.int .i64) aM2_2 none])), (6, (26, [.int .i64 w06_0, .int .i64 w06_1, .own 20000386])), (8, (26, [.int .i64 x08_0, .int .i64 x08_1, .own 20000514]))] [(20000386, (⟨3, .int .i64, w06_2, true, false⟩ : Row)), (20000514, (⟨3, .int .i64, x08_2, true, false⟩ : Row))]
noncomputable def f8l4 : Clean := ⟨[1, 2, 6, 7, 8], [2, 6, 8], [], [], [(⟨true, 6, 2⟩, 20000386), (⟨true, 8, 2⟩, 20000514)]⟩
noncomputable def f8s5 (x19 : List Int) (w06_2 : List Int) (x08_2 : List Int) (aNames1 : List Int) (w17 : Bool) (aM2_0 : Int) (aM2_1 : Int) (aM2_2 : List Int) (w06_0 : Int) (w06_1 : Int) (x08_0 : Int) (x08_1 : Int) : St := stOf [(1, .c (.sn 3 (.int .i64) aNames1 none)), (2, .c (.box 2 0)), (6, .c (.box 6 0)), (7, .c (.bool w17)), (8, .c (.box 8 0)), (9, .c (.own 1000576))] [(2, (41, [.int .i64 aM2_0, .int .i64 aM2_1, .sn 3 (.int .i64) aM2_2 none])), (6, (26, [.int .i64 w06_0, .int .i64 w06_1, .own 20000386])), (8, (26, [.int .i64 x08_0, .int .i64 x08_1, .own 20000514]))] [(1000576, (⟨3, .int .i64, x19, true, false⟩ : Row)), (20000386, (⟨3, .int .i64, w06_2, true, false⟩ : Row)), (20000514, (⟨3, .int .i64, x08_2, true, false⟩ : Row))]
noncomputable def f8l5 : Clean := ⟨[1, 2, 6, 7, 8, 9], [2, 6, 8], [], [], [(⟨false, 9, 0⟩, 1000576), (⟨true, 6, 2⟩, 20000386), (⟨true, 8, 2⟩, 20000514)]⟩
noncomputable def f8s6 (x19 : List Int) (w06_2 : List Int) (x08_2 : List Int) (g010_2 : List Int) (aNames1 : List Int) (w17 : Bool) (g111 : Bool) (aM2_0 : Int) (aM2_1 : Int) (aM2_2 : List Int) (w06_0 : Int) (w06_1 : Int) (x08_0 : Int) (x08_1 : Int) (g010_0 : Int) (g010_1 : Int) : St := stOf [(1, .c (.sn 3 (.int .i64) aNames1 none)), (2, .c (.box 2 0)), (6, .c (.box 6 0)), (7, .c (.bool w17)), (8, .c (.box 8 0)), (9, .c (.own 1000576)), (10, .c (.box 10 0)), (11, .c (.bool g111))] [(2, (41, [.int .i64 aM2_0, .int .i64 aM2_1, .sn 3 (.int .i64) aM2_2 none])), (6, (26, [.int .i64 w06_0, .int .i64 w06_1, .own 20000386])), (8, (26, [.int .i64 x08_0, .int .i64 x08_1, .own 20000514])), (10, (26, [.int .i64 g010_0, .int .i64 g010_1, .own 20000642]))] [(1000576, (⟨3, .int .i64, x19, true, false⟩ : Row)), (20000386, (⟨3, .int .i64, w06_2, true, false⟩ : Row)), (20000514, (⟨3, .int .i64, x08_2, true, false⟩ : Row)), (20000642, (⟨3, .int .i64, g010_2, true, false⟩ : Row))]
noncomputable def f8l6 : Clean := ⟨[1, 2, 6, 7, 8, 9, 10, 11], [2, 6, 8, 10], [], [], [(⟨false, 9, 0⟩, 1000576), (⟨true, 6, 2⟩, 20000386), (⟨true, 8, 2⟩, 20000514), (⟨true, 10, 2⟩, 20000642)]⟩
noncomputable def f8s7 (x19 : List Int) (w06_2 : List Int) (x08_2 : List Int) (g010_2 : List Int) (aNames1 : List Int) (w17 : Bool) (g111 : Bool) (k12 : Int) (aM2_0 : Int) (aM2_1 : Int) (aM2_2 : List Int) (w06_0 : Int) (w06_1 : Int) (x08_0 : Int) (x08_1 : Int) (g010_0 : Int) (g010_1 : Int) : St := stOf [(1, .c (.sn 3 (.int .i64) aNames1 none)), (2, .c (.box 2 0)), (6, .c (.box 6 0)), (7, .c (.bool w17)), (8, .c (.box 8 0)), (9, .c (.own 1000576)), (10, .c (.box 10 0)), (11, .c (.bool g111)), (12, .c (.int .i64 k12))] [(2, (41, [.int .i64 aM2_0, .int .i64 aM2_1, .sn 3 (.int .i64) aM2_2 none])), (6, (26, [.int .i64 w06_0, .int .i64 w06_1, .own 20000386])), (8, (26, [.int .i64 x08_0, .int .i64 x08_1, .own 20000514])), (10, (26, [.int .i64 g010_0, .int .i64 g010_1, .own 20000642]))] [(1000576, (⟨3, .int .i64, x19, true, false⟩ : Row)), (20000386, (⟨3, .int .i64, w06_2, true, false⟩ : Row)), (20000514, (⟨3, .int .i64, x08_2, true, false⟩ : Row)), (20000642, (⟨3, .int .i64, g010_2, true, false⟩ : Row))]
noncomputable def f8l7 : Clean := ⟨[1, 2, 6, 7, 8, 9, 10, 11, 12], [2, 6, 8, 10], [], [], [(⟨false, 9, 0⟩, 1000576), (⟨true, 6, 2⟩, 20000386), (⟨true, 8, 2⟩, 20000514), (⟨true, 10, 2⟩, 20000642)]⟩
noncomputable def f8s8 (x19 : List Int) (w06_2 : List Int) (g010_2 : List Int) (aNames1 : List Int) (w17 : Bool) (g111 : Bool) (k12 : Int) (aM2_0 : Int) (aM2_1 : Int) (aM2_2 : List Int) (w06_0 : Int) (w06_1 : Int) (g010_0 : Int) (g010_1 : Int) : St := stOf [(1, .c (.sn 3 (.int .i64) aNames1 none)), (2, .c (.box 2 0)), (6, .c (.box 6 0)), (7, .c (.bool w17)), (9, .c (.own 1000576)), (10, .c (.box 10 0)), (11, .c (.bool g111)), (12, .c (.int .i64 k12))] [(2, (41, [.int .i64 aM2_0, .int .i64 aM2_1, .sn 3 (.int .i64) aM2_2 none])), (6, (26, [.int .i64 w06_0, .int .i64 w06_1, .own 20000386])), (10, (26, [.int .i64 g010_0, .int .i64 g010_1, .own 20000642]))] [(1000576, (⟨3, .int .i64, x19, true, false⟩ : Row)), (20000386, (⟨3, .int .i64, w06_2, true, false⟩ : Row)), (20000642, (⟨3, .int .i64, g010_2, true, false⟩ : Row))]
noncomputable def f8l8 : Clean := ⟨[1, 2, 6, 7, 9, 10, 11, 12], [2, 6, 10], [], [], [(⟨false, 9, 0⟩, 1000576), (⟨true, 6, 2⟩, 20000386), (⟨true, 10, 2⟩, 20000642)]⟩
noncomputable def f8s9 (w06_2 : List Int) (g010_2 : List Int) (aNames1 : List Int) (w17 : Bool) (g111 : Bool) (k12 : Int) (aM2_0 : Int) (aM2_1 : Int) (aM2_2 : List Int) (w06_0 : Int) (w06_1 : Int) (g010_0 : Int) (g010_1 : Int) : St := stOf [(1, .c (.sn 3 (.int .i64) aNames1 none)), (2, .c (.box 2 0)), (6, .c (.box 6 0)), (7, .c (.bool w17)), (10, .c (.box 10 0)), (11, .c (.bool g111)), (12, .c (.int .i64 k12))] [(2, (41, [.int .i64 aM2_0, .int .i64 aM2_1, .sn 3 (.int .i64) aM2_2 none])), (6, (26, [.int .i64 w06_0, .int .i64 w06_1, .own 20000386])), (10, (26, [.int .i64 g010_0, .int .i64 g010_1, .own 20000642]))] [(20000386, (⟨3, .int .i64, w06_2, true, false⟩ : Row)), (20000642, (⟨3, .int .i64, g010_2, true, false⟩ : Row))]
noncomputable def f8l9 : Clean := ⟨[1, 2, 6, 7, 10, 11, 12], [2, 6, 10], [], [], [(⟨true, 6, 2⟩, 20000386), (⟨true, 10, 2⟩, 20000642)]⟩
noncomputable def f8s10 (w06_2 : List Int) (g010_2 : List Int) (aNames1 : List Int) (w17 : Bool) (aM2_0 : Int) (aM2_1 : Int) (aM2_2 : List Int) (w06_0 : Int) (w06_1 : Int) (g010_0 : Int) (g010_1 : Int) : St := stOf [(1, .c (.sn 3 (.int .i64) aNames1 none)), (2, .c (.box 2 0)), (6, .c (.box 6 0)), (7, .c (.bool w17)), (10, .c (.box 10 0))] [(2, (41, [.int .i64 aM2_0, .int .i64 aM2_1, .sn 3 (.int .i64) aM2_2 none])), (6, (26, [.int .i64 w06_0, .int .i64 w06_1, .own 20000386])), (10, (26, [.int .i64 g010_0, .int .i64 g010_1, .own 20000642]))] [(20000386, (⟨3, .int .i64, w06_2, true, false⟩ : Row)), (20000642, (⟨3, .int .i64, g010_2, true, false⟩ : Row))]
noncomputable def f8l10 : Clean := ⟨[1, 2, 6, 7, 10], [2, 6, 10], [], [], [(⟨true, 6, 2⟩, 20000386), (⟨true, 10, 2⟩, 20000642)]⟩
noncomputable def f8s11 (t4 : Bool) : St := stOf [(4, .c (.bool t4))] [] []
noncomputable def f8l11 : Clean := ⟨[4], [], [], [], []⟩
noncomputable def f8B : Nat → Option Clean := lookL [(1000000, f8l11)]
noncomputable abbrev f8i {ρ : Type} (N : Nat) (c : Code) (p : Plan) (σ : St) (K : KT ρ) : Option ρ := iCode f8G tab f8B N c p σ K
noncomputable def f8c1 := codeAt (bodyOf Try.f8) [0]
theorem f8t1 {ρ : Type} (N : Nat) (aM0 : Int × Int × List Int) (aNames1 : List Int) (K : KT ρ) : f8i N f8c1 .n (f8s0 aM0 aNames1) (joinK (some f8l1) K) =
  laws_FnExactRenameMatrix.Z1 N aM0 aNames1 (fun aNames1 aM2_0 aM2_1 aM2_2 => K .nrm (f8s1 aNames1 aM2_0 aM2_1 aM2_2)) := by kernel_rfl
noncomputable def f8c3 := codeAt (bodyOf Try.f8) [1,0]
theorem f8t3 {ρ : Type} (N : Nat) (aNames1 : List Int) (aM2_0 : Int) (aM2_1 : Int) (aM2_2 : List Int) (K : KT ρ) : f8i N f8c3 .n (f8s1 aNames1 aM2_0 aM2_1 aM2_2) (joinK (some f8l1) K) =
  laws_FnExactRenameMatrix.Z3 N aNames1 aM2_0 aM2_1 aM2_2 (fun aNames1 aM2_0 aM2_1 aM2_2 => K .nrm (f8s1 aNames1 aM2_0 aM2_1 aM2_2)) (fun t4 => K .ret (f8s11 t4)) := by kernel_rfl
noncomputable def f8c5 := codeAt (bodyOf Try.f8) [1,1,0]
theorem f8t5 {ρ : Type} (N : Nat) (aNames1 : List Int) (aM2_0 : Int) (aM2_1 : Int) (aM2_2 : List Int) (K : KT ρ) : f8i N f8c5 .n (f8s1 aNames1 aM2_0 aM2_1 aM2_2) (joinK (some f8l2) K) =
  laws_FnExactRenameMatrix.Z5 N aNames1 aM2_0 aM2_1 aM2_2 (fun aNames1 left5 aM2_0 aM2_1 aM2_2 => K .nrm (f8s2 aNames1 left5 aM2_0 aM2_1 aM2_2)) := by kernel_rfl
noncomputable def f8c7 := codeAt (bodyOf Try.f8) [1,1,1,0]
theorem f8t7 {ρ : Type} (N : Nat) (aNames1 : List Int) (left5 : Int) (aM2_0 : Int) (aM2_1 : Int) (aM2_2 : List Int) (K : KT ρ) : f8i N f8c7 .n (f8s2 aNames1 left5 aM2_0 aM2_1 aM2_2) (joinK (some f8l2) K) =
  laws_FnExactRenameMatrix.Z7 N aNames1 left5 aM2_0 aM2_1 aM2_2 (fun aNames1 left5 aM2_0 aM2_1 aM2_2 => K .nrm (f8s2 aNames1 left5 aM2_0 aM2_1 aM2_2)) := by kernel_rfl
noncomputable def f8c9 := codeAt (bodyOf Try.f8) [1,1,1,1,0]
theorem f8t9 {ρ : Type} (N : Nat) (aNames1 : List Int) (left5 : Int) (aM2_0 : Int) (aM2_1 : Int) (aM2_2 : List Int) (K : KT ρ) : f8i N f8c9 .n (f8s2 aNames1 left5 aM2_0 aM2_1 aM2_2) (joinK (some f8l1) K) =
  laws_FnExactRenameMatrix.Z9 N aNames1 left5 aM2_0 aM2_1 aM2_2 (fun aNames1 aM2_0 aM2_1 aM2_2 => K .nrm (f8s1 aNames1 aM2_0 aM2_1 aM2_2)) (fun t4 => K .ret (f8s11 t4)) := by kernel_rfl
noncomputable def f8c11 := codeAt (bodyOf Try.f8) [1,1,1,1,1,0]
theorem f8t11 {ρ : Type} (N : Nat) (aNames1 : List Int) (aM2_0 : Int) (aM2_1 : Int) (aM2_2 : List Int) (K : KT ρ) : f8i N f8c11 .n (f8s1 aNames1 aM2_0 aM2_1 aM2_2) (joinK (some f8l3) K) =
  laws_FnExactRenameMatrix.Z11 N aNames1 aM2_0 aM2_1 aM2_2 (fun w06_2 aNames1 w17 aM2_0 aM2_1 aM2_2 w06_0 w06_1 => K .nrm (f8s3 w06_2 aNames1 w17 aM2_0 aM2_1 aM2_2 w06_0 w06_1)) := by kernel_rfl
noncomputable def f8c13 := codeAt (bodyOf Try.f8) [1,1,1,1,1,1,0]
theorem f8t13 {ρ : Type} (N : Nat) (w06_2 : List Int) (aNames1 : List Int) (w17 : Bool) (aM2_0 : Int) (aM2_1 : Int) (aM2_2 : List Int) (w06_0 : Int) (w06_1 : Int) (K : KT ρ) : f8i N f8c13 .n (f8s3 w06_2 aNames1 w17 aM2_0 aM2_1 aM2_2 w06_0 w06_1) (joinK (some f8l4) K) =
  laws_FnExactRenameMatrix.Z13 N w06_2 aNames1 w17 aM2_0 aM2_1 aM2_2 w06_0 w06_1 (fun w06_2 x08_2 aNames1 w17 aM2_0 aM2_1 aM2_2 w06_0 w06_1 x08_0 x08_1 => K .nrm (f8s4 w06_2 x08_2 aNames1 w17 aM2_0 aM2_1 aM2_2 w06_0 w06_1 x08_0 x08_1)) := by kernel_rfl
noncomputable def f8c15 := codeAt (bodyOf Try.f8) [1,1,1,1,1,1,1,0]
theorem f8t15 {ρ : Type} (N : Nat) (w06_2 : List Int) (x08_2 : List Int) (aNames1 : List Int) (w17 : Bool) (aM2_0 : Int) (aM2_1 : Int) (aM2_2 : List Int) (w06_0 : Int) (w06_1 : Int) (x08_0 : Int) (x08_1 : Int) (K : KT ρ) : f8i N f8c15 .n (f8s4 w06_2 x08_2 aNames1 w17 aM2_0 aM2_1 aM2_2 w06_0 w06_1 x08_0 x08_1) (joinK (some f8l5) K) =
  laws_FnExactRenameMatrix.Z15 N w06_2 x08_2 aNames1 w17 aM2_0 aM2_1 aM2_2 w06_0 w06_1 x08_0 x08_1 (fun x19 w06_2 x08_2 aNames1 w17 aM2_0 aM2_1 aM2_2 w06_0 w06_1 x08_0 x08_1 => K .nrm (f8s5 x19 w06_2 x08_2 aNames1 w17 aM2_0 aM2_1 aM2_2 w06_0 w06_1 x08_0 x08_1)) := by kernel_rfl
noncomputable def f8c17 := codeAt (bodyOf Try.f8) [1,1,1,1,1,1,1,1,0]
theorem f8t17 {ρ : Type} (N : Nat) (x19 : List Int) (w06_2 : List Int) (x08_2 : List Int) (aNames1 : List Int) (w17 : Bool) (aM2_0 : Int) (aM2_1 : Int) (aM2_2 : List Int) (w06_0 : Int) (w06_1 : Int) (x08_0 : Int) (x08_1 : Int) (K : KT ρ) : f8i N f8c17 .n (f8s5 x19 w06_2 x08_2 aNames1 w17 aM2_0 aM2_1 aM2_2 w06_0 w06_1 x08_0 x08_1) (joinK (some f8l6) K) =
  laws_FnExactRenameMatrix.Z17 N x19 w06_2 x08_2 aNames1 w17 aM2_0 aM2_1 aM2_2 w06_0 w06_1 x08_0 x08_1 (fun x19 w06_2 x08_2 g010_2 aNames1 w17 g111 aM2_0 aM2_1 aM2_2 w06_0 w06_1 x08_0 x08_1 g010_0 g010_1 => K .nrm (f8s6 x19 w06_2 x08_2 g010_2 aNames1 w17 g111 aM2_0 aM2_1 aM2_2 w06_0 w06_1 x08_0 x08_1 g010_0 g010_1)) := by kernel_rfl
noncomputable def f8c19 := codeAt (bodyOf Try.f8) [1,1,1,1,1,1,1,1,1,0]
theorem f8t19 {ρ : Type} (N : Nat) (x19 : List Int) (w06_2 : List Int) (x08_2 : List Int) (g010_2 : List Int) (aNames1 : List Int) (w17 : Bool) (g111 : Bool) (aM2_0 : Int) (aM2_1 : Int) (aM2_2 : List Int) (w06_0 : Int) (w06_1 : Int) (x08_0 : Int) (x08_1 : Int) (g010_0 : Int) (g010_1 : Int) (K : KT ρ) : f8i N f8c19 .n (f8s6 x19 w06_2 x08_2 g010_2 aNames1 w17 g111 aM2_0 aM2_1 aM2_2 w06_0 w06_1 x08_0 x08_1 g010_0 g010_1) (joinK (some f8l6) K) =
  laws_FnExactRenameMatrix.Z19 N x19 w06_2 x08_2 g010_2 aNames1 w17 g111 aM2_0 aM2_1 aM2_2 w06_0 w06_1 x08_0 x08_1 g010_0 g010_1 (fun x19 w06_2 x08_2 g010_2 aNames1 w17 g111 aM2_0 aM2_1 aM2_2 w06_0 w06_1 x08_0 x08_1 g010_0 g010_1 => K .nrm (f8s6 x19 w06_2 x08_2 g010_2 aNames1 w17 g111 aM2_0 aM2_1 aM2_2 w06_0 w06_1 x08_0 x08_1 g010_0 g010_1)) (fun t4 => K .ret (f8s11 t4)) := by kernel_rfl
noncomputable def f8c21 := codeAt (bodyOf Try.f8) [1,1,1,1,1,1,1,1,1,1,0]
theorem f8t21 {ρ : Type} (N : Nat) (x19 : List Int) (w06_2 : List Int) (x08_2 : List Int) (g010_2 : List Int) (aNames1 : List Int) (w17 : Bool) (g111 : Bool) (aM2_0 : Int) (aM2_1 : Int) (aM2_2 : List Int) (w06_0 : Int) (w06_1 : Int) (x08_0 : Int) (x08_1 : Int) (g010_0 : Int) (g010_1 : Int) (K : KT ρ) : f8i N f8c21 .n (f8s6 x19 w06_2 x08_2 g010_2 aNames1 w17 g111 aM2_0 aM2_1 aM2_2 w06_0 w06_1 x08_0 x08_1 g010_0 g010_1) (joinK (some f8l6) K) =
  laws_FnExactRenameMatrix.Z21 N x19 w06_2 x08_2 g010_2 aNames1 w17 g111 aM2_0 aM2_1 aM2_2 w06_0 w06_1 x08_0 x08_1 g010_0 g010_1 (fun x19 w06_2 x08_2 g010_2 aNames1 w17 g111 aM2_0 aM2_1 aM2_2 w06_0 w06_1 x08_0 x08_1 g010_0 g010_1 => K .nrm (f8s6 x19 w06_2 x08_2 g010_2 aNames1 w17 g111 aM2_0 aM2_1 aM2_2 w06_0 w06_1 x08_0 x08_1 g010_0 g010_1)) (fun t4 => K .ret (f8s11 t4)) := by kernel_rfl
noncomputable def f8c23 := codeAt (bodyOf Try.f8) [1,1,1,1,1,1,1,1,1,1,1,0]
theorem f8t23 {ρ : Type} (N : Nat) (x19 : List Int) (w06_2 : List Int) (x08_2 : List Int) (g010_2 : List Int) (aNames1 : List Int) (w17 : Bool) (g111 : Bool) (aM2_0 : Int) (aM2_1 : Int) (aM2_2 : List Int) (w06_0 : Int) (w06_1 : Int) (x08_0 : Int) (x08_1 : Int) (g010_0 : Int) (g010_1 : Int) (K : KT ρ) : f8i N f8c23 .n (f8s6 x19 w06_2 x08_2 g010_2 aNames1 w17 g111 aM2_0 aM2_1 aM2_2 w06_0 w06_1 x08_0 x08_1 g010_0 g010_1) (joinK (some f8l6) K) =
  laws_FnExactRenameMatrix.Z23 N x19 w06_2 x08_2 g010_2 aNames1 w17 g111 aM2_0 aM2_1 aM2_2 w06_0 w06_1 x08_0 x08_1 g010_0 g010_1 (fun x19 w06_2 x08_2 g010_2 aNames1 w17 g111 aM2_0 aM2_1 aM2_2 w06_0 w06_1 x08_0 x08_1 g010_0 g010_1 => K .nrm (f8s6 x19 w06_2 x08_2 g010_2 aNames1 w17 g111 aM2_0 aM2_1 aM2_2 w06_0 w06_1 x08_0 x08_1 g010_0 g010_1)) (fun t4 => K .ret (f8s11 t4)) := by kernel_rfl
noncomputable def f8c25 := codeAt (bodyOf Try.f8) [1,1,1,1,1,1,1,1,1,1,1,1,0]
theorem f8t25 {ρ : Type} (N : Nat) (x19 : List Int) (w06_2 : List Int) (x08_2 : List Int) (g010_2 : List Int) (aNames1 : List Int) (w17 : Bool) (g111 : Bool) (aM2_0 : Int) (aM2_1 : Int) (aM2_2 : List Int) (w06_0 : Int) (w06_1 : Int) (x08_0 : Int) (x08_1 : Int) (g010_0 : Int) (g010_1 : Int) (K : KT ρ) : f8i N f8c25 .n (f8s6 x19 w06_2 x08_2 g010_2 aNames1 w17 g111 aM2_0 aM2_1 aM2_2 w06_0 w06_1 x08_0 x08_1 g010_0 g010_1) (joinK (some f8l7) K) =
  laws_FnExactRenameMatrix.Z25 N x19 w06_2 x08_2 g010_2 aNames1 w17 g111 aM2_0 aM2_1 aM2_2 w06_0 w06_1 x08_0 x08_1 g010_0 g010_1 (fun x19 w06_2 x08_2 g010_2 aNames1 w17 g111 k12 aM2_0 aM2_1 aM2_2 w06_0 w06_1 x08_0 x08_1 g010_0 g010_1 => K .nrm (f8s7 x19 w06_2 x08_2 g010_2 aNames1 w17 g111 k12 aM2_0 aM2_1 aM2_2 w06_0 w06_1 x08_0 x08_1 g010_0 g010_1)) := by kernel_rfl
noncomputable def f8c27 := codeAt (bodyOf Try.f8) [1,1,1,1,1,1,1,1,1,1,1,1,1,0]
theorem f8t27 {ρ : Type} (N : Nat) (x19 : List Int) (w06_2 : List Int) (x08_2 : List Int) (g010_2 : List Int) (aNames1 : List Int) (w17 : Bool) (g111 : Bool) (k12 : Int) (aM2_0 : Int) (aM2_1 : Int) (aM2_2 : List Int) (w06_0 : Int) (w06_1 : Int) (x08_0 : Int) (x08_1 : Int) (g010_0 : Int) (g010_1 : Int) (K : KT ρ) : f8i N f8c27 .n (f8s7 x19 w06_2 x08_2 g010_2 aNames1 w17 g111 k12 aM2_0 aM2_1 aM2_2 w06_0 w06_1 x08_0 x08_1 g010_0 g010_1) (joinK (some f8l8) K) =
  laws_FnExactRenameMatrix.Z27 N x19 w06_2 x08_2 g010_2 aNames1 w17 g111 k12 aM2_0 aM2_1 aM2_2 w06_0 w06_1 x08_0 x08_1 g010_0 g010_1 (fun x19 w06_2 g010_2 aNames1 w17 g111 k12 aM2_0 aM2_1 aM2_2 w06_0 w06_1 g010_0 g010_1 => K .nrm (f8s8 x19 w06_2 g010_2 aNames1 w17 g111 k12 aM2_0 aM2_1 aM2_2 w06_0 w06_1 g010_0 g010_1)) := by kernel_rfl
noncomputable def f8c29 := codeAt (bodyOf Try.f8) [1,1,1,1,1,1,1,1,1,1,1,1,1,1,0]
theorem f8t29 {ρ : Type} (N : Nat) (x19 : List Int) (w06_2 : List Int) (g010_2 : List Int) (aNames1 : List Int) (w17 : Bool) (g111 : Bool) (k12 : Int) (aM2_0 : Int) (aM2_1 : Int) (aM2_2 : List Int) (w06_0 : Int) (w06_1 : Int) (g010_0 : Int) (g010_1 : Int) (K : KT ρ) : f8i N f8c29 .n (f8s8 x19 w06_2 g010_2 aNames1 w17 g111 k12 aM2_0 aM2_1 aM2_2 w06_0 w06_1 g010_0 g010_1) (joinK (some f8l9) K) =
  laws_FnExactRenameMatrix.Z29 N x19 w06_2 g010_2 aNames1 w17 g111 k12 aM2_0 aM2_1 aM2_2 w06_0 w06_1 g010_0 g010_1 (fun w06_2 g010_2 aNames1 w17 g111 k12 aM2_0 aM2_1 aM2_2 w06_0 w06_1 g010_0 g010_1 => K .nrm (f8s9 w06_2 g010_2 aNames1 w17 g111 k12 aM2_0 aM2_1 aM2_2 w06_0 w06_1 g010_0 g010_1)) := by kernel_rfl
noncomputable def f8c31 := codeAt (bodyOf Try.f8) [1,1,1,1,1,1,1,1,1,1,1,1,1,1,1,0]
theorem f8t31 {ρ : Type} (N : Nat) (w06_2 : List Int) (g010_2 : List Int) (aNames1 : List Int) (w17 : Bool) (g111 : Bool) (k12 : Int) (aM2_0 : Int) (aM2_1 : Int) (aM2_2 : List Int) (w06_0 : Int) (w06_1 : Int) (g010_0 : Int) (g010_1 : Int) (K : KT ρ) : f8i N f8c31 .n (f8s9 w06_2 g010_2 aNames1 w17 g111 k12 aM2_0 aM2_1 aM2_2 w06_0 w06_1 g010_0 g010_1) (joinK (some f8l10) K) =
  laws_FnExactRenameMatrix.Z31 N w06_2 g010_2 aNames1 w17 g111 k12 aM2_0 aM2_1 aM2_2 w06_0 w06_1 g010_0 g010_1 (fun w06_2 g010_2 aNames1 w17 aM2_0 aM2_1 aM2_2 w06_0 w06_1 g010_0 g010_1 => K .nrm (f8s10 w06_2 g010_2 aNames1 w17 aM2_0 aM2_1 aM2_2 w06_0 w06_1 g010_0 g010_1)) (fun t4 => K .ret (f8s11 t4)) := by kernel_rfl
noncomputable def f8c32 := codeAt (bodyOf Try.f8) [1,1,1,1,1,1,1,1,1,1,1,1,1,1,1,1]
theorem f8t32 {ρ : Type} (N : Nat) (w06_2 : List Int) (g010_2 : List Int) (aNames1 : List Int) (w17 : Bool) (aM2_0 : Int) (aM2_1 : Int) (aM2_2 : List Int) (w06_0 : Int) (w06_1 : Int) (g010_0 : Int) (g010_1 : Int) (K : KT ρ) : f8i N f8c32 .n (f8s10 w06_2 g010_2 aNames1 w17 aM2_0 aM2_1 aM2_2 w06_0 w06_1 g010_0 g010_1) (joinK (some f8lE) K) =
  laws_FnExactRenameMatrix.Z32 N w06_2 g010_2 aNames1 w17 aM2_0 aM2_1 aM2_2 w06_0 w06_1 g010_0 g010_1 (fun t4 => K .ret (f8s11 t4)) := by kernel_rfl
noncomputable def f8c30 := codeAt (bodyOf Try.f8) [1,1,1,1,1,1,1,1,1,1,1,1,1,1,1]
noncomputable def f8p30 : Plan := .mk (some f8l10) none .n .n
theorem f8t30 {ρ : Type} (N : Nat) (w06_2 : List Int) (g010_2 : List Int) (aNames1 : List Int) (w17 : Bool) (g111 : Bool) (k12 : Int) (aM2_0 : Int) (aM2_1 : Int) (aM2_2 : List Int) (w06_0 : Int) (w06_1 : Int) (g010_0 : Int) (g010_1 : Int) (K : KT ρ) : f8i N f8c30 f8p30 (f8s9 w06_2 g010_2 aNames1 w17 g111 k12 aM2_0 aM2_1 aM2_2 w06_0 w06_1 g010_0 g010_1) (joinK (some f8lE) K) =
  laws_FnExactRenameMatrix.Z30 N w06_2 g010_2 aNames1 w17 g111 k12 aM2_0 aM2_1 aM2_2 w06_0 w06_1 g010_0 g010_1 (fun t4 => K .ret (f8s11 t4)) :=
  viaSeq (fun k => laws_FnExactRenameMatrix.Z31 N w06_2 g010_2 aNames1 w17 g111 k12 aM2_0 aM2_1 aM2_2 w06_0 w06_1 g010_0 g010_1 k (fun t4 => K .ret (f8s11 t4))) (by kernel_rfl) (by kernel_rfl) (f8t31 N w06_2 g010_2 aNames1 w17 g111 k12 aM2_0 aM2_1 aM2_2 w06_0 w06_1 g010_0 g010_1 (seqK (fun σ => f8i N f8c32 .n σ (joinK (some f8lE) K)) (joinK (some f8lE) K))) (funext fun w06_2 => funext fun g010_2 => funext fun aNames1 => funext fun w17 => funext fun aM2_0 => funext fun aM2_1 => funext fun aM2_2 => funext fun w06_0 => funext fun w06_1 => funext fun g010_0 => funext fun g010_1 => f8t32 N w06_2 g010_2 aNames1 w17 aM2_0 aM2_1 aM2_2 w06_0 w06_1 g010_0 g010_1 K) (by kernel_rfl) (by kernel_rfl)
noncomputable def f8c28 := codeAt (bodyOf Try.f8) [1,1,1,1,1,1,1,1,1,1,1,1,1,1]
noncomputable def f8p28 : Plan := .mk (some f8l9) none .n f8p30
theorem f8t28 {ρ : Type} (N : Nat) (x19 : List Int) (w06_2 : List Int) (g010_2 : List Int) (aNames1 : List Int) (w17 : Bool) (g111 : Bool) (k12 : Int) (aM2_0 : Int) (aM2_1 : Int) (aM2_2 : List Int) (w06_0 : Int) (w06_1 : Int) (g010_0 : Int) (g010_1 : Int) (K : KT ρ) : f8i N f8c28 f8p28 (f8s8 x19 w06_2 g010_2 aNames1 w17 g111 k12 aM2_0 aM2_1 aM2_2 w06_0 w06_1 g010_0 g010_1) (joinK (some f8lE) K) =
  laws_FnExactRenameMatrix.Z28 N x19 w06_2 g010_2 aNames1 w17 g111 k12 aM2_0 aM2_1 aM2_2 w06_0 w06_1 g010_0 g010_1 (fun t4 => K .ret (f8s11 t4)) :=
  viaSeq (fun k => laws_FnExactRenameMatrix.Z29 N x19 w06_2 g010_2 aNames1 w17 g111 k12 aM2_0 aM2_1 aM2_2 w06_0 w06_1 g010_0 g010_1 k) (by kernel_rfl) (by kernel_rfl) (f8t29 N x19 w06_2 g010_2 aNames1 w17 g111 k12 aM2_0 aM2_1 aM2_2 w06_0 w06_1 g010_0 g010_1 (seqK (fun σ => f8i N f8c30 f8p30 σ (joinK (some f8lE) K)) (joinK (some f8lE) K))) (funext fun w06_2 => funext fun g010_2 => funext fun aNames1 => funext fun w17 => funext fun g111 => funext fun k12 => funext fun aM2_0 => funext fun aM2_1 => funext fun aM2_2 => funext fun w06_0 => funext fun w06_1 => funext fun g010_0 => funext fun g010_1 => f8t30 N w06_2 g010_2 aNames1 w17 g111 k12 aM2_0 aM2_1 aM2_2 w06_0 w06_1 g010_0 g010_1 K) (by kernel_rfl) (by kernel_rfl)
noncomputable def f8c26 := codeAt (bodyOf Try.f8) [1,1,1,1,1,1,1,1,1,1,1,1,1]
noncomputable def f8p26 : Plan := .mk (some f8l8) none .n f8p28
theorem f8t26 {ρ : Type} (N : Nat) (x19 : List Int) (w06_2 : List Int) (x08_2 : List Int) (g010_2 : List Int) (aNames1 : List Int) (w17 : Bool) (g111 : Bool) (k12 : Int) (aM2_0 : Int) (aM2_1 : Int) (aM2_2 : List Int) (w06_0 : Int) (w06_1 : Int) (x08_0 : Int) (x08_1 : Int) (g010_0 : Int) (g010_1 : Int) (K : KT ρ) : f8i N f8c26 f8p26 (f8s7 x19 w06_2 x08_2 g010_2 aNames1 w17 g111 k12 aM2_0 aM2_1 aM2_2 w06_0 w06_1 x08_0 x08_1 g010_0 g010_1) (joinK (some f8lE) K) =
  laws_FnExactRenameMatrix.Z26 N x19 w06_2 x08_2 g010_2 aNames1 w17 g111 k12 aM2_0 aM2_1 aM2_2 w06_0 w06_1 x08_0 x08_1 g010_0 g010_1 (fun t4 => K .ret (f8s11 t4)) :=
  viaSeq (fun k => laws_FnExactRenameMatrix.Z27 N x19 w06_2 x08_2 g010_2 aNames1 w17 g111 k12 aM2_0 aM2_1 aM2_2 w06_0 w06_1 x08_0 x08_1 g010_0 g010_1 k) (by kernel_rfl) (by kernel_rfl) (f8t27 N x19 w06_2 x08_2 g010_2 aNames1 w17 g111 k12 aM2_0 aM2_1 aM2_2 w06_0 w06_1 x08_0 x08_1 g010_0 g010_1 (seqK (fun σ => f8i N f8c28 f8p28 σ (joinK (some f8lE) K)) (joinK (some f8lE) K))) (funext fun x19 => funext fun w06_2 => funext fun g010_2 => funext fun aNames1 => funext fun w17 => funext fun g111 => funext fun k12 => funext fun aM2_0 => funext fun aM2_1 => funext fun aM2_2 => funext fun w06_0 => funext fun w06_1 => funext fun g010_0 => funext fun g010_1 => f8t28 N x19 w06_2 g010_2 aNames1 w17 g111 k12 aM2_0 aM2_1 aM2_2 w06_0 w06_1 g010_0 g010_1 K) (by kernel_rfl) (by kernel_rfl)
noncomputable def f8c24 := codeAt (bodyOf Try.f8) [1,1,1,1,1,1,1,1,1,1,1,1]
noncomputable def f8p24 : Plan := .mk (some f8l7) none .n f8p26
theorem f8t24 {ρ : Type} (N : Nat) (x19 : List Int) (w06_2 : List Int) (x08_2 : List Int) (g010_2 : List Int) (aNames1 : List Int) (w17 : Bool) (g111 : Bool) (aM2_0 : Int) (aM2_1 : Int) (aM2_2 : List Int) (w06_0 : Int) (w06_1 : Int) (x08_0 : Int) (x08_1 : Int) (g010_0 : Int) (g010_1 : Int) (K : KT ρ) : f8i N f8c24 f8p24 (f8s6 x19 w06_2 x08_2 g010_2 aNames1 w17 g111 aM2_0 aM2_1 aM2_2 w06_0 w06_1 x08_0 x08_1 g010_0 g010_1) (joinK (some f8lE) K) =
  laws_FnExactRenameMatrix.Z24 N x19 w06_2 x08_2 g010_2 aNames1 w17 g111 aM2_0 aM2_1 aM2_2 w06_0 w06_1 x08_0 x08_1 g010_0 g010_1 (fun t4 => K .ret (f8s11 t4)) :=
  viaSeq (fun k => laws_FnExactRenameMatrix.Z25 N x19 w06_2 x08_2 g010_2 aNames1 w17 g111 aM2_0 aM2_1 aM2_2 w06_0 w06_1 x08_0 x08_1 g010_0 g010_1 k) (by kernel_rfl) (by kernel_rfl) (f8t25 N x19 w06_2 x08_2 g010_2 aNames1 w17 g111 aM2_0 aM2_1 aM2_2 w06_0 w06_1 x08_0 x08_1 g010_0 g010_1 (seqK (fun σ => f8i N f8c26 f8p26 σ (joinK (some f8lE) K)) (joinK (some f8lE) K))) (funext fun x19 => funext fun w06_2 => funext fun x08_2 => funext fun g010_2 => funext fun aNames1 => funext fun w17 => funext fun g111 => funext fun k12 => funext fun aM2_0 => funext fun aM2_1 => funext fun aM2_2 => funext fun w06_0 => funext fun w06_1 => funext fun x08_0 => funext fun x08_1 => funext fun g010_0 => funext fun g010_1 => f8t26 N x19 w06_2 x08_2 g010_2 aNames1 w17 g111 k12 aM2_0 aM2_1 aM2_2 w06_0 w06_1 x08_0 x08_1 g010_0 g010_1 K) (by kernel_rfl) (by kernel_rfl)
noncomputable def f8c22 := codeAt (bodyOf Try.f8) [1,1,1,1,1,1,1,1,1,1,1]
noncomputable def f8p22 : Plan := .mk (some f8l6) none .n f8p24
theorem f8t22 {ρ : Type} (N : Nat) (x19 : List Int) (w06_2 : List Int) (x08_2 : List Int) (g010_2 : List Int) (aNames1 : List Int) (w17 : Bool) (g111 : Bool) (aM2_0 : Int) (aM2_1 : Int) (aM2_2 : List Int) (w06_0 : Int) (w06_1 : Int) (x08_0 : Int) (x08_1 : Int) (g010_0 : Int) (g010_1 : Int) (K : KT ρ) : f8i N f8c22 f8p22 (f8s6 x19 w06_2 x08_2 g010_2 aNames1 w17 g111 aM2_0 aM2_1 aM2_2 w06_0 w06_1 x08_0 x08_1 g010_0 g010_1) (joinK (some f8lE) K) =
  laws_FnExactRenameMatrix.Z22 N x19 w06_2 x08_2 g010_2 aNames1 w17 g111 aM2_0 aM2_1 aM2_2 w06_0 w06_1 x08_0 x08_1 g010_0 g010_1 (fun t4 => K .ret (f8s11 t4)) :=
  viaSeq (fun k => laws_FnExactRenameMatrix.Z23 N x19 w06_2 x08_2 g010_2 aNames1 w17 g111 aM2_0 aM2_1 aM2_2 w06_0 w06_1 x08_0 x08_1 g010_0 g010_1 k (fun t4 => K .ret (f8s11 t4))) (by kernel_rfl) (by kernel_rfl) (f8t23 N x19 w06_2 x08_2 g010_2 aNames1 w17 g111 aM2_0 aM2_1 aM2_2 w06_0 w06_1 x08_0 x08_1 g010_0 g010_1 (seqK (fun σ => f8i N f8c24 f8p24 σ (joinK (some f8lE) K)) (joinK (some f8lE) K))) (funext fun x19 => funext fun w06_2 => funext fun x08_2 => funext fun g010_2 => funext fun aNames1 => funext fun w17 => funext fun g111 => funext fun aM2_0 => funext fun aM2_1 => funext fun aM2_2 => funext fun w06_0 => funext fun w06_1 => funext fun x08_0 => funext fun x08_1 => funext fun g010_0 => funext fun g010_1 => f8t24 N x19 w06_2 x08_2 g010_2 aNames1 w17 g111 aM2_0 aM2_1 aM2_2 w06_0 w06_1 x08_0 x08_1 g010_0 g010_1 K) (by kernel_rfl) (by kernel_rfl)
noncomputable def f8c20 := codeAt (bodyOf Try.f8) [1,1,1,1,1,1,1,1,1,1]
noncomputable def f8p20 : Plan := .mk (some f8l6) none .n f8p22
theorem f8t20 {ρ : Type} (N : Nat) (x19 : List Int) (w06_2 : List Int) (x08_2 : List Int) (g010_2 : List Int) (aNames1 : List Int) (w17 : Bool) (g111 : Bool) (aM2_0 : Int) (aM2_1 : Int) (aM2_2 : List Int) (w06_0 : Int) (w06_1 : Int) (x08_0 : Int) (x08_1 : Int) (g010_0 : Int) (g010_1 : Int) (K : KT ρ) : f8i N f8c20 f8p20 (f8s6 x19 w06_2 x08_2 g010_2 aNames1 w17 g111 aM2_0 aM2_1 aM2_2 w06_0 w06_1 x08_0 x08_1 g010_0 g010_1) (joinK (some f8lE) K) =
  laws_FnExactRenameMatrix.Z20 N x19 w06_2 x08_2 g010_2 aNames1 w17 g111 aM2_0 aM2_1 aM2_2 w06_0 w06_1 x08_0 x08_1 g010_0 g010_1 (fun t4 => K .ret (f8s11 t4)) :=
  viaSeq (fun k => laws_FnExactRenameMatrix.Z21 N x19 w06_2 x08_2 g010_2 aNames1 w17 g111 aM2_0 aM2_1 aM2_2 w06_0 w06_1 x08_0 x08_1 g010_0 g010_1 k (fun t4 => K .ret (f8s11 t4))) (by kernel_rfl) (by kernel_rfl) (f8t21 N x19 w06_2 x08_2 g010_2 aNames1 w17 g111 aM2_0 aM2_1 aM2_2 w06_0 w06_1 x08_0 x08_1 g010_0 g010_1 (seqK (fun σ => f8i N f8c22 f8p22 σ (joinK (some f8lE) K)) (joinK (some f8lE) K))) (funext fun x19 => funext fun w06_2 => funext fun x08_2 => funext fun g010_2 => funext fun aNames1 => funext fun w17 => funext fun g111 => funext fun aM2_0 => funext fun aM2_1 => funext fun aM2_2 => funext fun w06_0 => funext fun w06_1 => funext fun x08_0 => funext fun x08_1 => funext fun g010_0 => funext fun g010_1 => f8t22 N x19 w06_2 x08_2 g010_2 aNames1 w17 g111 aM2_0 aM2_1 aM2_2 w06_0 w06_1 x08_0 x08_1 g010_0 g010_1 K) (by kernel_rfl) (by kernel_rfl)
noncomputable def f8c18 := codeAt (bodyOf Try.f8) [1,1,1,1,1,1,1,1,1]
noncomputable def f8p18 : Plan := .mk (some f8l6) none .n f8p20
theorem f8t18 {ρ : Type} (N : Nat) (x19 : List Int) (w06_2 : List Int) (x08_2 : List Int) (g010_2 : List Int) (aNames1 : List Int) (w17 : Bool) (g111 : Bool) (aM2_0 : Int) (aM2_1 : Int) (aM2_2 : List Int) (w06_0 : Int) (w06_1 : Int) (x08_0 : Int) (x08_1 : Int) (g010_0 : Int) (g010_1 : Int) (K : KT ρ) : f8i N f8c18 f8p18 (f8s6 x19 w06_2 x08_2 g010_2 aNames1 w17 g111 aM2_0 aM2_1 aM2_2 w06_0 w06_1 x08_0 x08_1 g010_0 g010_1) (joinK (some f8lE) K) =
  laws_FnExactRenameMatrix.Z18 N x19 w06_2 x08_2 g010_2 aNames1 w17 g111 aM2_0 aM2_1 aM2_2 w06_0 w06_1 x08_0 x08_1 g010_0 g010_1 (fun t4 => K .ret (f8s11 t4)) :=
  viaSeq (fun k => laws_FnExactRenameMatrix.Z19 N x19 w06_2 x08_2 g010_2 aNames1 w17 g111 aM2_0 aM2_1 aM2_2 w06_0 w06_1 x08_0 x08_1 g010_0 g010_1 k (fun t4 => K .ret (f8s11 t4))) (by kernel_rfl) (by kernel_rfl) (f8t19 N x19 w06_2 x08_2 g010_2 aNames1 w17 g111 aM2_0 aM2_1 aM2_2 w06_0 w06_1 x08_0 x08_1 g010_0 g010_1 (seqK (fun σ => f8i N f8c20 f8p20 σ (joinK (some f8lE) K)) (joinK (some f8lE) K))) (funext fun x19 => funext fun w06_2 => funext fun x08_2 => funext fun g010_2 => funext fun aNames1 => funext fun w17 => funext fun g111 => funext fun aM2_0 => funext fun aM2_1 => funext fun aM2_2 => funext fun w06_0 => funext fun w06_1 => funext fun x08_0 => funext fun x08_1 => funext fun g010_0 => funext fun g010_1 => f8t20 N x19 w06_2 x08_2 g010_2 aNames1 w17 g111 aM2_0 aM2_1 aM2_2 w06_0 w06_1 x08_0 x08_1 g010_0 g010_1 K) (by kernel_rfl) (by kernel_rfl)
noncomputable def f8c16 := codeAt (bodyOf Try.f8) [1,1,1,1,1,1,1,1]
noncomputable def f8p16 : Plan := .mk (some f8l6) none .n f8p18
theorem f8t16 {ρ : Type} (N : Nat) (x19 : List Int) (w06_2 : List Int) (x08_2 : List Int) (aNames1 : List Int) (w17 : Bool) (aM2_0 : Int) (aM2_1 : Int) (aM2_2 : List Int) (w06_0 : Int) (w06_1 : Int) (x08_0 : Int) (x08_1 : Int) (K : KT ρ) : f8i N f8c16 f8p16 (f8s5 x19 w06_2 x08_2 aNames1 w17 aM2_0 aM2_1 aM2_2 w06_0 w06_1 x08_0 x08_1) (joinK (some f8lE) K) =
  laws_FnExactRenameMatrix.Z16 N x19 w06_2 x08_2 aNames1 w17 aM2_0 aM2_1 aM2_2 w06_0 w06_1 x08_0 x08_1 (fun t4 => K .ret (f8s11 t4)) :=
  viaSeq (fun k => laws_FnExactRenameMatrix.Z17 N x19 w06_2 x08_2 aNames1 w17 aM2_0 aM2_1 aM2_2 w06_0 w06_1 x08_0 x08_1 k) (by kernel_rfl) (by kernel_rfl) (f8t17 N x19 w06_2 x08_2 aNames1 w17 aM2_0 aM2_1 aM2_2 w06_0 w06_1 x08_0 x08_1 (seqK (fun σ => f8i N f8c18 f8p18 σ (joinK (some f8lE) K)) (joinK (some f8lE) K))) (funext fun x19 => funext fun w06_2 => funext fun x08_2 => funext fun g010_2 => funext fun aNames1 => funext fun w17 => funext fun g111 => funext fun aM2_0 => funext fun aM2_1 => funext fun aM2_2 => funext fun w06_0 => funext fun w06_1 => funext fun x08_0 => funext fun x08_1 => funext fun g010_0 => funext fun g010_1 => f8t18 N x19 w06_2 x08_2 g010_2 aNames1 w17 g111 aM2_0 aM2_1 aM2_2 w06_0 w06_1 x08_0 x08_1 g010_0 g010_1 K) (by kernel_rfl) (by kernel_rfl)
noncomputable def f8c14 := codeAt (bodyOf Try.f8) [1,1,1,1,1,1,1]
noncomputable def f8p14 : Plan := .mk (some f8l5) none .n f8p16
theorem f8t14 {ρ : Type} (N : Nat) (w06_2 : List Int) (x08_2 : List Int) (aNames1 : List Int) (w17 : Bool) (aM2_0 : Int) (aM2_1 : Int) (aM2_2 : List Int) (w06_0 : Int) (w06_1 : Int) (x08_0 : Int) (x08_1 : Int) (K : KT ρ) : f8i N f8c14 f8p14 (f8s4 w06_2 x08_2 aNames1 w17 aM2_0 aM2_1 aM2_2 w06_0 w06_1 x08_0 x08_1) (joinK (some f8lE) K) =
  laws_FnExactRenameMatrix.Z14 N w06_2 x08_2 aNames1 w17 aM2_0 aM2_1 aM2_2 w06_0 w06_1 x08_0 x08_1 (fun t4 => K .ret (f8s11 t4)) :=
  viaSeq (fun k => laws_FnExactRenameMatrix.Z15 N w06_2 x08_2 aNames1 w17 aM2_0 aM2_1 aM2_2 w06_0 w06_1 x08_0 x08_1 k) (by kernel_rfl) (by kernel_rfl) (f8t15 N w06_2 x08_2 aNames1 w17 aM2_0 aM2_1 aM2_2 w06_0 w06_1 x08_0 x08_1 (seqK (fun σ => f8i N f8c16 f8p16 σ (joinK (some f8lE) K)) (joinK (some f8lE) K))) (funext fun x19 => funext fun w06_2 => funext fun x08_2 => funext fun aNames1 => funext fun w17 => funext fun aM2_0 => funext fun aM2_1 => funext fun aM2_2 => funext fun w06_0 => funext fun w06_1 => funext fun x08_0 => funext fun x08_1 => f8t16 N x19 w06_2 x08_2 aNames1 w17 aM2_0 aM2_1 aM2_2 w06_0 w06_1 x08_0 x08_1 K) (by kernel_rfl) (by kernel_rfl)
noncomputable def f8c12 := codeAt (bodyOf Try.f8) [1,1,1,1,1,1]
noncomputable def f8p12 : Plan := .mk (some f8l4) none .n f8p14
theorem f8t12 {ρ : Type} (N : Nat) (w06_2 : List Int) (aNames1 : List Int) (w17 : Bool) (aM2_0 : Int) (aM2_1 : Int) (aM2_2 : List Int) (w06_0 : Int) (w06_1 : Int) (K : KT ρ) : f8i N f8c12 f8p12 (f8s3 w06_2 aNames1 w17 aM2_0 aM2_1 aM2_2 w06_0 w06_1) (joinK (some f8lE) K) =
  laws_FnExactRenameMatrix.Z12 N w06_2 aNames1 w17 aM2_0 aM2_1 aM2_2 w06_0 w06_1 (fun t4 => K .ret (f8s11 t4)) :=
  viaSeq (fun k => laws_FnExactRenameMatrix.Z13 N w06_2 aNames1 w17 aM2_0 aM2_1 aM2_2 w06_0 w06_1 k) (by kernel_rfl) (by kernel_rfl) (f8t13 N w06_2 aNames1 w17 aM2_0 aM2_1 aM2_2 w06_0 w06_1 (seqK (fun σ => f8i N f8c14 f8p14 σ (joinK (some f8lE) K)) (joinK (some f8lE) K))) (funext fun w06_2 => funext fun x08_2 => funext fun aNames1 => funext fun w17 => funext fun aM2_0 => funext fun aM2_1 => funext fun aM2_2 => funext fun w06_0 => funext fun w06_1 => funext fun x08_0 => funext fun x08_1 => f8t14 N w06_2 x08_2 aNames1 w17 aM2_0 aM2_1 aM2_2 w06_0 w06_1 x08_0 x08_1 K) (by kernel_rfl) (by kernel_rfl)
noncomputable def f8c10 := codeAt (bodyOf Try.f8) [1,1,1,1,1]
noncomputable def f8p10 : Plan := .mk (some f8l3) none .n f8p12
theorem f8t10 {ρ : Type} (N : Nat) (aNames1 : List Int) (aM2_0 : Int) (aM2_1 : Int) (aM2_2 : List Int) (K : KT ρ) : f8i N f8c10 f8p10 (f8s1 aNames1 aM2_0 aM2_1 aM2_2) (joinK (some f8lE) K) =
  laws_FnExactRenameMatrix.Z10 N aNames1 aM2_0 aM2_1 aM2_2 (fun t4 => K .ret (f8s11 t4)) :=
  viaSeq (fun k => laws_FnExactRenameMatrix.Z11 N aNames1 aM2_0 aM2_1 aM2_2 k) (by kernel_rfl) (by kernel_rfl) (f8t11 N aNames1 aM2_0 aM2_1 aM2_2 (seqK (fun σ => f8i N f8c12 f8p12 σ (joinK (some f8lE) K)) (joinK (some f8lE) K))) (funext fun w06_2 => funext fun aNames1 => funext fun w17 => funext fun aM2_0 => funext fun aM2_1 => funext fun aM2_2 => funext fun w06_0 => funext fun w06_1 => f8t12 N w06_2 aNames1 w17 aM2_0 aM2_1 aM2_2 w06_0 w06_1 K) (by kernel_rfl) (by kernel_rfl)
noncomputable def f8c8 := codeAt (bodyOf Try.f8) [1,1,1,1]
noncomputable def f8p8 : Plan := .mk (some f8l1) none .n f8p10
theorem f8t8 {ρ : Type} (N : Nat) (aNames1 : List Int) (left5 : Int) (aM2_0 : Int) (aM2_1 : Int) (aM2_2 : List Int) (K : KT ρ) : f8i N f8c8 f8p8 (f8s2 aNames1 left5 aM2_0 aM2_1 aM2_2) (joinK (some f8lE) K) =
  laws_FnExactRenameMatrix.Z8 N aNames1 left5 aM2_0 aM2_1 aM2_2 (fun t4 => K .ret (f8s11 t4)) :=
  viaSeq (fun k => laws_FnExactRenameMatrix.Z9 N aNames1 left5 aM2_0 aM2_1 aM2_2 k (fun t4 => K .ret (f8s11 t4))) (by kernel_rfl) (by kernel_rfl) (f8t9 N aNames1 left5 aM2_0 aM2_1 aM2_2 (seqK (fun σ => f8i N f8c10 f8p10 σ (joinK (some f8lE) K)) (joinK (some f8lE) K))) (funext fun aNames1 => funext fun aM2_0 => funext fun aM2_1 => funext fun aM2_2 => f8t10 N aNames1 aM2_0 aM2_1 aM2_2 K) (by kernel_rfl) (by kernel_rfl)
noncomputable def f8c6 := codeAt (bodyOf Try.f8) [1,1,1]
noncomputable def f8p6 : Plan := .mk (some f8l2) none .n f8p8
theorem f8t6 {ρ : Type} (N : Nat) (aNames1 : List Int) (left5 : Int) (aM2_0 : Int) (aM2_1 : Int) (aM2_2 : List Int) (K : KT ρ) : f8i N f8c6 f8p6 (f8s2 aNames1 left5 aM2_0 aM2_1 aM2_2) (joinK (some f8lE) K) =
  laws_FnExactRenameMatrix.Z6 N aNames1 left5 aM2_0 aM2_1 aM2_2 (fun t4 => K .ret (f8s11 t4)) :=
  viaSeq (fun k => laws_FnExactRenameMatrix.Z7 N aNames1 left5 aM2_0 aM2_1 aM2_2 k) (by kernel_rfl) (by kernel_rfl) (f8t7 N aNames1 left5 aM2_0 aM2_1 aM2_2 (seqK (fun σ => f8i N f8c8 f8p8 σ (joinK (some f8lE) K)) (joinK (some f8lE) K))) (funext fun aNames1 => funext fun left5 => funext fun aM2_0 => funext fun aM2_1 => funext fun aM2_2 => f8t8 N aNames1 left5 aM2_0 aM2_1 aM2_2 K) (by kernel_rfl) (by kernel_rfl)
noncomputable def f8c4 := codeAt (bodyOf Try.f8) [1,1]
noncomputable def f8p4 : Plan := .mk (some f8l2) none .n f8p6
theorem f8t4 {ρ : Type} (N : Nat) (aNames1 : List Int) (aM2_0 : Int) (aM2_1 : Int) (aM2_2 : List Int) (K : KT ρ) : f8i N f8c4 f8p4 (f8s1 aNames1 aM2_0 aM2_1 aM2_2) (joinK (some f8lE) K) =
  laws_FnExactRenameMatrix.Z4 N aNames1 aM2_0 aM2_1 aM2_2 (fun t4 => K .ret (f8s11 t4)) :=
  viaSeq (fun k => laws_FnExactRenameMatrix.Z5 N aNames1 aM2_0 aM2_1 aM2_2 k) (by kernel_rfl) (by kernel_rfl) (f8t5 N aNames1 aM2_0 aM2_1 aM2_2 (seqK (fun σ => f8i N f8c6 f8p6 σ (joinK (some f8lE) K)) (joinK (some f8lE) K))) (funext fun aNames1 => funext fun left5 => funext fun aM2_0 => funext fun aM2_1 => funext fun aM2_2 => f8t6 N aNames1 left5 aM2_0 aM2_1 aM2_2 K) (by kernel_rfl) (by kernel_rfl)
noncomputable def f8c2 := codeAt (bodyOf Try.f8) [1]
noncomputable def f8p2 : Plan := .mk (some f8l1) none .n f8p4
theorem f8t2 {ρ : Type} (N : Nat) (aNames1 : List Int) (aM2_0 : Int) (aM2_1 : Int) (aM2_2 : List Int) (K : KT ρ) : f8i N f8c2 f8p2 (f8s1 aNames1 aM2_0 aM2_1 aM2_2) (joinK (some f8lE) K) =
  laws_FnExactRenameMatrix.Z2 N aNames1 aM2_0 aM2_1 aM2_2 (fun t4 => K .ret (f8s11 t4)) :=
  viaSeq (fun k => laws_FnExactRenameMatrix.Z3 N aNames1 aM2_0 aM2_1 aM2_2 k (fun t4 => K .ret (f8s11 t4))) (by kernel_rfl) (by kernel_rfl) (f8t3 N aNames1 aM2_0 aM2_1 aM2_2 (seqK (fun σ => f8i N f8c4 f8p4 σ (joinK (some f8lE) K)) (joinK (some f8lE) K))) (funext fun aNames1 => funext fun aM2_0 => funext fun aM2_1 => funext fun aM2_2 => f8t4 N aNames1 aM2_0 aM2_1 aM2_2 K) (by kernel_rfl) (by kernel_rfl)
noncomputable def f8c0 := codeAt (bodyOf Try.f8) []
noncomputable def f8p0 : Plan := .mk (some f8l1) none .n f8p2
theorem f8t0 {ρ : Type} (N : Nat) (aM0 : Int × Int × List Int) (aNames1 : List Int) (K : KT ρ) : f8i N f8c0 f8p0 (f8s0 aM0 aNames1) (joinK (some f8lE) K) =
  laws_FnExactRenameMatrix.Z0 N aM0 aNames1 (fun t4 => K .ret (f8s11 t4)) :=
  viaSeq (fun k => laws_FnExactRenameMatrix.Z1 N aM0 aNames1 k) (by kernel_rfl) (by kernel_rfl) (f8t1 N aM0 aNames1 (seqK (fun σ => f8i N f8c2 f8p2 σ (joinK (some f8lE) K)) (joinK (some f8lE) K))) (funext fun aNames1 => funext fun aM2_0 => funext fun aM2_1 => funext fun aM2_2 => f8t2 N aNames1 aM2_0 aM2_1 aM2_2 K) (by kernel_rfl) (by kernel_rfl)
theorem f8m (N : Nat) (aM0 : Int × Int × List Int) (aNames1 : List Int) : f8i N f8c0 f8p0 (f8s0 aM0 aNames1) (joinK (some f8lE) (finK tab f8sig Try.f8.results.toList)) = laws_FnExactRenameMatrix.Z0 N aM0 aNames1 (fun t4 => some ((), (t4, ()))) :=
  (f8t0 N aM0 aNames1 (finK tab f8sig Try.f8.results.toList)).trans (by kernel_rfl)
theorem f8ok (h : laws_FnExactRenameMatrix.Spec) : EntryOk Try.prog 8 e8 :=
  entry_of_code (sig := f8sig) (c := f8c0) (pl := f8p0) (je := (some f8lE)) (B := f8B) Try.func8 (by kernel_rfl) (by kernel_rfl) (by kernel_rfl) tabOk f8GOk (by kernel_rfl) (by kernel_rfl) (by kernel_rfl) (by kernel_rfl) fun X hb hp => by
    obtain ⟨aM0, aNames1, _⟩ := X
    obtain ⟨N, h⟩ := h aM0 aNames1 hb.1 hb.2.1
    exact ⟨N, (f8m N aM0 aNames1).trans (h N (Nat.le_refl N))⟩
theorem e8ok : EntryOk Try.prog 8 e8 := f8ok laws_FnExactRenameMatrix.ok
end Go.Fw
