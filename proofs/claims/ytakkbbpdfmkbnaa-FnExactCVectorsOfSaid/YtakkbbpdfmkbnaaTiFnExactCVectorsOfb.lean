/- The ties: the program's text comes to the plain functions. Nothing is assumed. -/
import Derived.Test.YtakkbbpdfmkbnaaPuFnExactCVectorsOfa
import Derived.Test.YtakkbbpdfmkbnaaTiFnExactCVectorsOfa
import Derived.Test.YtakkbbpdfmkbnaaPuFnExactCVectorsOfb
set_option linter.unusedVariables false
set_option linter.unusedSimpArgs false
set_option maxRecDepth 100000
namespace Go.Fw
open Go.Proofs
/-! ### loop.example/g03115/impl.factors -/
noncomputable def f64sig : Sig := ⟨[⟨.pair (.int .i64) (.pair (.int .i64) (.sl 3 (.int .i64))), true, false⟩], [⟨.sl 3 (.int .i64), false, true⟩]⟩
noncomputable def e64 : Entry := ⟨f64sig, (some fun X => impl_factors.P X.1), fun X => ((), ((impl_factors.g X.1), ()))⟩
noncomputable def f64G : Nat → Option Entry := addG (addG (fun _ => none) 60 e60) 97 e97
theorem f64GOk : GOk Try.prog f64G := ((GOk.nil).add e60ok (by kernel_rfl)).add e97ok (by kernel_rfl)
noncomputable def f64lE : Clean := ⟨[], [], [], [], []⟩
noncomputable def f64s0 (v0 : Int × Int × List Int) : St := initSt f64sig.ps (v0, ())
noncomputable def f64s1 (v1_0 v1_1 : Int) (v1_2 : List Int) : St := stOf [(1, .c (.box 1 0))] [(1, (26, [.int .i64 v1_0, .int .i64 v1_1, .sn 3 (.int .i64) v1_2 none]))] []
noncomputable def f64l1 : Clean := ⟨[1], [1], [], [], []⟩
noncomputable def f64s2 (v3 v4 : List Int) (v1_0 v1_1 : Int) (v1_2 : List Int) : St := stOf [(1, .c (.box 1 0)), (3, .c (.own 1000192)), (4, .c (.own 1000256))] [(1, (26, [.int .i64 v1_0, .int .i64 v1_1, .sn 3 (.int .i64) v1_2 none]))] [(1000192, (⟨3, .int .i64, v3, true, false⟩ : Row)), (1000256, (⟨3, .int .i64, v4, true, false⟩ : Row))]
noncomputable def f64l2 : Clean := ⟨[1, 3, 4], [1], [], [], [(⟨false, 3, 0⟩, 1000192), (⟨false, 4, 0⟩, 1000256)]⟩
noncomputable def f64s3 (v3 v4 v5 : List Int) (v1_0 v1_1 : Int) (v1_2 : List Int) : St := stOf [(1, .c (.box 1 0)), (3, .c (.own 1000192)), (4, .c (.own 1000256)), (5, .c (.own 1000320))] [(1, (26, [.int .i64 v1_0, .int .i64 v1_1, .sn 3 (.int .i64) v1_2 none]))] [(1000192, (⟨3, .int .i64, v3, true, false⟩ : Row)), (1000256, (⟨3, .int .i64, v4, true, false⟩ : Row)), (1000320, (⟨3, .int .i64, v5, true, false⟩ : Row))]
noncomputable def f64l3 : Clean := ⟨[1, 3, 4, 5], [1], [], [], [(⟨false, 3, 0⟩, 1000192), (⟨false, 4, 0⟩, 1000256), (⟨false, 5, 0⟩, 1000320)]⟩
noncomputable def f64s4 (v3 v4 v5 : List Int) (v34 v35 : Int) (v1_0 v1_1 : Int) (v1_2 : List Int) : St := stOf [(1, .c (.box 1 0)), (3, .c (.own 1000192)), (4, .c (.own 1000256)), (5, .c (.own 1000320)), (34, .c (.int .i64 v34)), (35, .c (.int .i64 v35))] [(1, (26, [.int .i64 v1_0, .int .i64 v1_1, .sn 3 (.int .i64) v1_2 none]))] [(1000192, (⟨3, .int .i64, v3, true, false⟩ : Row)), (1000256, (⟨3, .int .i64, v4, true, false⟩ : Row)), (1000320, (⟨3, .int .i64, v5, true, false⟩ : Row))]
noncomputable def f64l4 : Clean := ⟨[1, 3, 4, 5, 34, 35], [1], [], [], [(⟨false, 3, 0⟩, 1000192), (⟨false, 4, 0⟩, 1000256), (⟨false, 5, 0⟩, 1000320)]⟩
noncomputable def f64s5 (v3 v4 v5 : List Int) (v34 v35 : Int) (v36 : Bool) (v1_0 v1_1 : Int) (v1_2 : List Int) : St := stOf [(1, .c (.box 1 0)), (3, .c (.own 1000192)), (4, .c (.own 1000256)), (5, .c (.own 1000320)), (34, .c (.int .i64 v34)), (35, .c (.int .i64 v35)), (36, .c (.bool v36))] [(1, (26, [.int .i64 v1_0, .int .i64 v1_1, .sn 3 (.int .i64) v1_2 none]))] [(1000192, (⟨3, .int .i64, v3, true, false⟩ : Row)), (1000256, (⟨3, .int .i64, v4, true, false⟩ : Row)), (1000320, (⟨3, .int .i64, v5, true, false⟩ : Row))]
noncomputable def f64l5 : Clean := ⟨[1, 3, 4, 5, 34, 35, 36], [1], [], [], [(⟨false, 3, 0⟩, 1000192), (⟨false, 4, 0⟩, 1000256), (⟨false, 5, 0⟩, 1000320)]⟩
noncomputable def f64s6 (v3 v4 v5 : List Int) (v6 v34 : Int) (v35 v1_0 v1_1 : Int) (v1_2 : List Int) : St := stOf [(1, .c (.box 1 0)), (3, .c (.own 1000192)), (4, .c (.own 1000256)), (5, .c (.own 1000320)), (6, .c (.int .i64 v6)), (34, .c (.int .i64 v34)), (35, .c (.int .i64 v35))] [(1, (26, [.int .i64 v1_0, .int .i64 v1_1, .sn 3 (.int .i64) v1_2 none]))] [(1000192, (⟨3, .int .i64, v3, true, false⟩ : Row)), (1000256, (⟨3, .int .i64, v4, true, false⟩ : Row)), (1000320, (⟨3, .int .i64, v5, true, false⟩ : Row))]
noncomputable def f64l6 : Clean := ⟨[1, 3, 4, 5, 6, 34, 35], [1], [], [], [(⟨false, 3, 0⟩, 1000192), (⟨false, 4, 0⟩, 1000256), (⟨false, 5, 0⟩, 1000320)]⟩
noncomputable def f64s7 (v3 v4 : List Int) (v5 v7 : List Int) (v34 v35 : Int) (v1_0 v1_1 : Int) (v1_2 : List Int) : St := stOf [(1, .c (.box 1 0)), (3, .c (.own 1000192)), (4, .c (.own 1000256)), (5, .c (.own 1000320)), (7, .c (.own 1000448)), (34, .c (.int .i64 v34)), (35, .c (.int .i64 v35))] [(1, (26, [.int .i64 v1_0, .int .i64 v1_1, .sn 3 (.int .i64) v1_2 none]))] [(1000192, (⟨3, .int .i64, v3, true, false⟩ : Row)), (1000256, (⟨3, .int .i64, v4, true, false⟩ : Row)), (1000320, (⟨3, .int .i64, v5, true, false⟩ : Row)), (1000448, (⟨3, .int .i64, v7, true, false⟩ : Row))]
noncomputable def f64l7 : Clean := ⟨[1, 3, 4, 5, 7, 34, 35], [1], [], [], [(⟨false, 3, 0⟩, 1000192), (⟨false, 4, 0⟩, 1000256), (⟨false, 5, 0⟩, 1000320), (⟨false, 7, 0⟩, 1000448)]⟩
noncomputable def f64s8 (v3 v4 : List Int) (v5 v7 : List Int) (v8 v34 : Int) (v35 v1_0 v1_1 : Int) (v1_2 : List Int) : St := stOf [(1, .c (.box 1 0)), (3, .c (.own 1000192)), (4, .c (.own 1000256)), (5, .c (.own 1000320)), (7, .c (.own 1000448)), (8, .c (.int .i64 v8)), (34, .c (.int .i64 v34)), (35, .c (.int .i64 v35))] [(1, (26, [.int .i64 v1_0, .int .i64 v1_1, .sn 3 (.int .i64) v1_2 none]))] [(1000192, (⟨3, .int .i64, v3, true, false⟩ : Row)), (1000256, (⟨3, .int .i64, v4, true, false⟩ : Row)), (1000320, (⟨3, .int .i64, v5, true, false⟩ : Row)), (1000448, (⟨3, .int .i64, v7, true, false⟩ : Row))]
noncomputable def f64l8 : Clean := ⟨[1, 3, 4, 5, 7, 8, 34, 35], [1], [], [], [(⟨false, 3, 0⟩, 1000192), (⟨false, 4, 0⟩, 1000256), (⟨false, 5, 0⟩, 1000320), (⟨false, 7, 0⟩, 1000448)]⟩
noncomputable def f64s9 (v3 v4 : List Int) (v5 v7 : List Int) (v8 v9 : Int) (v34 v35 : Int) (v1_0 v1_1 : Int) (v1_2 : List Int) : St := stOf [(1, .c (.box 1 0)), (3, .c (.own 1000192)), (4, .c (.own 1000256)), (5, .c (.own 1000320)), (7, .c (.own 1000448)), (8, .c (.int .i64 v8)), (9, .c (.int .i64 v9)), (34, .c (.int .i64 v34)), (35, .c (.int .i64 v35))] [(1, (26, [.int .i64 v1_0, .int .i64 v1_1, .sn 3 (.int .i64) v1_2 none]))] [(1000192, (⟨3, .int .i64, v3, true, false⟩ : Row)), (1000256, (⟨3, .int .i64, v4, true, false⟩ : Row)), (1000320, (⟨3, .int .i64, v5, true, false⟩ : Row)), (1000448, (⟨3, .int .i64, v7, true, false⟩ : Row))]
noncomputable def f64l9 : Clean := ⟨[1, 3, 4, 5, 7, 8, 9, 34, 35], [1], [], [], [(⟨false, 3, 0⟩, 1000192), (⟨false, 4, 0⟩, 1000256), (⟨false, 5, 0⟩, 1000320), (⟨false, 7, 0⟩, 1000448)]⟩
noncomputable def f64s10 (v3 v4 : List Int) (v5 v7 : List Int) (v8 v9 : Int) (v34 v35 : Int) (v62 v63 : Int) (v1_0 v1_1 : Int) (v1_2 : List Int) : St := stOf [(1, .c (.box 1 0)), (3, .c (.own 1000192)), (4, .c (.own 1000256)), (5, .c (.own 1000320)), (7, .c (.own 1000448)), (8, .c (.int .i64 v8)), (9, .c (.int .i64 v9)), (34, .c (.int .i64 v34)), (35, .c (.int .i64 v35)), (62, .c (.int .i64 v62)), (63, .c (.int .i64 v63))] [(1, (26, [.int .i64 v1_0, .int .i64 v1_1, .sn 3 (.int .i64) v1_2 none]))] [(1000192, (⟨3, .int .i64, v3, true, false⟩ : Row)), (1000256, (⟨3, .int .i64, v4, true, false⟩ : Row)), (1000320, (⟨3, .int .i64, v5, true, false⟩ : Row)), (1000448, (⟨3, .int .i64, v7, true, false⟩ : Row))]
noncomputable def f64l10 : Clean := ⟨[1, 3, 4, 5, 7, 8, 9, 34, 35, 62, 63], [1], [], [], [(⟨false, 3, 0⟩, 1000192), (⟨false, 4, 0⟩, 1000256), (⟨false, 5, 0⟩, 1000320), (⟨false, 7, 0⟩, 1000448)]⟩
noncomputable def f64s11 (v3 v4 : List Int) (v5 v7 : List Int) (v8 v9 : Int) (v34 v35 : Int) (v62 v63 : Int) (v64 : Bool) (v1_0 v1_1 : Int) (v1_2 : List Int) : St := stOf [(1, .c (.box 1 0)), (3, .c (.own 1000192)), (4, .c (.own 1000256)), (5, .c (.own 1000320)), (7, .c (.own 1000448)), (8, .c (.int .i64 v8)), (9, .c (.int .i64 v9)), (34, .c (.int .i64 v34)), (35, .c (.int .i64 v35)), (62, .c (.int .i64 v62)), (63, .c (.int .i64 v63)), (64, .c (.bool v64))] [(1, (26, [.int .i64 v1_0, .int .i64 v1_1, .sn 3 (.int .i64) v1_2 none]))] [(1000192, (⟨3, .int .i64, v3, true, false⟩ : Row)), (1000256, (⟨3, .int .i64, v4, true, false⟩ : Row)), (1000320, (⟨3, .int .i64, v5, true, false⟩ : Row)), (1000448, (⟨3, .int .i64, v7, true, false⟩ : Row))]
noncomputable def f64l11 : Clean := ⟨[1, 3, 4, 5, 7, 8, 9, 34, 35, 62, 63, 64], [1], [], [], [(⟨false, 3, 0⟩, 1000192), (⟨false, 4, 0⟩, 1000256), (⟨false, 5, 0⟩, 1000320), (⟨false, 7, 0⟩, 1000448)]⟩
noncomputable def f64s12 (v3 v4 : List Int) (v5 v7 : List Int) (v8 v9 : Int) (v10 v34 : Int) (v35 v62 : Int) (v63 v1_0 v1_1 : Int) (v1_2 : List Int) : St := stOf [(1, .c (.box 1 0)), (3, .c (.own 1000192)), (4, .c (.own 1000256)), (5, .c (.own 1000320)), (7, .c (.own 1000448)), (8, .c (.int .i64 v8)), (9, .c (.int .i64 v9)), (10, .c (.int .i64 v10)), (34, .c (.int .i64 v34)), (35, .c (.int .i64 v35)), (62, .c (.int .i64 v62)), (63, .c (.int .i64 v63))] [(1, (26, [.int .i64 v1_0, .int .i64 v1_1, .sn 3 (.int .i64) v1_2 none]))] [(1000192, (⟨3, .int .i64, v3, true, false⟩ : Row)), (1000256, (⟨3, .int .i64, v4, true, false⟩ : Row)), (1000320, (⟨3, .int .i64, v5, true, false⟩ : Row)), (1000448, (⟨3, .int .i64, v7, true, false⟩ : Row))]
noncomputable def f64l12 : Clean := ⟨[1, 3, 4, 5, 7, 8, 9, 10, 34, 35, 62, 63], [1], [], [], [(⟨false, 3, 0⟩, 1000192), (⟨false, 4, 0⟩, 1000256), (⟨false, 5, 0⟩, 1000320), (⟨false, 7, 0⟩, 1000448)]⟩
noncomputable def f64s13 (v3 v4 : List Int) (v5 v7 : List Int) (v8 v9 : Int) (v10 v11 : Int) (v12 v34 : Int) (v35 v62 : Int) (v63 v1_0 v1_1 : Int) (v1_2 : List Int) : St := stOf [(1, .c (.box 1 0)), (3, .c (.own 1000192)), (4, .c (.own 1000256)), (5, .c (.own 1000320)), (7, .c (.own 1000448)), (8, .c (.int .i64 v8)), (9, .c (.int .i64 v9)), (10, .c (.int .i64 v10)), (11, .c (.int .i64 v11)), (12, .c (.int .i64 v12)), (34, .c (.int .i64 v34)), (35, .c (.int .i64 v35)), (62, .c (.int .i64 v62)), (63, .c (.int .i64 v63))] [(1, (26, [.int .i64 v1_0, .int .i64 v1_1, .sn 3 (.int .i64) v1_2 none]))] [(1000192, (⟨3, .int .i64, v3, true, false⟩ : Row)), (1000256, (⟨3, .int .i64, v4, true, false⟩ : Row)), (1000320, (⟨3, .int .i64, v5, true, false⟩ : Row)), (1000448, (⟨3, .int .i64, v7, true, false⟩ : Row))]
noncomputable def f64l13 : Clean := ⟨[1, 3, 4, 5, 7, 8, 9, 10, 11, 12, 34, 35, 62, 63], [1], [], [], [(⟨false, 3, 0⟩, 1000192), (⟨false, 4, 0⟩, 1000256), (⟨false, 5, 0⟩, 1000320), (⟨false, 7, 0⟩, 1000448)]⟩
noncomputable def f64s14 (v3 v4 : List Int) (v5 v7 : List Int) (v16 v34 : Int) (v35 v1_0 v1_1 : Int) (v1_2 : List Int) : St := stOf [(1, .c (.box 1 0)), (3, .c (.own 1000192)), (4, .c (.own 1000256)), (5, .c (.own 1000320)), (7, .c (.own 1000448)), (16, .c (.int .i64 v16)), (34, .c (.int .i64 v34)), (35, .c (.int .i64 v35))] [(1, (26, [.int .i64 v1_0, .int .i64 v1_1, .sn 3 (.int .i64) v1_2 none]))] [(1000192, (⟨3, .int .i64, v3, true, false⟩ : Row)), (1000256, (⟨3, .int .i64, v4, true, false⟩ : Row)), (1000320, (⟨3, .int .i64, v5, true, false⟩ : Row)), (1000448, (⟨3, .int .i64, v7, true, false⟩ : Row))]
noncomputable def f64l14 : Clean := ⟨[1, 3, 4, 5, 7, 16, 34, 35], [1], [], [], [(⟨false, 3, 0⟩, 1000192), (⟨false, 4, 0⟩, 1000256), (⟨false, 5, 0⟩, 1000320), (⟨false, 7, 0⟩, 1000448)]⟩
noncomputable def f64s15 (v3 v4 : List Int) (v5 v7 : List Int) (v16 v34 : Int) (v35 v159 : Int) (v160 v1_0 v1_1 : Int) (v1_2 : List Int) : St := stOf [(1, .c (.box 1 0)), (3, .c (.own 1000192)), (4, .c (.own 1000256)), (5, .c (.own 1000320)), (7, .c (.own 1000448)), (16, .c (.int .i64 v16)), (34, .c (.int .i64 v34)), (35, .c (.int .i64 v35)), (158, .c (.own 1000448)), (159, .c (.int .i64 v159)), (160, .c (.int .i64 v160))] [(1, (26, [.int .i64 v1_0, .int .i64 v1_1, .sn 3 (.int .i64) v1_2 none]))] [(1000192, (⟨3, .int .i64, v3, true, false⟩ : Row)), (1000256, (⟨3, .int .i64, v4, true, false⟩ : Row)), (1000320, (⟨3, .int .i64, v5, true, false⟩ : Row)), (1000448, (⟨3, .int .i64, v7, true, false⟩ : Row))]
noncomputable def f64l15 : Clean := ⟨[1, 3, 4, 5, 7, 16, 34, 35, 158, 159, 160], [1], [], [], [(⟨false, 3, 0⟩, 1000192), (⟨false, 4, 0⟩, 1000256), (⟨false, 5, 0⟩, 1000320), (⟨false, 7, 0⟩, 1000448)]⟩
noncomputable def f64s16 (v3 v4 : List Int) (v5 v7 : List Int) (v16 v19 : Int) (v34 v35 : Int) (v1_0 v1_1 : Int) (v1_2 : List Int) : St := stOf [(1, .c (.box 1 0)), (3, .c (.own 1000192)), (4, .c (.own 1000256)), (5, .c (.own 1000320)), (7, .c (.own 1000448)), (16, .c (.int .i64 v16)), (19, .c (.int .i64 v19)), (34, .c (.int .i64 v34)), (35, .c (.int .i64 v35))] [(1, (26, [.int .i64 v1_0, .int .i64 v1_1, .sn 3 (.int .i64) v1_2 none]))] [(1000192, (⟨3, .int .i64, v3, true, false⟩ : Row)), (1000256, (⟨3, .int .i64, v4, true, false⟩ : Row)), (1000320, (⟨3, .int .i64, v5, true, false⟩ : Row)), (1000448, (⟨3, .int .i64, v7, true, false⟩ : Row))]
noncomputable def f64l16 : Clean := ⟨[1, 3, 4, 5, 7, 16, 19, 34, 35], [1], [], [], [(⟨false, 3, 0⟩, 1000192), (⟨false, 4, 0⟩, 1000256), (⟨false, 5, 0⟩, 1000320), (⟨false, 7, 0⟩, 1000448)]⟩
noncomputable def f64s17 (v3 v4 : List Int) (v5 v7 : List Int) (v16 v19 : Int) (v34 v35 : Int) (v179 v180 : Int) (v1_0 v1_1 : Int) (v1_2 : List Int) : St := stOf [(1, .c (.box 1 0)), (3, .c (.own 1000192)), (4, .c (.own 1000256)), (5, .c (.own 1000320)), (7, .c (.own 1000448)), (16, .c (.int .i64 v16)), (19, .c (.int .i64 v19)), (34, .c (.int .i64 v34)), (35, .c (.int .i64 v35)), (178, .c (.own 1000448)), (179, .c (.int .i64 v179)), (180, .c (.int .i64 v180))] [(1, (26, [.int .i64 v1_0, .int .i64 v1_1, .sn 3 (.int .i64) v1_2 none]))] [(1000192, (⟨3, .int .i64, v3, true, false⟩ : Row)), (1000256, (⟨3, .int .i64, v4, true, false⟩ : Row)), (1000320, (⟨3, .int .i64, v5, true, false⟩ : Row)), (1000448, (⟨3, .int .i64, v7, true, false⟩ : Row))]
noncomputable def f64l17 : Clean := ⟨[1, 3, 4, 5, 7, 16, 19, 34, 35, 178, 179, 180], [1], [], [], [(⟨false, 3, 0⟩, 1000192), (⟨false, 4, 0⟩, 1000256), (⟨false, 5, 0⟩, 1000320), (⟨false, 7, 0⟩, 1000448)]⟩
noncomputable def f64s18 (v3 v4 : List Int) (v5 v7 : List Int) (v19 v34 : Int) (v35 v1_0 v1_1 : Int) (v1_2 : List Int) : St := stOf [(1, .c (.box 1 0)), (3, .c (.own 1000192)), (4, .c (.own 1000256)), (5, .c (.own 1000320)), (7, .c (.own 1000448)), (19, .c (.int .i64 v19)), (34, .c (.int .i64 v34)), (35, .c (.int .i64 v35))] [(1, (26, [.int .i64 v1_0, .int .i64 v1_1, .sn 3 (.int .i64) v1_2 none]))] [(1000192, (⟨3, .int .i64, v3, true, false⟩ : Row)), (1000256, (⟨3, .int .i64, v4, true, false⟩ : Row)), (1000320, (⟨3, .int .i64, v5, true, false⟩ : Row)), (1000448, (⟨3, .int .i64, v7, true, false⟩ : Row))]
noncomputable def f64l18 : Clean := ⟨[1, 3, 4, 5, 7, 19, 34, 35], [1], [], [], [(⟨false, 3, 0⟩, 1000192), (⟨false, 4, 0⟩, 1000256), (⟨false, 5, 0⟩, 1000320), (⟨false, 7, 0⟩, 1000448)]⟩
noncomputable def f64s19 (v3 v4 : List Int) (v5 v205 : List Int) (v19 v34 : Int) (v35 v206 : Int) (v207 v1_0 v1_1 : Int) (v1_2 : List Int) : St := stOf [(1, .c (.box 1 0)), (3, .c (.own 1000192)), (4, .c (.own 1000256)), (5, .c (.own 1000320)), (19, .c (.int .i64 v19)), (34, .c (.int .i64 v34)), (35, .c (.int .i64 v35)), (205, .c (.own 1013120)), (206, .c (.int .i64 v206)), (207, .c (.int .i64 v207))] [(1, (26, [.int .i64 v1_0, .int .i64 v1_1, .sn 3 (.int .i64) v1_2 none]))] [(1000192, (⟨3, .int .i64, v3, true, false⟩ : Row)), (1000256, (⟨3, .int .i64, v4, true, false⟩ : Row)), (1000320, (⟨3, .int .i64, v5, true, false⟩ : Row)), (1013120, (⟨3, .int .i64, v205, true, false⟩ : Row))]
noncomputable def f64l19 : Clean := ⟨[1, 3, 4, 5, 19, 34, 35, 205, 206, 207], [1], [], [], [(⟨false, 3, 0⟩, 1000192), (⟨false, 4, 0⟩, 1000256), (⟨false, 5, 0⟩, 1000320), (⟨false, 205, 0⟩, 1013120)]⟩
noncomputable def f64s20 (v5 : List Int) : St := stOf [(5, .c (.own 1000320))] [] [(1000320, (⟨3, .int .i64, v5, true, false⟩ : Row))]
noncomputable def f64l20 : Clean := ⟨[5], [], [], [], [(⟨false, 5, 0⟩, 1000320)]⟩
noncomputable def f64s21 (v2 : List Int) : St := stOf [(2, .c (.own 1001000128))] [] [(1001000128, (⟨3, .int .i64, v2, true, true⟩ : Row))]
noncomputable def f64l21 : Clean := ⟨[2], [], [⟨⟨false, 2, 0⟩, 30000000, 3, .int .i64, true⟩], [], [(⟨false, 2, 0⟩, 1001000128)]⟩
noncomputable def f64B : Nat → Option Clean := lookL [(5, f64l10), (4, f64l8), (3, f64l8), (2, f64l7), (6, f64l14), (8, f64l18), (10, f64l4), (1, f64l4), (0, f64l20), (1000000, f64l21)]
noncomputable abbrev f64i {ρ : Type} (N : Nat) (c : Code) (p : Plan) (σ : St) (K : KT ρ) : Option ρ := iCode f64G tab f64B N c p σ K
noncomputable def f64c1 := codeAt (bodyOf Try.f64) [0]
theorem f64t1 {ρ : Type} (N : Nat) (v0 : Int × Int × List Int) (K : KT ρ) : f64i N f64c1 .n (f64s0 v0) (joinK (some f64l1) K) =
  impl_factors.Z1 N v0 (fun v1_0 v1_1 v1_2 => K .nrm (f64s1 v1_0 v1_1 v1_2)) := by kernel_rfl
noncomputable def f64c3 := codeAt (bodyOf Try.f64) [1,0]
theorem f64t3 {ρ : Type} (N : Nat) (v1_0 v1_1 : Int) (v1_2 : List Int) (K : KT ρ) : f64i N f64c3 .n (f64s1 v1_0 v1_1 v1_2) (joinK (some f64l2) K) =
  impl_factors.Z3 N v1_0 v1_1 v1_2 (fun v3 v4 v1_0 v1_1 v1_2 => K .nrm (f64s2 v3 v4 v1_0 v1_1 v1_2)) := by kernel_rfl
noncomputable def f64c5 := codeAt (bodyOf Try.f64) [1,1,0]
theorem f64t5 {ρ : Type} (N : Nat) (v3 v4 : List Int) (v1_0 v1_1 : Int) (v1_2 : List Int) (K : KT ρ) : f64i N f64c5 .n (f64s2 v3 v4 v1_0 v1_1 v1_2) (joinK (some f64l3) K) =
  impl_factors.Z5 N v3 v4 v1_0 v1_1 v1_2 (fun v3 v4 v5 v1_0 v1_1 v1_2 => K .nrm (f64s3 v3 v4 v5 v1_0 v1_1 v1_2)) := by kernel_rfl
noncomputable def f64c8 := codeAt (bodyOf Try.f64) [1,1,1,0,0]
theorem f64t8 {ρ : Type} (N : Nat) (v3 v4 v5 : List Int) (v1_0 v1_1 : Int) (v1_2 : List Int) (K : KT ρ) : f64i N f64c8 .n (f64s3 v3 v4 v5 v1_0 v1_1 v1_2) (joinK (some f64l4) K) =
  impl_factors.Z8 N v3 v4 v5 v1_0 v1_1 v1_2 (fun v3 v4 v5 v34 v35 v1_0 v1_1 v1_2 => K .nrm (f64s4 v3 v4 v5 v34 v35 v1_0 v1_1 v1_2)) := by kernel_rfl
noncomputable def f64c12 := codeAt (bodyOf Try.f64) [1,1,1,0,1,0,0,0]
theorem f64t12 {ρ : Type} (N : Nat) (v3 v4 v5 : List Int) (v34 v35 : Int) (v1_0 v1_1 : Int) (v1_2 : List Int) (K : KT ρ) : f64i N f64c12 .n (f64s4 v3 v4 v5 v34 v35 v1_0 v1_1 v1_2) (joinK (some f64l5) K) =
  impl_factors.Z12 N v3 v4 v5 v34 v35 v1_0 v1_1 v1_2 (fun v3 v4 v5 v34 v35 v36 v1_0 v1_1 v1_2 => K .nrm (f64s5 v3 v4 v5 v34 v35 v36 v1_0 v1_1 v1_2)) := by kernel_rfl
noncomputable def f64c14 := codeAt (bodyOf Try.f64) [1,1,1,0,1,0,0,1,0]
theorem f64t14 {ρ : Type} (N : Nat) (v3 v4 v5 : List Int) (v34 v35 : Int) (v36 : Bool) (v1_0 v1_1 : Int) (v1_2 : List Int) (K : KT ρ) : f64i N f64c14 .n (f64s5 v3 v4 v5 v34 v35 v36 v1_0 v1_1 v1_2) (joinK (some f64l4) K) =
  impl_factors.Z14 N v3 v4 v5 v34 v35 v36 v1_0 v1_1 v1_2 (fun v3 v4 v5 v34 v35 v1_0 v1_1 v1_2 => K .nrm (f64s4 v3 v4 v5 v34 v35 v1_0 v1_1 v1_2)) (fun v5 => K (.exit 0) (f64s20 v5)) := by kernel_rfl
noncomputable def f64c18 := codeAt (bodyOf Try.f64) [1,1,1,0,1,0,0,1,1,0,0,0]
theorem f64t18 {ρ : Type} (N : Nat) (v3 v4 v5 : List Int) (v34 v35 : Int) (v1_0 v1_1 : Int) (v1_2 : List Int) (K : KT ρ) : f64i N f64c18 .n (f64s4 v3 v4 v5 v34 v35 v1_0 v1_1 v1_2) (joinK (some f64l6) K) =
  impl_factors.Z18 N v3 v4 v5 v34 v35 v1_0 v1_1 v1_2 (fun v3 v4 v5 v6 v34 v35 v1_0 v1_1 v1_2 => K .nrm (f64s6 v3 v4 v5 v6 v34 v35 v1_0 v1_1 v1_2)) := by kernel_rfl
noncomputable def f64c20 := codeAt (bodyOf Try.f64) [1,1,1,0,1,0,0,1,1,0,0,1,0]
theorem f64t20 {ρ : Type} (N : Nat) (v3 v4 v5 : List Int) (v6 v34 : Int) (v35 v1_0 v1_1 : Int) (v1_2 : List Int) (K : KT ρ) : f64i N f64c20 .n (f64s6 v3 v4 v5 v6 v34 v35 v1_0 v1_1 v1_2) (joinK (some f64l6) K) =
  impl_factors.Z20 N v3 v4 v5 v6 v34 v35 v1_0 v1_1 v1_2 (fun v3 v4 v5 v6 v34 v35 v1_0 v1_1 v1_2 => K .nrm (f64s6 v3 v4 v5 v6 v34 v35 v1_0 v1_1 v1_2)) (fun v3 v4 v5 v34 v35 v1_0 v1_1 v1_2 => K (.exit 1) (f64s4 v3 v4 v5 v34 v35 v1_0 v1_1 v1_2)) := by kernel_rfl
noncomputable def f64c22 := codeAt (bodyOf Try.f64) [1,1,1,0,1,0,0,1,1,0,0,1,1,0]
theorem f64t22 {ρ : Type} (N : Nat) (v3 v4 v5 : List Int) (v6 v34 : Int) (v35 v1_0 v1_1 : Int) (v1_2 : List Int) (K : KT ρ) : f64i N f64c22 .n (f64s6 v3 v4 v5 v6 v34 v35 v1_0 v1_1 v1_2) (joinK (some f64l6) K) =
  impl_factors.Z22 N v3 v4 v5 v6 v34 v35 v1_0 v1_1 v1_2 (fun v3 v4 v5 v6 v34 v35 v1_0 v1_1 v1_2 => K .nrm (f64s6 v3 v4 v5 v6 v34 v35 v1_0 v1_1 v1_2)) := by kernel_rfl
noncomputable def f64c24 := codeAt (bodyOf Try.f64) [1,1,1,0,1,0,0,1,1,0,0,1,1,1,0]
theorem f64t24 {ρ : Type} (N : Nat) (v3 v4 v5 : List Int) (v6 v34 : Int) (v35 v1_0 v1_1 : Int) (v1_2 : List Int) (K : KT ρ) : f64i N f64c24 .n (f64s6 v3 v4 v5 v6 v34 v35 v1_0 v1_1 v1_2) (joinK (some f64l7) K) =
  impl_factors.Z24 N v3 v4 v5 v6 v34 v35 v1_0 v1_1 v1_2 (fun v3 v4 v5 v7 v34 v35 v1_0 v1_1 v1_2 => K .nrm (f64s7 v3 v4 v5 v7 v34 v35 v1_0 v1_1 v1_2)) := by kernel_rfl
noncomputable def f64c27 := codeAt (bodyOf Try.f64) [1,1,1,0,1,0,0,1,1,0,0,1,1,1,1,0,0]
theorem f64t27 {ρ : Type} (N : Nat) (v3 v4 : List Int) (v5 v7 : List Int) (v34 v35 : Int) (v1_0 v1_1 : Int) (v1_2 : List Int) (K : KT ρ) : f64i N f64c27 .n (f64s7 v3 v4 v5 v7 v34 v35 v1_0 v1_1 v1_2) (joinK (some f64l8) K) =
  impl_factors.Z27 N v3 v4 v5 v7 v34 v35 v1_0 v1_1 v1_2 (fun v3 v4 v5 v7 v8 v34 v35 v1_0 v1_1 v1_2 => K .nrm (f64s8 v3 v4 v5 v7 v8 v34 v35 v1_0 v1_1 v1_2)) := by kernel_rfl
noncomputable def f64c31 := codeAt (bodyOf Try.f64) [1,1,1,0,1,0,0,1,1,0,0,1,1,1,1,0,1,0,0,0]
theorem f64t31 {ρ : Type} (N : Nat) (v3 v4 : List Int) (v5 v7 : List Int) (v8 v34 : Int) (v35 v1_0 v1_1 : Int) (v1_2 : List Int) (K : KT ρ) : f64i N f64c31 .n (f64s8 v3 v4 v5 v7 v8 v34 v35 v1_0 v1_1 v1_2) (joinK (some f64l8) K) =
  impl_factors.Z31 N v3 v4 v5 v7 v8 v34 v35 v1_0 v1_1 v1_2 (fun v3 v4 v5 v7 v8 v34 v35 v1_0 v1_1 v1_2 => K .nrm (f64s8 v3 v4 v5 v7 v8 v34 v35 v1_0 v1_1 v1_2)) (fun v3 v4 v5 v7 v34 v35 v1_0 v1_1 v1_2 => K (.exit 2) (f64s7 v3 v4 v5 v7 v34 v35 v1_0 v1_1 v1_2)) := by kernel_rfl
noncomputable def f64c35 := codeAt (bodyOf Try.f64) [1,1,1,0,1,0,0,1,1,0,0,1,1,1,1,0,1,0,0,1,0,0,0]
theorem f64t35 {ρ : Type} (N : Nat) (v3 v4 : List Int) (v5 v7 : List Int) (v8 v34 : Int) (v35 v1_0 v1_1 : Int) (v1_2 : List Int) (K : KT ρ) : f64i N f64c35 .n (f64s8 v3 v4 v5 v7 v8 v34 v35 v1_0 v1_1 v1_2) (joinK (some f64l9) K) =
  impl_factors.Z35 N v3 v4 v5 v7 v8 v34 v35 v1_0 v1_1 v1_2 (fun v3 v4 v5 v7 v8 v9 v34 v35 v1_0 v1_1 v1_2 => K .nrm (f64s9 v3 v4 v5 v7 v8 v9 v34 v35 v1_0 v1_1 v1_2)) := by kernel_rfl
noncomputable def f64c37 := codeAt (bodyOf Try.f64) [1,1,1,0,1,0,0,1,1,0,0,1,1,1,1,0,1,0,0,1,0,0,1,0]
theorem f64t37 {ρ : Type} (N : Nat) (v3 v4 : List Int) (v5 v7 : List Int) (v8 v9 : Int) (v34 v35 : Int) (v1_0 v1_1 : Int) (v1_2 : List Int) (K : KT ρ) : f64i N f64c37 .n (f64s9 v3 v4 v5 v7 v8 v9 v34 v35 v1_0 v1_1 v1_2) (joinK (some f64l10) K) =
  impl_factors.Z37 N v3 v4 v5 v7 v8 v9 v34 v35 v1_0 v1_1 v1_2 (fun v3 v4 v5 v7 v8 v9 v34 v35 v62 v63 v1_0 v1_1 v1_2 => K .nrm (f64s10 v3 v4 v5 v7 v8 v9 v34 v35 v62 v63 v1_0 v1_1 v1_2)) := by kernel_rfl
noncomputable def f64c41 := codeAt (bodyOf Try.f64) [1,1,1,0,1,0,0,1,1,0,0,1,1,1,1,0,1,0,0,1,0,0,1,1,0,0,0]
theorem f64t41 {ρ : Type} (N : Nat) (v3 v4 : List Int) (v5 v7 : List Int) (v8 v9 : Int) (v34 v35 : Int) (v62 v63 : Int) (v1_0 v1_1 : Int) (v1_2 : List Int) (K : KT ρ) : f64i N f64c41 .n (f64s10 v3 v4 v5 v7 v8 v9 v34 v35 v62 v63 v1_0 v1_1 v1_2) (joinK (some f64l11) K) =
  impl_factors.Z41 N v3 v4 v5 v7 v8 v9 v34 v35 v62 v63 v1_0 v1_1 v1_2 (fun v3 v4 v5 v7 v8 v9 v34 v35 v62 v63 v64 v1_0 v1_1 v1_2 => K .nrm (f64s11 v3 v4 v5 v7 v8 v9 v34 v35 v62 v63 v64 v1_0 v1_1 v1_2)) := by kernel_rfl
noncomputable def f64c43 := codeAt (bodyOf Try.f64) [1,1,1,0,1,0,0,1,1,0,0,1,1,1,1,0,1,0,0,1,0,0,1,1,0,0,1,0]
theorem f64t43 {ρ : Type} (N : Nat) (v3 v4 : List Int) (v5 v7 : List Int) (v8 v9 : Int) (v34 v35 : Int) (v62 v63 : Int) (v64 : Bool) (v1_0 v1_1 : Int) (v1_2 : List Int) (K : KT ρ) : f64i N f64c43 .n (f64s11 v3 v4 v5 v7 v8 v9 v34 v35 v62 v63 v64 v1_0 v1_1 v1_2) (joinK (some f64l10) K) =
  impl_factors.Z43 N v3 v4 v5 v7 v8 v9 v34 v35 v62 v63 v64 v1_0 v1_1 v1_2 (fun v3 v4 v5 v7 v8 v9 v34 v35 v62 v63 v1_0 v1_1 v1_2 => K .nrm (f64s10 v3 v4 v5 v7 v8 v9 v34 v35 v62 v63 v1_0 v1_1 v1_2)) (fun v3 v4 v5 v7 v8 v34 v35 v1_0 v1_1 v1_2 => K (.exit 4) (f64s8 v3 v4 v5 v7 v8 v34 v35 v1_0 v1_1 v1_2)) := by kernel_rfl
noncomputable def f64c47 := codeAt (bodyOf Try.f64) [1,1,1,0,1,0,0,1,1,0,0,1,1,1,1,0,1,0,0,1,0,0,1,1,0,0,1,1,0,0,0]
theorem f64t47 {ρ : Type} (N : Nat) (v3 v4 : List Int) (v5 v7 : List Int) (v8 v9 : Int) (v34 v35 : Int) (v62 v63 : Int) (v1_0 v1_1 : Int) (v1_2 : List Int) (K : KT ρ) : f64i N f64c47 .n (f64s10 v3 v4 v5 v7 v8 v9 v34 v35 v62 v63 v1_0 v1_1 v1_2) (joinK (some f64l12) K) =
  impl_factors.Z47 N v3 v4 v5 v7 v8 v9 v34 v35 v62 v63 v1_0 v1_1 v1_2 (fun v3 v4 v5 v7 v8 v9 v10 v34 v35 v62 v63 v1_0 v1_1 v1_2 => K .nrm (f64s12 v3 v4 v5 v7 v8 v9 v10 v34 v35 v62 v63 v1_0 v1_1 v1_2)) := by kernel_rfl
noncomputable def f64c49 := codeAt (bodyOf Try.f64) [1,1,1,0,1,0,0,1,1,0,0,1,1,1,1,0,1,0,0,1,0,0,1,1,0,0,1,1,0,0,1,0]
theorem f64t49 {ρ : Type} (N : Nat) (v3 v4 : List Int) (v5 v7 : List Int) (v8 v9 : Int) (v10 v34 : Int) (v35 v62 : Int) (v63 v1_0 v1_1 : Int) (v1_2 : List Int) (K : KT ρ) : f64i N f64c49 .n (f64s12 v3 v4 v5 v7 v8 v9 v10 v34 v35 v62 v63 v1_0 v1_1 v1_2) (joinK (some f64l13) K) =
  impl_factors.Z49 N v3 v4 v5 v7 v8 v9 v10 v34 v35 v62 v63 v1_0 v1_1 v1_2 (fun v3 v4 v5 v7 v8 v9 v10 v11 v12 v34 v35 v62 v63 v1_0 v1_1 v1_2 => K .nrm (f64s13 v3 v4 v5 v7 v8 v9 v10 v11 v12 v34 v35 v62 v63 v1_0 v1_1 v1_2)) := by kernel_rfl
noncomputable def f64c51 := codeAt (bodyOf Try.f64) [1,1,1,0,1,0,0,1,1,0,0,1,1,1,1,0,1,0,0,1,0,0,1,1,0,0,1,1,0,0,1,1,0]
theorem f64t51 {ρ : Type} (N : Nat) (v3 v4 : List Int) (v5 v7 : List Int) (v8 v9 : Int) (v10 v11 : Int) (v12 v34 : Int) (v35 v62 : Int) (v63 v1_0 v1_1 : Int) (v1_2 : List Int) (K : KT ρ) : f64i N f64c51 .n (f64s13 v3 v4 v5 v7 v8 v9 v10 v11 v12 v34 v35 v62 v63 v1_0 v1_1 v1_2) (joinK (some f64l13) K) =
  impl_factors.Z51 N v3 v4 v5 v7 v8 v9 v10 v11 v12 v34 v35 v62 v63 v1_0 v1_1 v1_2 (fun v3 v4 v5 v7 v8 v9 v10 v11 v12 v34 v35 v62 v63 v1_0 v1_1 v1_2 => K .nrm (f64s13 v3 v4 v5 v7 v8 v9 v10 v11 v12 v34 v35 v62 v63 v1_0 v1_1 v1_2)) (fun v3 v4 v5 v7 v8 v9 v34 v35 v62 v63 v1_0 v1_1 v1_2 => K (.exit 5) (f64s10 v3 v4 v5 v7 v8 v9 v34 v35 v62 v63 v1_0 v1_1 v1_2)) := by kernel_rfl
noncomputable def f64c52 := codeAt (bodyOf Try.f64) [1,1,1,0,1,0,0,1,1,0,0,1,1,1,1,0,1,0,0,1,0,0,1,1,0,0,1,1,0,0,1,1,1]
theorem f64t52 {ρ : Type} (N : Nat) (v3 v4 : List Int) (v5 v7 : List Int) (v8 v9 : Int) (v10 v11 : Int) (v12 v34 : Int) (v35 v62 : Int) (v63 v1_0 v1_1 : Int) (v1_2 : List Int) (K : KT ρ) : f64i N f64c52 .n (f64s13 v3 v4 v5 v7 v8 v9 v10 v11 v12 v34 v35 v62 v63 v1_0 v1_1 v1_2) (joinK (some f64l10) K) =
  impl_factors.Z52 N v3 v4 v5 v7 v8 v9 v10 v11 v12 v34 v35 v62 v63 v1_0 v1_1 v1_2 (fun v3 v4 v5 v7 v8 v9 v34 v35 v62 v63 v1_0 v1_1 v1_2 => K .nrm (f64s10 v3 v4 v5 v7 v8 v9 v34 v35 v62 v63 v1_0 v1_1 v1_2)) (fun v2 => K .ret (f64s21 v2)) := by kernel_rfl
noncomputable def f64c50 := codeAt (bodyOf Try.f64) [1,1,1,0,1,0,0,1,1,0,0,1,1,1,1,0,1,0,0,1,0,0,1,1,0,0,1,1,0,0,1,1]
noncomputable def f64p50 : Plan := .mk (some f64l13) none .n .n
theorem f64t50 {ρ : Type} (N : Nat) (v3 v4 : List Int) (v5 v7 : List Int) (v8 v9 : Int) (v10 v11 : Int) (v12 v34 : Int) (v35 v62 : Int) (v63 v1_0 v1_1 : Int) (v1_2 : List Int) (K : KT ρ) : f64i N f64c50 f64p50 (f64s13 v3 v4 v5 v7 v8 v9 v10 v11 v12 v34 v35 v62 v63 v1_0 v1_1 v1_2) (joinK (some f64l10) K) =
  impl_factors.Z50 N v3 v4 v5 v7 v8 v9 v10 v11 v12 v34 v35 v62 v63 v1_0 v1_1 v1_2 (fun v3 v4 v5 v7 v8 v9 v34 v35 v62 v63 v1_0 v1_1 v1_2 => K .nrm (f64s10 v3 v4 v5 v7 v8 v9 v34 v35 v62 v63 v1_0 v1_1 v1_2)) (fun v3 v4 v5 v7 v8 v9 v34 v35 v62 v63 v1_0 v1_1 v1_2 => K (.exit 5) (f64s10 v3 v4 v5 v7 v8 v9 v34 v35 v62 v63 v1_0 v1_1 v1_2)) (fun v2 => K .ret (f64s21 v2)) :=
  viaSeq (fun k => impl_factors.Z51 N v3 v4 v5 v7 v8 v9 v10 v11 v12 v34 v35 v62 v63 v1_0 v1_1 v1_2 k (fun v3 v4 v5 v7 v8 v9 v34 v35 v62 v63 v1_0 v1_1 v1_2 => K (.exit 5) (f64s10 v3 v4 v5 v7 v8 v9 v34 v35 v62 v63 v1_0 v1_1 v1_2))) (by kernel_rfl) (by kernel_rfl) (f64t51 N v3 v4 v5 v7 v8 v9 v10 v11 v12 v34 v35 v62 v63 v1_0 v1_1 v1_2 (seqK (fun σ => f64i N f64c52 .n σ (joinK (some f64l10) K)) (joinK (some f64l10) K))) (funext fun v3 => funext fun v4 => funext fun v5 => funext fun v7 => funext fun v8 => funext fun v9 => funext fun v10 => funext fun v11 => funext fun v12 => funext fun v34 => funext fun v35 => funext fun v62 => funext fun v63 => funext fun v1_0 => funext fun v1_1 => funext fun v1_2 => f64t52 N v3 v4 v5 v7 v8 v9 v10 v11 v12 v34 v35 v62 v63 v1_0 v1_1 v1_2 K) (by kernel_rfl) (by kernel_rfl)
noncomputable def f64c48 := codeAt (bodyOf Try.f64) [1,1,1,0,1,0,0,1,1,0,0,1,1,1,1,0,1,0,0,1,0,0,1,1,0,0,1,1,0,0,1]
noncomputable def f64p48 : Plan := .mk (some f64l13) none .n f64p50
theorem f64t48 {ρ : Type} (N : Nat) (v3 v4 : List Int) (v5 v7 : List Int) (v8 v9 : Int) (v10 v34 : Int) (v35 v62 : Int) (v63 v1_0 v1_1 : Int) (v1_2 : List Int) (K : KT ρ) : f64i N f64c48 f64p48 (f64s12 v3 v4 v5 v7 v8 v9 v10 v34 v35 v62 v63 v1_0 v1_1 v1_2) (joinK (some f64l10) K) =
  impl_factors.Z48 N v3 v4 v5 v7 v8 v9 v10 v34 v35 v62 v63 v1_0 v1_1 v1_2 (fun v3 v4 v5 v7 v8 v9 v34 v35 v62 v63 v1_0 v1_1 v1_2 => K .nrm (f64s10 v3 v4 v5 v7 v8 v9 v34 v35 v62 v63 v1_0 v1_1 v1_2)) (fun v3 v4 v5 v7 v8 v9 v34 v35 v62 v63 v1_0 v1_1 v1_2 => K (.exit 5) (f64s10 v3 v4 v5 v7 v8 v9 v34 v35 v62 v63 v1_0 v1_1 v1_2)) (fun v2 => K .ret (f64s21 v2)) :=
  viaSeq (fun k => impl_factors.Z49 N v3 v4 v5 v7 v8 v9 v10 v34 v35 v62 v63 v1_0 v1_1 v1_2 k) (by kernel_rfl) (by kernel_rfl) (f64t49 N v3 v4 v5 v7 v8 v9 v10 v34 v35 v62 v63 v1_0 v1_1 v1_2 (seqK (fun σ => f64i N f64c50 f64p50 σ (joinK (some f64l10) K)) (joinK (some f64l10) K))) (funext fun v3 => funext fun v4 => funext fun v5 => funext fun v7 => funext fun v8 => funext fun v9 => funext fun v10 => funext fun v11 => funext fun v12 => funext fun v34 => funext fun v35 => funext fun v62 => funext fun v63 => funext fun v1_0 => funext fun v1_1 => funext fun v1_2 => f64t50 N v3 v4 v5 v7 v8 v9 v10 v11 v12 v34 v35 v62 v63 v1_0 v1_1 v1_2 K) (by kernel_rfl) (by kernel_rfl)
noncomputable def f64c46 := codeAt (bodyOf Try.f64) [1,1,1,0,1,0,0,1,1,0,0,1,1,1,1,0,1,0,0,1,0,0,1,1,0,0,1,1,0,0]
noncomputable def f64p46 : Plan := .mk (some f64l12) none .n f64p48
theorem f64t46 {ρ : Type} (N : Nat) (v3 v4 : List Int) (v5 v7 : List Int) (v8 v9 : Int) (v34 v35 : Int) (v62 v63 : Int) (v1_0 v1_1 : Int) (v1_2 : List Int) (K : KT ρ) : f64i N f64c46 f64p46 (f64s10 v3 v4 v5 v7 v8 v9 v34 v35 v62 v63 v1_0 v1_1 v1_2) (joinK (some f64l10) K) =
  impl_factors.Z46 N v3 v4 v5 v7 v8 v9 v34 v35 v62 v63 v1_0 v1_1 v1_2 (fun v3 v4 v5 v7 v8 v9 v34 v35 v62 v63 v1_0 v1_1 v1_2 => K .nrm (f64s10 v3 v4 v5 v7 v8 v9 v34 v35 v62 v63 v1_0 v1_1 v1_2)) (fun v3 v4 v5 v7 v8 v9 v34 v35 v62 v63 v1_0 v1_1 v1_2 => K (.exit 5) (f64s10 v3 v4 v5 v7 v8 v9 v34 v35 v62 v63 v1_0 v1_1 v1_2)) (fun v2 => K .ret (f64s21 v2)) :=
  viaSeq (fun k => impl_factors.Z47 N v3 v4 v5 v7 v8 v9 v34 v35 v62 v63 v1_0 v1_1 v1_2 k) (by kernel_rfl) (by kernel_rfl) (f64t47 N v3 v4 v5 v7 v8 v9 v34 v35 v62 v63 v1_0 v1_1 v1_2 (seqK (fun σ => f64i N f64c48 f64p48 σ (joinK (some f64l10) K)) (joinK (some f64l10) K))) (funext fun v3 => funext fun v4 => funext fun v5 => funext fun v7 => funext fun v8 => funext fun v9 => funext fun v10 => funext fun v34 => funext fun v35 => funext fun v62 => funext fun v63 => funext fun v1_0 => funext fun v1_1 => funext fun v1_2 => f64t48 N v3 v4 v5 v7 v8 v9 v10 v34 v35 v62 v63 v1_0 v1_1 v1_2 K) (by kernel_rfl) (by kernel_rfl)
noncomputable def f64c45 := codeAt (bodyOf Try.f64) [1,1,1,0,1,0,0,1,1,0,0,1,1,1,1,0,1,0,0,1,0,0,1,1,0,0,1,1,0]
noncomputable def f64p45 : Plan := .mk (some f64l10) none f64p46 .n
theorem f64t45 {ρ : Type} (N : Nat) (v3 v4 : List Int) (v5 v7 : List Int) (v8 v9 : Int) (v34 v35 : Int) (v62 v63 : Int) (v1_0 v1_1 : Int) (v1_2 : List Int) (K : KT ρ) : f64i N f64c45 f64p45 (f64s10 v3 v4 v5 v7 v8 v9 v34 v35 v62 v63 v1_0 v1_1 v1_2) (joinK (some f64l10) K) =
  impl_factors.Z45 N v3 v4 v5 v7 v8 v9 v34 v35 v62 v63 v1_0 v1_1 v1_2 (fun v3 v4 v5 v7 v8 v9 v34 v35 v62 v63 v1_0 v1_1 v1_2 => K .nrm (f64s10 v3 v4 v5 v7 v8 v9 v34 v35 v62 v63 v1_0 v1_1 v1_2)) (fun v2 => K .ret (f64s21 v2)) :=
  viaBlock (by kernel_rfl) (by kernel_rfl) (f64t46 N v3 v4 v5 v7 v8 v9 v34 v35 v62 v63 v1_0 v1_1 v1_2 (blockK 5 (joinK (some f64l10) K))) (by kernel_rfl)
noncomputable def f64c53 := codeAt (bodyOf Try.f64) [1,1,1,0,1,0,0,1,1,0,0,1,1,1,1,0,1,0,0,1,0,0,1,1,0,0,1,1,1]
theorem f64t53 {ρ : Type} (N : Nat) (v3 v4 : List Int) (v5 v7 : List Int) (v8 v9 : Int) (v34 v35 : Int) (v62 v63 : Int) (v1_0 v1_1 : Int) (v1_2 : List Int) (K : KT ρ) : f64i N f64c53 .n (f64s10 v3 v4 v5 v7 v8 v9 v34 v35 v62 v63 v1_0 v1_1 v1_2) (joinK (some f64l10) K) =
  impl_factors.Z53 N v3 v4 v5 v7 v8 v9 v34 v35 v62 v63 v1_0 v1_1 v1_2 (fun v3 v4 v5 v7 v8 v9 v34 v35 v62 v63 v1_0 v1_1 v1_2 => K .nrm (f64s10 v3 v4 v5 v7 v8 v9 v34 v35 v62 v63 v1_0 v1_1 v1_2)) := by kernel_rfl
noncomputable def f64c44 := codeAt (bodyOf Try.f64) [1,1,1,0,1,0,0,1,1,0,0,1,1,1,1,0,1,0,0,1,0,0,1,1,0,0,1,1]
noncomputable def f64p44 : Plan := .mk (some f64l10) none f64p45 .n
theorem f64t44 {ρ : Type} (N : Nat) (v3 v4 : List Int) (v5 v7 : List Int) (v8 v9 : Int) (v34 v35 : Int) (v62 v63 : Int) (v1_0 v1_1 : Int) (v1_2 : List Int) (K : KT ρ) : f64i N f64c44 f64p44 (f64s10 v3 v4 v5 v7 v8 v9 v34 v35 v62 v63 v1_0 v1_1 v1_2) (joinK (some f64l10) K) =
  impl_factors.Z44 N v3 v4 v5 v7 v8 v9 v34 v35 v62 v63 v1_0 v1_1 v1_2 (fun v3 v4 v5 v7 v8 v9 v34 v35 v62 v63 v1_0 v1_1 v1_2 => K .nrm (f64s10 v3 v4 v5 v7 v8 v9 v34 v35 v62 v63 v1_0 v1_1 v1_2)) (fun v2 => K .ret (f64s21 v2)) :=
  viaSeq (fun k => impl_factors.Z45 N v3 v4 v5 v7 v8 v9 v34 v35 v62 v63 v1_0 v1_1 v1_2 k (fun v2 => K .ret (f64s21 v2))) (by kernel_rfl) (by kernel_rfl) (f64t45 N v3 v4 v5 v7 v8 v9 v34 v35 v62 v63 v1_0 v1_1 v1_2 (seqK (fun σ => f64i N f64c53 .n σ (joinK (some f64l10) K)) (joinK (some f64l10) K))) (funext fun v3 => funext fun v4 => funext fun v5 => funext fun v7 => funext fun v8 => funext fun v9 => funext fun v34 => funext fun v35 => funext fun v62 => funext fun v63 => funext fun v1_0 => funext fun v1_1 => funext fun v1_2 => f64t53 N v3 v4 v5 v7 v8 v9 v34 v35 v62 v63 v1_0 v1_1 v1_2 K) (by kernel_rfl) (by kernel_rfl)
noncomputable def f64c42 := codeAt (bodyOf Try.f64) [1,1,1,0,1,0,0,1,1,0,0,1,1,1,1,0,1,0,0,1,0,0,1,1,0,0,1]
noncomputable def f64p42 : Plan := .mk (some f64l10) none .n f64p44
theorem f64t42 {ρ : Type} (N : Nat) (v3 v4 : List Int) (v5 v7 : List Int) (v8 v9 : Int) (v34 v35 : Int) (v62 v63 : Int) (v64 : Bool) (v1_0 v1_1 : Int) (v1_2 : List Int) (K : KT ρ) : f64i N f64c42 f64p42 (f64s11 v3 v4 v5 v7 v8 v9 v34 v35 v62 v63 v64 v1_0 v1_1 v1_2) (joinK (some f64l10) K) =
  impl_factors.Z42 N v3 v4 v5 v7 v8 v9 v34 v35 v62 v63 v64 v1_0 v1_1 v1_2 (fun v3 v4 v5 v7 v8 v9 v34 v35 v62 v63 v1_0 v1_1 v1_2 => K .nrm (f64s10 v3 v4 v5 v7 v8 v9 v34 v35 v62 v63 v1_0 v1_1 v1_2)) (fun v3 v4 v5 v7 v8 v34 v35 v1_0 v1_1 v1_2 => K (.exit 4) (f64s8 v3 v4 v5 v7 v8 v34 v35 v1_0 v1_1 v1_2)) (fun v2 => K .ret (f64s21 v2)) :=
  viaSeq (fun k => impl_factors.Z43 N v3 v4 v5 v7 v8 v9 v34 v35 v62 v63 v64 v1_0 v1_1 v1_2 k (fun v3 v4 v5 v7 v8 v34 v35 v1_0 v1_1 v1_2 => K (.exit 4) (f64s8 v3 v4 v5 v7 v8 v34 v35 v1_0 v1_1 v1_2))) (by kernel_rfl) (by kernel_rfl) (f64t43 N v3 v4 v5 v7 v8 v9 v34 v35 v62 v63 v64 v1_0 v1_1 v1_2 (seqK (fun σ => f64i N f64c44 f64p44 σ (joinK (some f64l10) K)) (joinK (some f64l10) K))) (funext fun v3 => funext fun v4 => funext fun v5 => funext fun v7 => funext fun v8 => funext fun v9 => funext fun v34 => funext fun v35 => funext fun v62 => funext fun v63 => funext fun v1_0 => funext fun v1_1 => funext fun v1_2 => f64t44 N v3 v4 v5 v7 v8 v9 v34 v35 v62 v63 v1_0 v1_1 v1_2 K) (by kernel_rfl) (by kernel_rfl)
noncomputable def f64c40 := codeAt (bodyOf Try.f64) [1,1,1,0,1,0,0,1,1,0,0,1,1,1,1,0,1,0,0,1,0,0,1,1,0,0]
noncomputable def f64p40 : Plan := .mk (some f64l11) none .n f64p42
theorem f64t40 {ρ : Type} (N : Nat) (v3 v4 : List Int) (v5 v7 : List Int) (v8 v9 : Int) (v34 v35 : Int) (v62 v63 : Int) (v1_0 v1_1 : Int) (v1_2 : List Int) (K : KT ρ) : f64i N f64c40 f64p40 (f64s10 v3 v4 v5 v7 v8 v9 v34 v35 v62 v63 v1_0 v1_1 v1_2) (joinK (some f64l10) K) =
  impl_factors.Z40 N v3 v4 v5 v7 v8 v9 v34 v35 v62 v63 v1_0 v1_1 v1_2 (fun v3 v4 v5 v7 v8 v9 v34 v35 v62 v63 v1_0 v1_1 v1_2 => K .nrm (f64s10 v3 v4 v5 v7 v8 v9 v34 v35 v62 v63 v1_0 v1_1 v1_2)) (fun v3 v4 v5 v7 v8 v34 v35 v1_0 v1_1 v1_2 => K (.exit 4) (f64s8 v3 v4 v5 v7 v8 v34 v35 v1_0 v1_1 v1_2)) (fun v2 => K .ret (f64s21 v2)) :=
  viaSeq (fun k => impl_factors.Z41 N v3 v4 v5 v7 v8 v9 v34 v35 v62 v63 v1_0 v1_1 v1_2 k) (by kernel_rfl) (by kernel_rfl) (f64t41 N v3 v4 v5 v7 v8 v9 v34 v35 v62 v63 v1_0 v1_1 v1_2 (seqK (fun σ => f64i N f64c42 f64p42 σ (joinK (some f64l10) K)) (joinK (some f64l10) K))) (funext fun v3 => funext fun v4 => funext fun v5 => funext fun v7 => funext fun v8 => funext fun v9 => funext fun v34 => funext fun v35 => funext fun v62 => funext fun v63 => funext fun v64 => funext fun v1_0 => funext fun v1_1 => funext fun v1_2 => f64t42 N v3 v4 v5 v7 v8 v9 v34 v35 v62 v63 v64 v1_0 v1_1 v1_2 K) (by kernel_rfl) (by kernel_rfl)
noncomputable def f64c39 := codeAt (bodyOf Try.f64) [1,1,1,0,1,0,0,1,1,0,0,1,1,1,1,0,1,0,0,1,0,0,1,1,0]
noncomputable def f64p39 : Plan := .mk none (some f64l10) f64p40 .n
noncomputable abbrev f64w39 {ρ : Type} (N M : Nat) (σ : St) (K : KT ρ) : Option ρ := loopC (fun σ K => f64i N f64c40 f64p40 σ K) f64l10 M σ K
theorem f64t39L {ρ : Type} (N : Nat) (K : KT ρ) : ∀ (M : Nat) (v3 v4 : List Int) (v5 v7 : List Int) (v8 v9 : Int) (v34 v35 : Int) (v62 v63 : Int) (v1_0 v1_1 : Int) (v1_2 : List Int), f64w39 N M (f64s10 v3 v4 v5 v7 v8 v9 v34 v35 v62 v63 v1_0 v1_1 v1_2) K =
  impl_factors.Z39L N (fun v3 v4 v5 v7 v8 v34 v35 v1_0 v1_1 v1_2 => K (.exit 4) (f64s8 v3 v4 v5 v7 v8 v34 v35 v1_0 v1_1 v1_2)) (fun v2 => K .ret (f64s21 v2)) M v3 v4 v5 v7 v8 v9 v34 v35 v62 v63 v1_0 v1_1 v1_2
  | 0, _, _, _, _, _, _, _, _, _, _, _, _, _ => rfl
  | M + 1, v3, v4, v5, v7, v8, v9, v34, v35, v62, v63, v1_0, v1_1, v1_2 => viaRound (fun k => impl_factors.Z40 N v3 v4 v5 v7 v8 v9 v34 v35 v62 v63 v1_0 v1_1 v1_2 k (fun v3 v4 v5 v7 v8 v34 v35 v1_0 v1_1 v1_2 => K (.exit 4) (f64s8 v3 v4 v5 v7 v8 v34 v35 v1_0 v1_1 v1_2)) (fun v2 => K .ret (f64s21 v2))) (f64t40 N v3 v4 v5 v7 v8 v9 v34 v35 v62 v63 v1_0 v1_1 v1_2 (seqK (fun σ => f64w39 N M σ K) K)) (funext fun v3 => funext fun v4 => funext fun v5 => funext fun v7 => funext fun v8 => funext fun v9 => funext fun v34 => funext fun v35 => funext fun v62 => funext fun v63 => funext fun v1_0 => funext fun v1_1 => funext fun v1_2 => f64t39L N K M v3 v4 v5 v7 v8 v9 v34 v35 v62 v63 v1_0 v1_1 v1_2) (by kernel_rfl) (by kernel_rfl)
theorem f64t39 {ρ : Type} (N : Nat) (v3 v4 : List Int) (v5 v7 : List Int) (v8 v9 : Int) (v34 v35 : Int) (v62 v63 : Int) (v1_0 v1_1 : Int) (v1_2 : List Int) (K : KT ρ) : f64i N f64c39 f64p39 (f64s10 v3 v4 v5 v7 v8 v9 v34 v35 v62 v63 v1_0 v1_1 v1_2) (joinK (some f64l8) K) =
  impl_factors.Z39 N v3 v4 v5 v7 v8 v9 v34 v35 v62 v63 v1_0 v1_1 v1_2 (fun v3 v4 v5 v7 v8 v34 v35 v1_0 v1_1 v1_2 => K (.exit 4) (f64s8 v3 v4 v5 v7 v8 v34 v35 v1_0 v1_1 v1_2)) (fun v2 => K .ret (f64s21 v2)) :=
  viaLoop (by kernel_rfl) (by kernel_rfl) (σ' := f64s10 v3 v4 v5 v7 v8 v9 v34 v35 v62 v63 v1_0 v1_1 v1_2) (by kernel_rfl) (f64t39L N (joinK (some f64l8) K) N v3 v4 v5 v7 v8 v9 v34 v35 v62 v63 v1_0 v1_1 v1_2) (by kernel_rfl)
noncomputable def f64c38 := codeAt (bodyOf Try.f64) [1,1,1,0,1,0,0,1,1,0,0,1,1,1,1,0,1,0,0,1,0,0,1,1]
noncomputable def f64p38 : Plan := .mk (some f64l8) none f64p39 .n
theorem f64t38 {ρ : Type} (N : Nat) (v3 v4 : List Int) (v5 v7 : List Int) (v8 v9 : Int) (v34 v35 : Int) (v62 v63 : Int) (v1_0 v1_1 : Int) (v1_2 : List Int) (K : KT ρ) : f64i N f64c38 f64p38 (f64s10 v3 v4 v5 v7 v8 v9 v34 v35 v62 v63 v1_0 v1_1 v1_2) (joinK (some f64l8) K) =
  impl_factors.Z38 N v3 v4 v5 v7 v8 v9 v34 v35 v62 v63 v1_0 v1_1 v1_2 (fun v3 v4 v5 v7 v8 v34 v35 v1_0 v1_1 v1_2 => K .nrm (f64s8 v3 v4 v5 v7 v8 v34 v35 v1_0 v1_1 v1_2)) (fun v2 => K .ret (f64s21 v2)) :=
  viaBlock (by kernel_rfl) (by kernel_rfl) (f64t39 N v3 v4 v5 v7 v8 v9 v34 v35 v62 v63 v1_0 v1_1 v1_2 (blockK 4 (joinK (some f64l8) K))) (by kernel_rfl)
noncomputable def f64c36 := codeAt (bodyOf Try.f64) [1,1,1,0,1,0,0,1,1,0,0,1,1,1,1,0,1,0,0,1,0,0,1]
noncomputable def f64p36 : Plan := .mk (some f64l10) none .n f64p38
theorem f64t36 {ρ : Type} (N : Nat) (v3 v4 : List Int) (v5 v7 : List Int) (v8 v9 : Int) (v34 v35 : Int) (v1_0 v1_1 : Int) (v1_2 : List Int) (K : KT ρ) : f64i N f64c36 f64p36 (f64s9 v3 v4 v5 v7 v8 v9 v34 v35 v1_0 v1_1 v1_2) (joinK (some f64l8) K) =
  impl_factors.Z36 N v3 v4 v5 v7 v8 v9 v34 v35 v1_0 v1_1 v1_2 (fun v3 v4 v5 v7 v8 v34 v35 v1_0 v1_1 v1_2 => K .nrm (f64s8 v3 v4 v5 v7 v8 v34 v35 v1_0 v1_1 v1_2)) (fun v2 => K .ret (f64s21 v2)) :=
  viaSeq (fun k => impl_factors.Z37 N v3 v4 v5 v7 v8 v9 v34 v35 v1_0 v1_1 v1_2 k) (by kernel_rfl) (by kernel_rfl) (f64t37 N v3 v4 v5 v7 v8 v9 v34 v35 v1_0 v1_1 v1_2 (seqK (fun σ => f64i N f64c38 f64p38 σ (joinK (some f64l8) K)) (joinK (some f64l8) K))) (funext fun v3 => funext fun v4 => funext fun v5 => funext fun v7 => funext fun v8 => funext fun v9 => funext fun v34 => funext fun v35 => funext fun v62 => funext fun v63 => funext fun v1_0 => funext fun v1_1 => funext fun v1_2 => f64t38 N v3 v4 v5 v7 v8 v9 v34 v35 v62 v63 v1_0 v1_1 v1_2 K) (by kernel_rfl) (by kernel_rfl)
noncomputable def f64c34 := codeAt (bodyOf Try.f64) [1,1,1,0,1,0,0,1,1,0,0,1,1,1,1,0,1,0,0,1,0,0]
noncomputable def f64p34 : Plan := .mk (some f64l9) none .n f64p36
theorem f64t34 {ρ : Type} (N : Nat) (v3 v4 : List Int) (v5 v7 : List Int) (v8 v34 : Int) (v35 v1_0 v1_1 : Int) (v1_2 : List Int) (K : KT ρ) : f64i N f64c34 f64p34 (f64s8 v3 v4 v5 v7 v8 v34 v35 v1_0 v1_1 v1_2) (joinK (some f64l8) K) =
  impl_factors.Z34 N v3 v4 v5 v7 v8 v34 v35 v1_0 v1_1 v1_2 (fun v3 v4 v5 v7 v8 v34 v35 v1_0 v1_1 v1_2 => K .nrm (f64s8 v3 v4 v5 v7 v8 v34 v35 v1_0 v1_1 v1_2)) (fun v2 => K .ret (f64s21 v2)) :=
  viaSeq (fun k => impl_factors.Z35 N v3 v4 v5 v7 v8 v34 v35 v1_0 v1_1 v1_2 k) (by kernel_rfl) (by kernel_rfl) (f64t35 N v3 v4 v5 v7 v8 v34 v35 v1_0 v1_1 v1_2 (seqK (fun σ => f64i N f64c36 f64p36 σ (joinK (some f64l8) K)) (joinK (some f64l8) K))) (funext fun v3 => funext fun v4 => funext fun v5 => funext fun v7 => funext fun v8 => funext fun v9 => funext fun v34 => funext fun v35 => funext fun v1_0 => funext fun v1_1 => funext fun v1_2 => f64t36 N v3 v4 v5 v7 v8 v9 v34 v35 v1_0 v1_1 v1_2 K) (by kernel_rfl) (by kernel_rfl)
noncomputable def f64c33 := codeAt (bodyOf Try.f64) [1,1,1,0,1,0,0,1,1,0,0,1,1,1,1,0,1,0,0,1,0]
noncomputable def f64p33 : Plan := .mk (some f64l8) none f64p34 .n
theorem f64t33 {ρ : Type} (N : Nat) (v3 v4 : List Int) (v5 v7 : List Int) (v8 v34 : Int) (v35 v1_0 v1_1 : Int) (v1_2 : List Int) (K : KT ρ) : f64i N f64c33 f64p33 (f64s8 v3 v4 v5 v7 v8 v34 v35 v1_0 v1_1 v1_2) (joinK (some f64l8) K) =
  impl_factors.Z33 N v3 v4 v5 v7 v8 v34 v35 v1_0 v1_1 v1_2 (fun v3 v4 v5 v7 v8 v34 v35 v1_0 v1_1 v1_2 => K .nrm (f64s8 v3 v4 v5 v7 v8 v34 v35 v1_0 v1_1 v1_2)) (fun v2 => K .ret (f64s21 v2)) :=
  viaBlock (by kernel_rfl) (by kernel_rfl) (f64t34 N v3 v4 v5 v7 v8 v34 v35 v1_0 v1_1 v1_2 (blockK 3 (joinK (some f64l8) K))) (by kernel_rfl)
noncomputable def f64c54 := codeAt (bodyOf Try.f64) [1,1,1,0,1,0,0,1,1,0,0,1,1,1,1,0,1,0,0,1,1]
theorem f64t54 {ρ : Type} (N : Nat) (v3 v4 : List Int) (v5 v7 : List Int) (v8 v34 : Int) (v35 v1_0 v1_1 : Int) (v1_2 : List Int) (K : KT ρ) : f64i N f64c54 .n (f64s8 v3 v4 v5 v7 v8 v34 v35 v1_0 v1_1 v1_2) (joinK (some f64l8) K) =
  impl_factors.Z54 N v3 v4 v5 v7 v8 v34 v35 v1_0 v1_1 v1_2 (fun v3 v4 v5 v7 v8 v34 v35 v1_0 v1_1 v1_2 => K .nrm (f64s8 v3 v4 v5 v7 v8 v34 v35 v1_0 v1_1 v1_2)) := by kernel_rfl
noncomputable def f64c32 := codeAt (bodyOf Try.f64) [1,1,1,0,1,0,0,1,1,0,0,1,1,1,1,0,1,0,0,1]
noncomputable def f64p32 : Plan := .mk (some f64l8) none f64p33 .n
theorem f64t32 {ρ : Type} (N : Nat) (v3 v4 : List Int) (v5 v7 : List Int) (v8 v34 : Int) (v35 v1_0 v1_1 : Int) (v1_2 : List Int) (K : KT ρ) : f64i N f64c32 f64p32 (f64s8 v3 v4 v5 v7 v8 v34 v35 v1_0 v1_1 v1_2) (joinK (some f64l8) K) =
  impl_factors.Z32 N v3 v4 v5 v7 v8 v34 v35 v1_0 v1_1 v1_2 (fun v3 v4 v5 v7 v8 v34 v35 v1_0 v1_1 v1_2 => K .nrm (f64s8 v3 v4 v5 v7 v8 v34 v35 v1_0 v1_1 v1_2)) (fun v2 => K .ret (f64s21 v2)) :=
  viaSeq (fun k => impl_factors.Z33 N v3 v4 v5 v7 v8 v34 v35 v1_0 v1_1 v1_2 k (fun v2 => K .ret (f64s21 v2))) (by kernel_rfl) (by kernel_rfl) (f64t33 N v3 v4 v5 v7 v8 v34 v35 v1_0 v1_1 v1_2 (seqK (fun σ => f64i N f64c54 .n σ (joinK (some f64l8) K)) (joinK (some f64l8) K))) (funext fun v3 => funext fun v4 => funext fun v5 => funext fun v7 => funext fun v8 => funext fun v34 => funext fun v35 => funext fun v1_0 => funext fun v1_1 => funext fun v1_2 => f64t54 N v3 v4 v5 v7 v8 v34 v35 v1_0 v1_1 v1_2 K) (by kernel_rfl) (by kernel_rfl)
noncomputable def f64c30 := codeAt (bodyOf Try.f64) [1,1,1,0,1,0,0,1,1,0,0,1,1,1,1,0,1,0,0]
noncomputable def f64p30 : Plan := .mk (some f64l8) none .n f64p32
theorem f64t30 {ρ : Type} (N : Nat) (v3 v4 : List Int) (v5 v7 : List Int) (v8 v34 : Int) (v35 v1_0 v1_1 : Int) (v1_2 : List Int) (K : KT ρ) : f64i N f64c30 f64p30 (f64s8 v3 v4 v5 v7 v8 v34 v35 v1_0 v1_1 v1_2) (joinK (some f64l8) K) =
  impl_factors.Z30 N v3 v4 v5 v7 v8 v34 v35 v1_0 v1_1 v1_2 (fun v3 v4 v5 v7 v8 v34 v35 v1_0 v1_1 v1_2 => K .nrm (f64s8 v3 v4 v5 v7 v8 v34 v35 v1_0 v1_1 v1_2)) (fun v3 v4 v5 v7 v34 v35 v1_0 v1_1 v1_2 => K (.exit 2) (f64s7 v3 v4 v5 v7 v34 v35 v1_0 v1_1 v1_2)) (fun v2 => K .ret (f64s21 v2)) :=
  viaSeq (fun k => impl_factors.Z31 N v3 v4 v5 v7 v8 v34 v35 v1_0 v1_1 v1_2 k (fun v3 v4 v5 v7 v34 v35 v1_0 v1_1 v1_2 => K (.exit 2) (f64s7 v3 v4 v5 v7 v34 v35 v1_0 v1_1 v1_2))) (by kernel_rfl) (by kernel_rfl) (f64t31 N v3 v4 v5 v7 v8 v34 v35 v1_0 v1_1 v1_2 (seqK (fun σ => f64i N f64c32 f64p32 σ (joinK (some f64l8) K)) (joinK (some f64l8) K))) (funext fun v3 => funext fun v4 => funext fun v5 => funext fun v7 => funext fun v8 => funext fun v34 => funext fun v35 => funext fun v1_0 => funext fun v1_1 => funext fun v1_2 => f64t32 N v3 v4 v5 v7 v8 v34 v35 v1_0 v1_1 v1_2 K) (by kernel_rfl) (by kernel_rfl)
noncomputable def f64c29 := codeAt (bodyOf Try.f64) [1,1,1,0,1,0,0,1,1,0,0,1,1,1,1,0,1,0]
noncomputable def f64p29 : Plan := .mk none (some f64l8) f64p30 .n
noncomputable abbrev f64w29 {ρ : Type} (N M : Nat) (σ : St) (K : KT ρ) : Option ρ := loopC (fun σ K => f64i N f64c30 f64p30 σ K) f64l8 M σ K
theorem f64t29L {ρ : Type} (N : Nat) (K : KT ρ) : ∀ (M : Nat) (v3 v4 : List Int) (v5 v7 : List Int) (v8 v34 : Int) (v35 v1_0 v1_1 : Int) (v1_2 : List Int), f64w29 N M (f64s8 v3 v4 v5 v7 v8 v34 v35 v1_0 v1_1 v1_2) K =
  impl_factors.Z29L N (fun v3 v4 v5 v7 v34 v35 v1_0 v1_1 v1_2 => K (.exit 2) (f64s7 v3 v4 v5 v7 v34 v35 v1_0 v1_1 v1_2)) (fun v2 => K .ret (f64s21 v2)) M v3 v4 v5 v7 v8 v34 v35 v1_0 v1_1 v1_2
  | 0, _, _, _, _, _, _, _, _, _, _ => rfl
  | M + 1, v3, v4, v5, v7, v8, v34, v35, v1_0, v1_1, v1_2 => viaRound (fun k => impl_factors.Z30 N v3 v4 v5 v7 v8 v34 v35 v1_0 v1_1 v1_2 k (fun v3 v4 v5 v7 v34 v35 v1_0 v1_1 v1_2 => K (.exit 2) (f64s7 v3 v4 v5 v7 v34 v35 v1_0 v1_1 v1_2)) (fun v2 => K .ret (f64s21 v2))) (f64t30 N v3 v4 v5 v7 v8 v34 v35 v1_0 v1_1 v1_2 (seqK (fun σ => f64w29 N M σ K) K)) (funext fun v3 => funext fun v4 => funext fun v5 => funext fun v7 => funext fun v8 => funext fun v34 => funext fun v35 => funext fun v1_0 => funext fun v1_1 => funext fun v1_2 => f64t29L N K M v3 v4 v5 v7 v8 v34 v35 v1_0 v1_1 v1_2) (by kernel_rfl) (by kernel_rfl)
theorem f64t29 {ρ : Type} (N : Nat) (v3 v4 : List Int) (v5 v7 : List Int) (v8 v34 : Int) (v35 v1_0 v1_1 : Int) (v1_2 : List Int) (K : KT ρ) : f64i N f64c29 f64p29 (f64s8 v3 v4 v5 v7 v8 v34 v35 v1_0 v1_1 v1_2) (joinK (some f64l7) K) =
  impl_factors.Z29 N v3 v4 v5 v7 v8 v34 v35 v1_0 v1_1 v1_2 (fun v3 v4 v5 v7 v34 v35 v1_0 v1_1 v1_2 => K (.exit 2) (f64s7 v3 v4 v5 v7 v34 v35 v1_0 v1_1 v1_2)) (fun v2 => K .ret (f64s21 v2)) :=
  viaLoop (by kernel_rfl) (by kernel_rfl) (σ' := f64s8 v3 v4 v5 v7 v8 v34 v35 v1_0 v1_1 v1_2) (by kernel_rfl) (f64t29L N (joinK (some f64l7) K) N v3 v4 v5 v7 v8 v34 v35 v1_0 v1_1 v1_2) (by kernel_rfl)
noncomputable def f64c28 := codeAt (bodyOf Try.f64) [1,1,1,0,1,0,0,1,1,0,0,1,1,1,1,0,1]
noncomputable def f64p28 : Plan := .mk (some f64l7) none f64p29 .n
theorem f64t28 {ρ : Type} (N : Nat) (v3 v4 : List Int) (v5 v7 : List Int) (v8 v34 : Int) (v35 v1_0 v1_1 : Int) (v1_2 : List Int) (K : KT ρ) : f64i N f64c28 f64p28 (f64s8 v3 v4 v5 v7 v8 v34 v35 v1_0 v1_1 v1_2) (joinK (some f64l7) K) =
  impl_factors.Z28 N v3 v4 v5 v7 v8 v34 v35 v1_0 v1_1 v1_2 (fun v3 v4 v5 v7 v34 v35 v1_0 v1_1 v1_2 => K .nrm (f64s7 v3 v4 v5 v7 v34 v35 v1_0 v1_1 v1_2)) (fun v2 => K .ret (f64s21 v2)) :=
  viaBlock (by kernel_rfl) (by kernel_rfl) (f64t29 N v3 v4 v5 v7 v8 v34 v35 v1_0 v1_1 v1_2 (blockK 2 (joinK (some f64l7) K))) (by kernel_rfl)
noncomputable def f64c26 := codeAt (bodyOf Try.f64) [1,1,1,0,1,0,0,1,1,0,0,1,1,1,1,0]
noncomputable def f64p26 : Plan := .mk (some f64l8) none .n f64p28
theorem f64t26 {ρ : Type} (N : Nat) (v3 v4 : List Int) (v5 v7 : List Int) (v34 v35 : Int) (v1_0 v1_1 : Int) (v1_2 : List Int) (K : KT ρ) : f64i N f64c26 f64p26 (f64s7 v3 v4 v5 v7 v34 v35 v1_0 v1_1 v1_2) (joinK (some f64l7) K) =
  impl_factors.Z26 N v3 v4 v5 v7 v34 v35 v1_0 v1_1 v1_2 (fun v3 v4 v5 v7 v34 v35 v1_0 v1_1 v1_2 => K .nrm (f64s7 v3 v4 v5 v7 v34 v35 v1_0 v1_1 v1_2)) (fun v2 => K .ret (f64s21 v2)) :=
  viaSeq (fun k => impl_factors.Z27 N v3 v4 v5 v7 v34 v35 v1_0 v1_1 v1_2 k) (by kernel_rfl) (by kernel_rfl) (f64t27 N v3 v4 v5 v7 v34 v35 v1_0 v1_1 v1_2 (seqK (fun σ => f64i N f64c28 f64p28 σ (joinK (some f64l7) K)) (joinK (some f64l7) K))) (funext fun v3 => funext fun v4 => funext fun v5 => funext fun v7 => funext fun v8 => funext fun v34 => funext fun v35 => funext fun v1_0 => funext fun v1_1 => funext fun v1_2 => f64t28 N v3 v4 v5 v7 v8 v34 v35 v1_0 v1_1 v1_2 K) (by kernel_rfl) (by kernel_rfl)
noncomputable def f64c56 := codeAt (bodyOf Try.f64) [1,1,1,0,1,0,0,1,1,0,0,1,1,1,1,1,0]
theorem f64t56 {ρ : Type} (N : Nat) (v3 v4 : List Int) (v5 v7 : List Int) (v34 v35 : Int) (v1_0 v1_1 : Int) (v1_2 : List Int) (K : KT ρ) : f64i N f64c56 .n (f64s7 v3 v4 v5 v7 v34 v35 v1_0 v1_1 v1_2) (joinK (some f64l14) K) =
  impl_factors.Z56 N v3 v4 v5 v7 v34 v35 v1_0 v1_1 v1_2 (fun v3 v4 v5 v7 v16 v34 v35 v1_0 v1_1 v1_2 => K .nrm (f64s14 v3 v4 v5 v7 v16 v34 v35 v1_0 v1_1 v1_2)) := by kernel_rfl
noncomputable def f64c59 := codeAt (bodyOf Try.f64) [1,1,1,0,1,0,0,1,1,0,0,1,1,1,1,1,1,0,0]
theorem f64t59 {ρ : Type} (N : Nat) (v3 v4 : List Int) (v5 v7 : List Int) (v16 v34 : Int) (v35 v1_0 v1_1 : Int) (v1_2 : List Int) (K : KT ρ) : f64i N f64c59 .n (f64s14 v3 v4 v5 v7 v16 v34 v35 v1_0 v1_1 v1_2) (joinK (some f64l15) K) =
  impl_factors.Z59 N v3 v4 v5 v7 v16 v34 v35 v1_0 v1_1 v1_2 (fun v3 v4 v5 v7 v16 v34 v35 v159 v160 v1_0 v1_1 v1_2 => K .nrm (f64s15 v3 v4 v5 v7 v16 v34 v35 v159 v160 v1_0 v1_1 v1_2)) := by kernel_rfl
noncomputable def f64c62 := codeAt (bodyOf Try.f64) [1,1,1,0,1,0,0,1,1,0,0,1,1,1,1,1,1,0,1,0,0]
theorem f64t62 {ρ : Type} (N : Nat) (v3 v4 : List Int) (v5 v7 : List Int) (v16 v34 : Int) (v35 v159 : Int) (v160 v1_0 v1_1 : Int) (v1_2 : List Int) (K : KT ρ) : f64i N f64c62 .n (f64s15 v3 v4 v5 v7 v16 v34 v35 v159 v160 v1_0 v1_1 v1_2) (joinK (some f64l15) K) =
  impl_factors.Z62 N v3 v4 v5 v7 v16 v34 v35 v159 v160 v1_0 v1_1 v1_2 (fun v3 v4 v5 v7 v16 v34 v35 v159 v160 v1_0 v1_1 v1_2 => K .nrm (f64s15 v3 v4 v5 v7 v16 v34 v35 v159 v160 v1_0 v1_1 v1_2)) (fun v3 v4 v5 v7 v16 v34 v35 v1_0 v1_1 v1_2 => K (.exit 6) (f64s14 v3 v4 v5 v7 v16 v34 v35 v1_0 v1_1 v1_2)) := by kernel_rfl
noncomputable def f64c61 := codeAt (bodyOf Try.f64) [1,1,1,0,1,0,0,1,1,0,0,1,1,1,1,1,1,0,1,0]
noncomputable def f64p61 : Plan := .mk none (some f64l15) .n .n
noncomputable abbrev f64w61 {ρ : Type} (N M : Nat) (σ : St) (K : KT ρ) : Option ρ := loopC (fun σ K => f64i N f64c62 .n σ K) f64l15 M σ K
theorem f64t61L {ρ : Type} (N : Nat) (K : KT ρ) : ∀ (M : Nat) (v3 v4 : List Int) (v5 v7 : List Int) (v16 v34 : Int) (v35 v159 : Int) (v160 v1_0 v1_1 : Int) (v1_2 : List Int), f64w61 N M (f64s15 v3 v4 v5 v7 v16 v34 v35 v159 v160 v1_0 v1_1 v1_2) K =
  impl_factors.Z61L N (fun v3 v4 v5 v7 v16 v34 v35 v1_0 v1_1 v1_2 => K (.exit 6) (f64s14 v3 v4 v5 v7 v16 v34 v35 v1_0 v1_1 v1_2)) M v3 v4 v5 v7 v16 v34 v35 v159 v160 v1_0 v1_1 v1_2
  | 0, _, _, _, _, _, _, _, _, _, _, _, _ => rfl
  | M + 1, v3, v4, v5, v7, v16, v34, v35, v159, v160, v1_0, v1_1, v1_2 => viaRound (fun k => impl_factors.Z62 N v3 v4 v5 v7 v16 v34 v35 v159 v160 v1_0 v1_1 v1_2 k (fun v3 v4 v5 v7 v16 v34 v35 v1_0 v1_1 v1_2 => K (.exit 6) (f64s14 v3 v4 v5 v7 v16 v34 v35 v1_0 v1_1 v1_2))) (f64t62 N v3 v4 v5 v7 v16 v34 v35 v159 v160 v1_0 v1_1 v1_2 (seqK (fun σ => f64w61 N M σ K) K)) (funext fun v3 => funext fun v4 => funext fun v5 => funext fun v7 => funext fun v16 => funext fun v34 => funext fun v35 => funext fun v159 => funext fun v160 => funext fun v1_0 => funext fun v1_1 => funext fun v1_2 => f64t61L N K M v3 v4 v5 v7 v16 v34 v35 v159 v160 v1_0 v1_1 v1_2) (by kernel_rfl) (by kernel_rfl)
theorem f64t61 {ρ : Type} (N : Nat) (v3 v4 : List Int) (v5 v7 : List Int) (v16 v34 : Int) (v35 v159 : Int) (v160 v1_0 v1_1 : Int) (v1_2 : List Int) (K : KT ρ) : f64i N f64c61 f64p61 (f64s15 v3 v4 v5 v7 v16 v34 v35 v159 v160 v1_0 v1_1 v1_2) (joinK (some f64l14) K) =
  impl_factors.Z61 N v3 v4 v5 v7 v16 v34 v35 v159 v160 v1_0 v1_1 v1_2 (fun v3 v4 v5 v7 v16 v34 v35 v1_0 v1_1 v1_2 => K (.exit 6) (f64s14 v3 v4 v5 v7 v16 v34 v35 v1_0 v1_1 v1_2)) :=
  viaLoop (by kernel_rfl) (by kernel_rfl) (σ' := f64s15 v3 v4 v5 v7 v16 v34 v35 v159 v160 v1_0 v1_1 v1_2) (by kernel_rfl) (f64t61L N (joinK (some f64l14) K) N v3 v4 v5 v7 v16 v34 v35 v159 v160 v1_0 v1_1 v1_2) (by kernel_rfl)
noncomputable def f64c60 := codeAt (bodyOf Try.f64) [1,1,1,0,1,0,0,1,1,0,0,1,1,1,1,1,1,0,1]
noncomputable def f64p60 : Plan := .mk (some f64l14) none f64p61 .n
theorem f64t60 {ρ : Type} (N : Nat) (v3 v4 : List Int) (v5 v7 : List Int) (v16 v34 : Int) (v35 v159 : Int) (v160 v1_0 v1_1 : Int) (v1_2 : List Int) (K : KT ρ) : f64i N f64c60 f64p60 (f64s15 v3 v4 v5 v7 v16 v34 v35 v159 v160 v1_0 v1_1 v1_2) (joinK (some f64l14) K) =
  impl_factors.Z60 N v3 v4 v5 v7 v16 v34 v35 v159 v160 v1_0 v1_1 v1_2 (fun v3 v4 v5 v7 v16 v34 v35 v1_0 v1_1 v1_2 => K .nrm (f64s14 v3 v4 v5 v7 v16 v34 v35 v1_0 v1_1 v1_2)) :=
  viaBlock (by kernel_rfl) (by kernel_rfl) (f64t61 N v3 v4 v5 v7 v16 v34 v35 v159 v160 v1_0 v1_1 v1_2 (blockK 6 (joinK (some f64l14) K))) (by kernel_rfl)
noncomputable def f64c58 := codeAt (bodyOf Try.f64) [1,1,1,0,1,0,0,1,1,0,0,1,1,1,1,1,1,0]
noncomputable def f64p58 : Plan := .mk (some f64l15) none .n f64p60
theorem f64t58 {ρ : Type} (N : Nat) (v3 v4 : List Int) (v5 v7 : List Int) (v16 v34 : Int) (v35 v1_0 v1_1 : Int) (v1_2 : List Int) (K : KT ρ) : f64i N f64c58 f64p58 (f64s14 v3 v4 v5 v7 v16 v34 v35 v1_0 v1_1 v1_2) (joinK (some f64l14) K) =
  impl_factors.Z58 N v3 v4 v5 v7 v16 v34 v35 v1_0 v1_1 v1_2 (fun v3 v4 v5 v7 v16 v34 v35 v1_0 v1_1 v1_2 => K .nrm (f64s14 v3 v4 v5 v7 v16 v34 v35 v1_0 v1_1 v1_2)) :=
  viaSeq (fun k => impl_factors.Z59 N v3 v4 v5 v7 v16 v34 v35 v1_0 v1_1 v1_2 k) (by kernel_rfl) (by kernel_rfl) (f64t59 N v3 v4 v5 v7 v16 v34 v35 v1_0 v1_1 v1_2 (seqK (fun σ => f64i N f64c60 f64p60 σ (joinK (some f64l14) K)) (joinK (some f64l14) K))) (funext fun v3 => funext fun v4 => funext fun v5 => funext fun v7 => funext fun v16 => funext fun v34 => funext fun v35 => funext fun v159 => funext fun v160 => funext fun v1_0 => funext fun v1_1 => funext fun v1_2 => f64t60 N v3 v4 v5 v7 v16 v34 v35 v159 v160 v1_0 v1_1 v1_2 K) (by kernel_rfl) (by kernel_rfl)
noncomputable def f64c64 := codeAt (bodyOf Try.f64) [1,1,1,0,1,0,0,1,1,0,0,1,1,1,1,1,1,1,0]
theorem f64t64 {ρ : Type} (N : Nat) (v3 v4 : List Int) (v5 v7 : List Int) (v16 v34 : Int) (v35 v1_0 v1_1 : Int) (v1_2 : List Int) (K : KT ρ) : f64i N f64c64 .n (f64s14 v3 v4 v5 v7 v16 v34 v35 v1_0 v1_1 v1_2) (joinK (some f64l16) K) =
  impl_factors.Z64 N v3 v4 v5 v7 v16 v34 v35 v1_0 v1_1 v1_2 (fun v3 v4 v5 v7 v16 v19 v34 v35 v1_0 v1_1 v1_2 => K .nrm (f64s16 v3 v4 v5 v7 v16 v19 v34 v35 v1_0 v1_1 v1_2)) := by kernel_rfl
noncomputable def f64c67 := codeAt (bodyOf Try.f64) [1,1,1,0,1,0,0,1,1,0,0,1,1,1,1,1,1,1,1,0,0]
theorem f64t67 {ρ : Type} (N : Nat) (v3 v4 : List Int) (v5 v7 : List Int) (v16 v19 : Int) (v34 v35 : Int) (v1_0 v1_1 : Int) (v1_2 : List Int) (K : KT ρ) : f64i N f64c67 .n (f64s16 v3 v4 v5 v7 v16 v19 v34 v35 v1_0 v1_1 v1_2) (joinK (some f64l17) K) =
  impl_factors.Z67 N v3 v4 v5 v7 v16 v19 v34 v35 v1_0 v1_1 v1_2 (fun v3 v4 v5 v7 v16 v19 v34 v35 v179 v180 v1_0 v1_1 v1_2 => K .nrm (f64s17 v3 v4 v5 v7 v16 v19 v34 v35 v179 v180 v1_0 v1_1 v1_2)) := by kernel_rfl
noncomputable def f64c70 := codeAt (bodyOf Try.f64) [1,1,1,0,1,0,0,1,1,0,0,1,1,1,1,1,1,1,1,0,1,0,0]
theorem f64t70 {ρ : Type} (N : Nat) (v3 v4 : List Int) (v5 v7 : List Int) (v16 v19 : Int) (v34 v35 : Int) (v179 v180 : Int) (v1_0 v1_1 : Int) (v1_2 : List Int) (K : KT ρ) : f64i N f64c70 .n (f64s17 v3 v4 v5 v7 v16 v19 v34 v35 v179 v180 v1_0 v1_1 v1_2) (joinK (some f64l17) K) =
  impl_factors.Z70 N v3 v4 v5 v7 v16 v19 v34 v35 v179 v180 v1_0 v1_1 v1_2 (fun v3 v4 v5 v7 v16 v19 v34 v35 v179 v180 v1_0 v1_1 v1_2 => K .nrm (f64s17 v3 v4 v5 v7 v16 v19 v34 v35 v179 v180 v1_0 v1_1 v1_2)) (fun v3 v4 v5 v7 v19 v34 v35 v1_0 v1_1 v1_2 => K (.exit 8) (f64s18 v3 v4 v5 v7 v19 v34 v35 v1_0 v1_1 v1_2)) := by kernel_rfl
noncomputable def f64c69 := codeAt (bodyOf Try.f64) [1,1,1,0,1,0,0,1,1,0,0,1,1,1,1,1,1,1,1,0,1,0]
noncomputable def f64p69 : Plan := .mk none (some f64l17) .n .n
noncomputable abbrev f64w69 {ρ : Type} (N M : Nat) (σ : St) (K : KT ρ) : Option ρ := loopC (fun σ K => f64i N f64c70 .n σ K) f64l17 M σ K
theorem f64t69L {ρ : Type} (N : Nat) (K : KT ρ) : ∀ (M : Nat) (v3 v4 : List Int) (v5 v7 : List Int) (v16 v19 : Int) (v34 v35 : Int) (v179 v180 : Int) (v1_0 v1_1 : Int) (v1_2 : List Int), f64w69 N M (f64s17 v3 v4 v5 v7 v16 v19 v34 v35 v179 v180 v1_0 v1_1 v1_2) K =
  impl_factors.Z69L N (fun v3 v4 v5 v7 v19 v34 v35 v1_0 v1_1 v1_2 => K (.exit 8) (f64s18 v3 v4 v5 v7 v19 v34 v35 v1_0 v1_1 v1_2)) M v3 v4 v5 v7 v16 v19 v34 v35 v179 v180 v1_0 v1_1 v1_2
  | 0, _, _, _, _, _, _, _, _, _, _, _, _, _ => rfl
  | M + 1, v3, v4, v5, v7, v16, v19, v34, v35, v179, v180, v1_0, v1_1, v1_2 => viaRound (fun k => impl_factors.Z70 N v3 v4 v5 v7 v16 v19 v34 v35 v179 v180 v1_0 v1_1 v1_2 k (fun v3 v4 v5 v7 v19 v34 v35 v1_0 v1_1 v1_2 => K (.exit 8) (f64s18 v3 v4 v5 v7 v19 v34 v35 v1_0 v1_1 v1_2))) (f64t70 N v3 v4 v5 v7 v16 v19 v34 v35 v179 v180 v1_0 v1_1 v1_2 (seqK (fun σ => f64w69 N M σ K) K)) (funext fun v3 => funext fun v4 => funext fun v5 => funext fun v7 => funext fun v16 => funext fun v19 => funext fun v34 => funext fun v35 => funext fun v179 => funext fun v180 => funext fun v1_0 => funext fun v1_1 => funext fun v1_2 => f64t69L N K M v3 v4 v5 v7 v16 v19 v34 v35 v179 v180 v1_0 v1_1 v1_2) (by kernel_rfl) (by kernel_rfl)
theorem f64t69 {ρ : Type} (N : Nat) (v3 v4 : List Int) (v5 v7 : List Int) (v16 v19 : Int) (v34 v35 : Int) (v179 v180 : Int) (v1_0 v1_1 : Int) (v1_2 : List Int) (K : KT ρ) : f64i N f64c69 f64p69 (f64s17 v3 v4 v5 v7 v16 v19 v34 v35 v179 v180 v1_0 v1_1 v1_2) (joinK (some f64l18) K) =
  impl_factors.Z69 N v3 v4 v5 v7 v16 v19 v34 v35 v179 v180 v1_0 v1_1 v1_2 (fun v3 v4 v5 v7 v19 v34 v35 v1_0 v1_1 v1_2 => K (.exit 8) (f64s18 v3 v4 v5 v7 v19 v34 v35 v1_0 v1_1 v1_2)) :=
  viaLoop (by kernel_rfl) (by kernel_rfl) (σ' := f64s17 v3 v4 v5 v7 v16 v19 v34 v35 v179 v180 v1_0 v1_1 v1_2) (by kernel_rfl) (f64t69L N (joinK (some f64l18) K) N v3 v4 v5 v7 v16 v19 v34 v35 v179 v180 v1_0 v1_1 v1_2) (by kernel_rfl)
noncomputable def f64c68 := codeAt (bodyOf Try.f64) [1,1,1,0,1,0,0,1,1,0,0,1,1,1,1,1,1,1,1,0,1]
noncomputable def f64p68 : Plan := .mk (some f64l18) none f64p69 .n
theorem f64t68 {ρ : Type} (N : Nat) (v3 v4 : List Int) (v5 v7 : List Int) (v16 v19 : Int) (v34 v35 : Int) (v179 v180 : Int) (v1_0 v1_1 : Int) (v1_2 : List Int) (K : KT ρ) : f64i N f64c68 f64p68 (f64s17 v3 v4 v5 v7 v16 v19 v34 v35 v179 v180 v1_0 v1_1 v1_2) (joinK (some f64l18) K) =
  impl_factors.Z68 N v3 v4 v5 v7 v16 v19 v34 v35 v179 v180 v1_0 v1_1 v1_2 (fun v3 v4 v5 v7 v19 v34 v35 v1_0 v1_1 v1_2 => K .nrm (f64s18 v3 v4 v5 v7 v19 v34 v35 v1_0 v1_1 v1_2)) :=
  viaBlock (by kernel_rfl) (by kernel_rfl) (f64t69 N v3 v4 v5 v7 v16 v19 v34 v35 v179 v180 v1_0 v1_1 v1_2 (blockK 8 (joinK (some f64l18) K))) (by kernel_rfl)
noncomputable def f64c66 := codeAt (bodyOf Try.f64) [1,1,1,0,1,0,0,1,1,0,0,1,1,1,1,1,1,1,1,0]
noncomputable def f64p66 : Plan := .mk (some f64l17) none .n f64p68
theorem f64t66 {ρ : Type} (N : Nat) (v3 v4 : List Int) (v5 v7 : List Int) (v16 v19 : Int) (v34 v35 : Int) (v1_0 v1_1 : Int) (v1_2 : List Int) (K : KT ρ) : f64i N f64c66 f64p66 (f64s16 v3 v4 v5 v7 v16 v19 v34 v35 v1_0 v1_1 v1_2) (joinK (some f64l18) K) =
  impl_factors.Z66 N v3 v4 v5 v7 v16 v19 v34 v35 v1_0 v1_1 v1_2 (fun v3 v4 v5 v7 v19 v34 v35 v1_0 v1_1 v1_2 => K .nrm (f64s18 v3 v4 v5 v7 v19 v34 v35 v1_0 v1_1 v1_2)) :=
  viaSeq (fun k => impl_factors.Z67 N v3 v4 v5 v7 v16 v19 v34 v35 v1_0 v1_1 v1_2 k) (by kernel_rfl) (by kernel_rfl) (f64t67 N v3 v4 v5 v7 v16 v19 v34 v35 v1_0 v1_1 v1_2 (seqK (fun σ => f64i N f64c68 f64p68 σ (joinK (some f64l18) K)) (joinK (some f64l18) K))) (funext fun v3 => funext fun v4 => funext fun v5 => funext fun v7 => funext fun v16 => funext fun v19 => funext fun v34 => funext fun v35 => funext fun v179 => funext fun v180 => funext fun v1_0 => funext fun v1_1 => funext fun v1_2 => f64t68 N v3 v4 v5 v7 v16 v19 v34 v35 v179 v180 v1_0 v1_1 v1_2 K) (by kernel_rfl) (by kernel_rfl)
noncomputable def f64c72 := codeAt (bodyOf Try.f64) [1,1,1,0,1,0,0,1,1,0,0,1,1,1,1,1,1,1,1,1,0]
theorem f64t72 {ρ : Type} (N : Nat) (v3 v4 : List Int) (v5 v7 : List Int) (v19 v34 : Int) (v35 v1_0 v1_1 : Int) (v1_2 : List Int) (K : KT ρ) : f64i N f64c72 .n (f64s18 v3 v4 v5 v7 v19 v34 v35 v1_0 v1_1 v1_2) (joinK (some f64l19) K) =
  impl_factors.Z72 N v3 v4 v5 v7 v19 v34 v35 v1_0 v1_1 v1_2 (fun v3 v4 v5 v205 v19 v34 v35 v206 v207 v1_0 v1_1 v1_2 => K .nrm (f64s19 v3 v4 v5 v205 v19 v34 v35 v206 v207 v1_0 v1_1 v1_2)) := by kernel_rfl
noncomputable def f64c75 := codeAt (bodyOf Try.f64) [1,1,1,0,1,0,0,1,1,0,0,1,1,1,1,1,1,1,1,1,1,0,0]
theorem f64t75 {ρ : Type} (N : Nat) (v3 v4 : List Int) (v5 v205 : List Int) (v19 v34 : Int) (v35 v206 : Int) (v207 v1_0 v1_1 : Int) (v1_2 : List Int) (K : KT ρ) : f64i N f64c75 .n (f64s19 v3 v4 v5 v205 v19 v34 v35 v206 v207 v1_0 v1_1 v1_2) (joinK (some f64l19) K) =
  impl_factors.Z75 N v3 v4 v5 v205 v19 v34 v35 v206 v207 v1_0 v1_1 v1_2 (fun v3 v4 v5 v205 v19 v34 v35 v206 v207 v1_0 v1_1 v1_2 => K .nrm (f64s19 v3 v4 v5 v205 v19 v34 v35 v206 v207 v1_0 v1_1 v1_2)) (fun v3 v4 v5 v34 v35 v1_0 v1_1 v1_2 => K (.exit 10) (f64s4 v3 v4 v5 v34 v35 v1_0 v1_1 v1_2)) := by kernel_rfl
noncomputable def f64c74 := codeAt (bodyOf Try.f64) [1,1,1,0,1,0,0,1,1,0,0,1,1,1,1,1,1,1,1,1,1,0]
noncomputable def f64p74 : Plan := .mk none (some f64l19) .n .n
noncomputable abbrev f64w74 {ρ : Type} (N M : Nat) (σ : St) (K : KT ρ) : Option ρ := loopC (fun σ K => f64i N f64c75 .n σ K) f64l19 M σ K
theorem f64t74L {ρ : Type} (N : Nat) (K : KT ρ) : ∀ (M : Nat) (v3 v4 : List Int) (v5 v205 : List Int) (v19 v34 : Int) (v35 v206 : Int) (v207 v1_0 v1_1 : Int) (v1_2 : List Int), f64w74 N M (f64s19 v3 v4 v5 v205 v19 v34 v35 v206 v207 v1_0 v1_1 v1_2) K =
  impl_factors.Z74L N (fun v3 v4 v5 v34 v35 v1_0 v1_1 v1_2 => K (.exit 10) (f64s4 v3 v4 v5 v34 v35 v1_0 v1_1 v1_2)) M v3 v4 v5 v205 v19 v34 v35 v206 v207 v1_0 v1_1 v1_2
  | 0, _, _, _, _, _, _, _, _, _, _, _, _ => rfl
  | M + 1, v3, v4, v5, v205, v19, v34, v35, v206, v207, v1_0, v1_1, v1_2 => viaRound (fun k => impl_factors.Z75 N v3 v4 v5 v205 v19 v34 v35 v206 v207 v1_0 v1_1 v1_2 k (fun v3 v4 v5 v34 v35 v1_0 v1_1 v1_2 => K (.exit 10) (f64s4 v3 v4 v5 v34 v35 v1_0 v1_1 v1_2))) (f64t75 N v3 v4 v5 v205 v19 v34 v35 v206 v207 v1_0 v1_1 v1_2 (seqK (fun σ => f64w74 N M σ K) K)) (funext fun v3 => funext fun v4 => funext fun v5 => funext fun v205 => funext fun v19 => funext fun v34 => funext fun v35 => funext fun v206 => funext fun v207 => funext fun v1_0 => funext fun v1_1 => funext fun v1_2 => f64t74L N K M v3 v4 v5 v205 v19 v34 v35 v206 v207 v1_0 v1_1 v1_2) (by kernel_rfl) (by kernel_rfl)
theorem f64t74 {ρ : Type} (N : Nat) (v3 v4 : List Int) (v5 v205 : List Int) (v19 v34 : Int) (v35 v206 : Int) (v207 v1_0 v1_1 : Int) (v1_2 : List Int) (K : KT ρ) : f64i N f64c74 f64p74 (f64s19 v3 v4 v5 v205 v19 v34 v35 v206 v207 v1_0 v1_1 v1_2) (joinK (some f64l4) K) =
  impl_factors.Z74 N v3 v4 v5 v205 v19 v34 v35 v206 v207 v1_0 v1_1 v1_2 (fun v3 v4 v5 v34 v35 v1_0 v1_1 v1_2 => K (.exit 10) (f64s4 v3 v4 v5 v34 v35 v1_0 v1_1 v1_2)) :=
  viaLoop (by kernel_rfl) (by kernel_rfl) (σ' := f64s19 v3 v4 v5 v205 v19 v34 v35 v206 v207 v1_0 v1_1 v1_2) (by kernel_rfl) (f64t74L N (joinK (some f64l4) K) N v3 v4 v5 v205 v19 v34 v35 v206 v207 v1_0 v1_1 v1_2) (by kernel_rfl)
noncomputable def f64c73 := codeAt (bodyOf Try.f64) [1,1,1,0,1,0,0,1,1,0,0,1,1,1,1,1,1,1,1,1,1]
noncomputable def f64p73 : Plan := .mk (some f64l4) none f64p74 .n
theorem f64t73 {ρ : Type} (N : Nat) (v3 v4 : List Int) (v5 v205 : List Int) (v19 v34 : Int) (v35 v206 : Int) (v207 v1_0 v1_1 : Int) (v1_2 : List Int) (K : KT ρ) : f64i N f64c73 f64p73 (f64s19 v3 v4 v5 v205 v19 v34 v35 v206 v207 v1_0 v1_1 v1_2) (joinK (some f64l4) K) =
  impl_factors.Z73 N v3 v4 v5 v205 v19 v34 v35 v206 v207 v1_0 v1_1 v1_2 (fun v3 v4 v5 v34 v35 v1_0 v1_1 v1_2 => K .nrm (f64s4 v3 v4 v5 v34 v35 v1_0 v1_1 v1_2)) :=
  viaBlock (by kernel_rfl) (by kernel_rfl) (f64t74 N v3 v4 v5 v205 v19 v34 v35 v206 v207 v1_0 v1_1 v1_2 (blockK 10 (joinK (some f64l4) K))) (by kernel_rfl)
noncomputable def f64c71 := codeAt (bodyOf Try.f64) [1,1,1,0,1,0,0,1,1,0,0,1,1,1,1,1,1,1,1,1]
noncomputable def f64p71 : Plan := .mk (some f64l19) none .n f64p73
theorem f64t71 {ρ : Type} (N : Nat) (v3 v4 : List Int) (v5 v7 : List Int) (v19 v34 : Int) (v35 v1_0 v1_1 : Int) (v1_2 : List Int) (K : KT ρ) : f64i N f64c71 f64p71 (f64s18 v3 v4 v5 v7 v19 v34 v35 v1_0 v1_1 v1_2) (joinK (some f64l4) K) =
  impl_factors.Z71 N v3 v4 v5 v7 v19 v34 v35 v1_0 v1_1 v1_2 (fun v3 v4 v5 v34 v35 v1_0 v1_1 v1_2 => K .nrm (f64s4 v3 v4 v5 v34 v35 v1_0 v1_1 v1_2)) :=
  viaSeq (fun k => impl_factors.Z72 N v3 v4 v5 v7 v19 v34 v35 v1_0 v1_1 v1_2 k) (by kernel_rfl) (by kernel_rfl) (f64t72 N v3 v4 v5 v7 v19 v34 v35 v1_0 v1_1 v1_2 (seqK (fun σ => f64i N f64c73 f64p73 σ (joinK (some f64l4) K)) (joinK (some f64l4) K))) (funext fun v3 => funext fun v4 => funext fun v5 => funext fun v205 => funext fun v19 => funext fun v34 => funext fun v35 => funext fun v206 => funext fun v207 => funext fun v1_0 => funext fun v1_1 => funext fun v1_2 => f64t73 N v3 v4 v5 v205 v19 v34 v35 v206 v207 v1_0 v1_1 v1_2 K) (by kernel_rfl) (by kernel_rfl)
noncomputable def f64c65 := codeAt (bodyOf Try.f64) [1,1,1,0,1,0,0,1,1,0,0,1,1,1,1,1,1,1,1]
noncomputable def f64p65 : Plan := .mk (some f64l18) none f64p66 f64p71
theorem f64t65 {ρ : Type} (N : Nat) (v3 v4 : List Int) (v5 v7 : List Int) (v16 v19 : Int) (v34 v35 : Int) (v1_0 v1_1 : Int) (v1_2 : List Int) (K : KT ρ) : f64i N f64c65 f64p65 (f64s16 v3 v4 v5 v7 v16 v19 v34 v35 v1_0 v1_1 v1_2) (joinK (some f64l4) K) =
  impl_factors.Z65 N v3 v4 v5 v7 v16 v19 v34 v35 v1_0 v1_1 v1_2 (fun v3 v4 v5 v34 v35 v1_0 v1_1 v1_2 => K .nrm (f64s4 v3 v4 v5 v34 v35 v1_0 v1_1 v1_2)) :=
  viaSeq (fun k => impl_factors.Z66 N v3 v4 v5 v7 v16 v19 v34 v35 v1_0 v1_1 v1_2 k) (by kernel_rfl) (by kernel_rfl) (f64t66 N v3 v4 v5 v7 v16 v19 v34 v35 v1_0 v1_1 v1_2 (seqK (fun σ => f64i N f64c71 f64p71 σ (joinK (some f64l4) K)) (joinK (some f64l4) K))) (funext fun v3 => funext fun v4 => funext fun v5 => funext fun v7 => funext fun v19 => funext fun v34 => funext fun v35 => funext fun v1_0 => funext fun v1_1 => funext fun v1_2 => f64t71 N v3 v4 v5 v7 v19 v34 v35 v1_0 v1_1 v1_2 K) (by kernel_rfl) (by kernel_rfl)
noncomputable def f64c63 := codeAt (bodyOf Try.f64) [1,1,1,0,1,0,0,1,1,0,0,1,1,1,1,1,1,1]
noncomputable def f64p63 : Plan := .mk (some f64l16) none .n f64p65
theorem f64t63 {ρ : Type} (N : Nat) (v3 v4 : List Int) (v5 v7 : List Int) (v16 v34 : Int) (v35 v1_0 v1_1 : Int) (v1_2 : List Int) (K : KT ρ) : f64i N f64c63 f64p63 (f64s14 v3 v4 v5 v7 v16 v34 v35 v1_0 v1_1 v1_2) (joinK (some f64l4) K) =
  impl_factors.Z63 N v3 v4 v5 v7 v16 v34 v35 v1_0 v1_1 v1_2 (fun v3 v4 v5 v34 v35 v1_0 v1_1 v1_2 => K .nrm (f64s4 v3 v4 v5 v34 v35 v1_0 v1_1 v1_2)) :=
  viaSeq (fun k => impl_factors.Z64 N v3 v4 v5 v7 v16 v34 v35 v1_0 v1_1 v1_2 k) (by kernel_rfl) (by kernel_rfl) (f64t64 N v3 v4 v5 v7 v16 v34 v35 v1_0 v1_1 v1_2 (seqK (fun σ => f64i N f64c65 f64p65 σ (joinK (some f64l4) K)) (joinK (some f64l4) K))) (funext fun v3 => funext fun v4 => funext fun v5 => funext fun v7 => funext fun v16 => funext fun v19 => funext fun v34 => funext fun v35 => funext fun v1_0 => funext fun v1_1 => funext fun v1_2 => f64t65 N v3 v4 v5 v7 v16 v19 v34 v35 v1_0 v1_1 v1_2 K) (by kernel_rfl) (by kernel_rfl)
noncomputable def f64c57 := codeAt (bodyOf Try.f64) [1,1,1,0,1,0,0,1,1,0,0,1,1,1,1,1,1]
noncomputable def f64p57 : Plan := .mk (some f64l14) none f64p58 f64p63
theorem f64t57 {ρ : Type} (N : Nat) (v3 v4 : List Int) (v5 v7 : List Int) (v16 v34 : Int) (v35 v1_0 v1_1 : Int) (v1_2 : List Int) (K : KT ρ) : f64i N f64c57 f64p57 (f64s14 v3 v4 v5 v7 v16 v34 v35 v1_0 v1_1 v1_2) (joinK (some f64l4) K) =
  impl_factors.Z57 N v3 v4 v5 v7 v16 v34 v35 v1_0 v1_1 v1_2 (fun v3 v4 v5 v34 v35 v1_0 v1_1 v1_2 => K .nrm (f64s4 v3 v4 v5 v34 v35 v1_0 v1_1 v1_2)) :=
  viaSeq (fun k => impl_factors.Z58 N v3 v4 v5 v7 v16 v34 v35 v1_0 v1_1 v1_2 k) (by kernel_rfl) (by kernel_rfl) (f64t58 N v3 v4 v5 v7 v16 v34 v35 v1_0 v1_1 v1_2 (seqK (fun σ => f64i N f64c63 f64p63 σ (joinK (some f64l4) K)) (joinK (some f64l4) K))) (funext fun v3 => funext fun v4 => funext fun v5 => funext fun v7 => funext fun v16 => funext fun v34 => funext fun v35 => funext fun v1_0 => funext fun v1_1 => funext fun v1_2 => f64t63 N v3 v4 v5 v7 v16 v34 v35 v1_0 v1_1 v1_2 K) (by kernel_rfl) (by kernel_rfl)
noncomputable def f64c55 := codeAt (bodyOf Try.f64) [1,1,1,0,1,0,0,1,1,0,0,1,1,1,1,1]
noncomputable def f64p55 : Plan := .mk (some f64l14) none .n f64p57
theorem f64t55 {ρ : Type} (N : Nat) (v3 v4 : List Int) (v5 v7 : List Int) (v34 v35 : Int) (v1_0 v1_1 : Int) (v1_2 : List Int) (K : KT ρ) : f64i N f64c55 f64p55 (f64s7 v3 v4 v5 v7 v34 v35 v1_0 v1_1 v1_2) (joinK (some f64l4) K) =
  impl_factors.Z55 N v3 v4 v5 v7 v34 v35 v1_0 v1_1 v1_2 (fun v3 v4 v5 v34 v35 v1_0 v1_1 v1_2 => K .nrm (f64s4 v3 v4 v5 v34 v35 v1_0 v1_1 v1_2)) :=
  viaSeq (fun k => impl_factors.Z56 N v3 v4 v5 v7 v34 v35 v1_0 v1_1 v1_2 k) (by kernel_rfl) (by kernel_rfl) (f64t56 N v3 v4 v5 v7 v34 v35 v1_0 v1_1 v1_2 (seqK (fun σ => f64i N f64c57 f64p57 σ (joinK (some f64l4) K)) (joinK (some f64l4) K))) (funext fun v3 => funext fun v4 => funext fun v5 => funext fun v7 => funext fun v16 => funext fun v34 => funext fun v35 => funext fun v1_0 => funext fun v1_1 => funext fun v1_2 => f64t57 N v3 v4 v5 v7 v16 v34 v35 v1_0 v1_1 v1_2 K) (by kernel_rfl) (by kernel_rfl)
noncomputable def f64c25 := codeAt (bodyOf Try.f64) [1,1,1,0,1,0,0,1,1,0,0,1,1,1,1]
noncomputable def f64p25 : Plan := .mk (some f64l7) none f64p26 f64p55
theorem f64t25 {ρ : Type} (N : Nat) (v3 v4 : List Int) (v5 v7 : List Int) (v34 v35 : Int) (v1_0 v1_1 : Int) (v1_2 : List Int) (K : KT ρ) : f64i N f64c25 f64p25 (f64s7 v3 v4 v5 v7 v34 v35 v1_0 v1_1 v1_2) (joinK (some f64l4) K) =
  impl_factors.Z25 N v3 v4 v5 v7 v34 v35 v1_0 v1_1 v1_2 (fun v3 v4 v5 v34 v35 v1_0 v1_1 v1_2 => K .nrm (f64s4 v3 v4 v5 v34 v35 v1_0 v1_1 v1_2)) (fun v2 => K .ret (f64s21 v2)) :=
  viaSeq (fun k => impl_factors.Z26 N v3 v4 v5 v7 v34 v35 v1_0 v1_1 v1_2 k (fun v2 => K .ret (f64s21 v2))) (by kernel_rfl) (by kernel_rfl) (f64t26 N v3 v4 v5 v7 v34 v35 v1_0 v1_1 v1_2 (seqK (fun σ => f64i N f64c55 f64p55 σ (joinK (some f64l4) K)) (joinK (some f64l4) K))) (funext fun v3 => funext fun v4 => funext fun v5 => funext fun v7 => funext fun v34 => funext fun v35 => funext fun v1_0 => funext fun v1_1 => funext fun v1_2 => f64t55 N v3 v4 v5 v7 v34 v35 v1_0 v1_1 v1_2 K) (by kernel_rfl) (by kernel_rfl)
noncomputable def f64c23 := codeAt (bodyOf Try.f64) [1,1,1,0,1,0,0,1,1,0,0,1,1,1]
noncomputable def f64p23 : Plan := .mk (some f64l7) none .n f64p25
theorem f64t23 {ρ : Type} (N : Nat) (v3 v4 v5 : List Int) (v6 v34 : Int) (v35 v1_0 v1_1 : Int) (v1_2 : List Int) (K : KT ρ) : f64i N f64c23 f64p23 (f64s6 v3 v4 v5 v6 v34 v35 v1_0 v1_1 v1_2) (joinK (some f64l4) K) =
  impl_factors.Z23 N v3 v4 v5 v6 v34 v35 v1_0 v1_1 v1_2 (fun v3 v4 v5 v34 v35 v1_0 v1_1 v1_2 => K .nrm (f64s4 v3 v4 v5 v34 v35 v1_0 v1_1 v1_2)) (fun v2 => K .ret (f64s21 v2)) :=
  viaSeq (fun k => impl_factors.Z24 N v3 v4 v5 v6 v34 v35 v1_0 v1_1 v1_2 k) (by kernel_rfl) (by kernel_rfl) (f64t24 N v3 v4 v5 v6 v34 v35 v1_0 v1_1 v1_2 (seqK (fun σ => f64i N f64c25 f64p25 σ (joinK (some f64l4) K)) (joinK (some f64l4) K))) (funext fun v3 => funext fun v4 => funext fun v5 => funext fun v7 => funext fun v34 => funext fun v35 => funext fun v1_0 => funext fun v1_1 => funext fun v1_2 => f64t25 N v3 v4 v5 v7 v34 v35 v1_0 v1_1 v1_2 K) (by kernel_rfl) (by kernel_rfl)
noncomputable def f64c21 := codeAt (bodyOf Try.f64) [1,1,1,0,1,0,0,1,1,0,0,1,1]
noncomputable def f64p21 : Plan := .mk (some f64l6) none .n f64p23
theorem f64t21 {ρ : Type} (N : Nat) (v3 v4 v5 : List Int) (v6 v34 : Int) (v35 v1_0 v1_1 : Int) (v1_2 : List Int) (K : KT ρ) : f64i N f64c21 f64p21 (f64s6 v3 v4 v5 v6 v34 v35 v1_0 v1_1 v1_2) (joinK (some f64l4) K) =
  impl_factors.Z21 N v3 v4 v5 v6 v34 v35 v1_0 v1_1 v1_2 (fun v3 v4 v5 v34 v35 v1_0 v1_1 v1_2 => K .nrm (f64s4 v3 v4 v5 v34 v35 v1_0 v1_1 v1_2)) (fun v2 => K .ret (f64s21 v2)) :=
  viaSeq (fun k => impl_factors.Z22 N v3 v4 v5 v6 v34 v35 v1_0 v1_1 v1_2 k) (by kernel_rfl) (by kernel_rfl) (f64t22 N v3 v4 v5 v6 v34 v35 v1_0 v1_1 v1_2 (seqK (fun σ => f64i N f64c23 f64p23 σ (joinK (some f64l4) K)) (joinK (some f64l4) K))) (funext fun v3 => funext fun v4 => funext fun v5 => funext fun v6 => funext fun v34 => funext fun v35 => funext fun v1_0 => funext fun v1_1 => funext fun v1_2 => f64t23 N v3 v4 v5 v6 v34 v35 v1_0 v1_1 v1_2 K) (by kernel_rfl) (by kernel_rfl)
noncomputable def f64c19 := codeAt (bodyOf Try.f64) [1,1,1,0,1,0,0,1,1,0,0,1]
noncomputable def f64p19 : Plan := .mk (some f64l6) none .n f64p21
theorem f64t19 {ρ : Type} (N : Nat) (v3 v4 v5 : List Int) (v6 v34 : Int) (v35 v1_0 v1_1 : Int) (v1_2 : List Int) (K : KT ρ) : f64i N f64c19 f64p19 (f64s6 v3 v4 v5 v6 v34 v35 v1_0 v1_1 v1_2) (joinK (some f64l4) K) =
  impl_factors.Z19 N v3 v4 v5 v6 v34 v35 v1_0 v1_1 v1_2 (fun v3 v4 v5 v34 v35 v1_0 v1_1 v1_2 => K .nrm (f64s4 v3 v4 v5 v34 v35 v1_0 v1_1 v1_2)) (fun v3 v4 v5 v34 v35 v1_0 v1_1 v1_2 => K (.exit 1) (f64s4 v3 v4 v5 v34 v35 v1_0 v1_1 v1_2)) (fun v2 => K .ret (f64s21 v2)) :=
  viaSeq (fun k => impl_factors.Z20 N v3 v4 v5 v6 v34 v35 v1_0 v1_1 v1_2 k (fun v3 v4 v5 v34 v35 v1_0 v1_1 v1_2 => K (.exit 1) (f64s4 v3 v4 v5 v34 v35 v1_0 v1_1 v1_2))) (by kernel_rfl) (by kernel_rfl) (f64t20 N v3 v4 v5 v6 v34 v35 v1_0 v1_1 v1_2 (seqK (fun σ => f64i N f64c21 f64p21 σ (joinK (some f64l4) K)) (joinK (some f64l4) K))) (funext fun v3 => funext fun v4 => funext fun v5 => funext fun v6 => funext fun v34 => funext fun v35 => funext fun v1_0 => funext fun v1_1 => funext fun v1_2 => f64t21 N v3 v4 v5 v6 v34 v35 v1_0 v1_1 v1_2 K) (by kernel_rfl) (by kernel_rfl)
noncomputable def f64c17 := codeAt (bodyOf Try.f64) [1,1,1,0,1,0,0,1,1,0,0]
noncomputable def f64p17 : Plan := .mk (some f64l6) none .n f64p19
theorem f64t17 {ρ : Type} (N : Nat) (v3 v4 v5 : List Int) (v34 v35 : Int) (v1_0 v1_1 : Int) (v1_2 : List Int) (K : KT ρ) : f64i N f64c17 f64p17 (f64s4 v3 v4 v5 v34 v35 v1_0 v1_1 v1_2) (joinK (some f64l4) K) =
  impl_factors.Z17 N v3 v4 v5 v34 v35 v1_0 v1_1 v1_2 (fun v3 v4 v5 v34 v35 v1_0 v1_1 v1_2 => K .nrm (f64s4 v3 v4 v5 v34 v35 v1_0 v1_1 v1_2)) (fun v3 v4 v5 v34 v35 v1_0 v1_1 v1_2 => K (.exit 1) (f64s4 v3 v4 v5 v34 v35 v1_0 v1_1 v1_2)) (fun v2 => K .ret (f64s21 v2)) :=
  viaSeq (fun k => impl_factors.Z18 N v3 v4 v5 v34 v35 v1_0 v1_1 v1_2 k) (by kernel_rfl) (by kernel_rfl) (f64t18 N v3 v4 v5 v34 v35 v1_0 v1_1 v1_2 (seqK (fun σ => f64i N f64c19 f64p19 σ (joinK (some f64l4) K)) (joinK (some f64l4) K))) (funext fun v3 => funext fun v4 => funext fun v5 => funext fun v6 => funext fun v34 => funext fun v35 => funext fun v1_0 => funext fun v1_1 => funext fun v1_2 => f64t19 N v3 v4 v5 v6 v34 v35 v1_0 v1_1 v1_2 K) (by kernel_rfl) (by kernel_rfl)
noncomputable def f64c16 := codeAt (bodyOf Try.f64) [1,1,1,0,1,0,0,1,1,0]
noncomputable def f64p16 : Plan := .mk (some f64l4) none f64p17 .n
theorem f64t16 {ρ : Type} (N : Nat) (v3 v4 v5 : List Int) (v34 v35 : Int) (v1_0 v1_1 : Int) (v1_2 : List Int) (K : KT ρ) : f64i N f64c16 f64p16 (f64s4 v3 v4 v5 v34 v35 v1_0 v1_1 v1_2) (joinK (some f64l4) K) =
  impl_factors.Z16 N v3 v4 v5 v34 v35 v1_0 v1_1 v1_2 (fun v3 v4 v5 v34 v35 v1_0 v1_1 v1_2 => K .nrm (f64s4 v3 v4 v5 v34 v35 v1_0 v1_1 v1_2)) (fun v2 => K .ret (f64s21 v2)) :=
  viaBlock (by kernel_rfl) (by kernel_rfl) (f64t17 N v3 v4 v5 v34 v35 v1_0 v1_1 v1_2 (blockK 1 (joinK (some f64l4) K))) (by kernel_rfl)
noncomputable def f64c76 := codeAt (bodyOf Try.f64) [1,1,1,0,1,0,0,1,1,1]
theorem f64t76 {ρ : Type} (N : Nat) (v3 v4 v5 : List Int) (v34 v35 : Int) (v1_0 v1_1 : Int) (v1_2 : List Int) (K : KT ρ) : f64i N f64c76 .n (f64s4 v3 v4 v5 v34 v35 v1_0 v1_1 v1_2) (joinK (some f64l4) K) =
  impl_factors.Z76 N v3 v4 v5 v34 v35 v1_0 v1_1 v1_2 (fun v3 v4 v5 v34 v35 v1_0 v1_1 v1_2 => K .nrm (f64s4 v3 v4 v5 v34 v35 v1_0 v1_1 v1_2)) := by kernel_rfl
noncomputable def f64c15 := codeAt (bodyOf Try.f64) [1,1,1,0,1,0,0,1,1]
noncomputable def f64p15 : Plan := .mk (some f64l4) none f64p16 .n
theorem f64t15 {ρ : Type} (N : Nat) (v3 v4 v5 : List Int) (v34 v35 : Int) (v1_0 v1_1 : Int) (v1_2 : List Int) (K : KT ρ) : f64i N f64c15 f64p15 (f64s4 v3 v4 v5 v34 v35 v1_0 v1_1 v1_2) (joinK (some f64l4) K) =
  impl_factors.Z15 N v3 v4 v5 v34 v35 v1_0 v1_1 v1_2 (fun v3 v4 v5 v34 v35 v1_0 v1_1 v1_2 => K .nrm (f64s4 v3 v4 v5 v34 v35 v1_0 v1_1 v1_2)) (fun v2 => K .ret (f64s21 v2)) :=
  viaSeq (fun k => impl_factors.Z16 N v3 v4 v5 v34 v35 v1_0 v1_1 v1_2 k (fun v2 => K .ret (f64s21 v2))) (by kernel_rfl) (by kernel_rfl) (f64t16 N v3 v4 v5 v34 v35 v1_0 v1_1 v1_2 (seqK (fun σ => f64i N f64c76 .n σ (joinK (some f64l4) K)) (joinK (some f64l4) K))) (funext fun v3 => funext fun v4 => funext fun v5 => funext fun v34 => funext fun v35 => funext fun v1_0 => funext fun v1_1 => funext fun v1_2 => f64t76 N v3 v4 v5 v34 v35 v1_0 v1_1 v1_2 K) (by kernel_rfl) (by kernel_rfl)
noncomputable def f64c13 := codeAt (bodyOf Try.f64) [1,1,1,0,1,0,0,1]
noncomputable def f64p13 : Plan := .mk (some f64l4) none .n f64p15
theorem f64t13 {ρ : Type} (N : Nat) (v3 v4 v5 : List Int) (v34 v35 : Int) (v36 : Bool) (v1_0 v1_1 : Int) (v1_2 : List Int) (K : KT ρ) : f64i N f64c13 f64p13 (f64s5 v3 v4 v5 v34 v35 v36 v1_0 v1_1 v1_2) (joinK (some f64l4) K) =
  impl_factors.Z13 N v3 v4 v5 v34 v35 v36 v1_0 v1_1 v1_2 (fun v3 v4 v5 v34 v35 v1_0 v1_1 v1_2 => K .nrm (f64s4 v3 v4 v5 v34 v35 v1_0 v1_1 v1_2)) (fun v5 => K (.exit 0) (f64s20 v5)) (fun v2 => K .ret (f64s21 v2)) :=
  viaSeq (fun k => impl_factors.Z14 N v3 v4 v5 v34 v35 v36 v1_0 v1_1 v1_2 k (fun v5 => K (.exit 0) (f64s20 v5))) (by kernel_rfl) (by kernel_rfl) (f64t14 N v3 v4 v5 v34 v35 v36 v1_0 v1_1 v1_2 (seqK (fun σ => f64i N f64c15 f64p15 σ (joinK (some f64l4) K)) (joinK (some f64l4) K))) (funext fun v3 => funext fun v4 => funext fun v5 => funext fun v34 => funext fun v35 => funext fun v1_0 => funext fun v1_1 => funext fun v1_2 => f64t15 N v3 v4 v5 v34 v35 v1_0 v1_1 v1_2 K) (by kernel_rfl) (by kernel_rfl)
noncomputable def f64c11 := codeAt (bodyOf Try.f64) [1,1,1,0,1,0,0]
noncomputable def f64p11 : Plan := .mk (some f64l5) none .n f64p13
theorem f64t11 {ρ : Type} (N : Nat) (v3 v4 v5 : List Int) (v34 v35 : Int) (v1_0 v1_1 : Int) (v1_2 : List Int) (K : KT ρ) : f64i N f64c11 f64p11 (f64s4 v3 v4 v5 v34 v35 v1_0 v1_1 v1_2) (joinK (some f64l4) K) =
  impl_factors.Z11 N v3 v4 v5 v34 v35 v1_0 v1_1 v1_2 (fun v3 v4 v5 v34 v35 v1_0 v1_1 v1_2 => K .nrm (f64s4 v3 v4 v5 v34 v35 v1_0 v1_1 v1_2)) (fun v5 => K (.exit 0) (f64s20 v5)) (fun v2 => K .ret (f64s21 v2)) :=
  viaSeq (fun k => impl_factors.Z12 N v3 v4 v5 v34 v35 v1_0 v1_1 v1_2 k) (by kernel_rfl) (by kernel_rfl) (f64t12 N v3 v4 v5 v34 v35 v1_0 v1_1 v1_2 (seqK (fun σ => f64i N f64c13 f64p13 σ (joinK (some f64l4) K)) (joinK (some f64l4) K))) (funext fun v3 => funext fun v4 => funext fun v5 => funext fun v34 => funext fun v35 => funext fun v36 => funext fun v1_0 => funext fun v1_1 => funext fun v1_2 => f64t13 N v3 v4 v5 v34 v35 v36 v1_0 v1_1 v1_2 K) (by kernel_rfl) (by kernel_rfl)
noncomputable def f64c10 := codeAt (bodyOf Try.f64) [1,1,1,0,1,0]
noncomputable def f64p10 : Plan := .mk none (some f64l4) f64p11 .n
noncomputable abbrev f64w10 {ρ : Type} (N M : Nat) (σ : St) (K : KT ρ) : Option ρ := loopC (fun σ K => f64i N f64c11 f64p11 σ K) f64l4 M σ K
theorem f64t10L {ρ : Type} (N : Nat) (K : KT ρ) : ∀ (M : Nat) (v3 v4 v5 : List Int) (v34 v35 : Int) (v1_0 v1_1 : Int) (v1_2 : List Int), f64w10 N M (f64s4 v3 v4 v5 v34 v35 v1_0 v1_1 v1_2) K =
  impl_factors.Z10L N (fun v5 => K (.exit 0) (f64s20 v5)) (fun v2 => K .ret (f64s21 v2)) M v3 v4 v5 v34 v35 v1_0 v1_1 v1_2
  | 0, _, _, _, _, _, _, _, _ => rfl
  | M + 1, v3, v4, v5, v34, v35, v1_0, v1_1, v1_2 => viaRound (fun k => impl_factors.Z11 N v3 v4 v5 v34 v35 v1_0 v1_1 v1_2 k (fun v5 => K (.exit 0) (f64s20 v5)) (fun v2 => K .ret (f64s21 v2))) (f64t11 N v3 v4 v5 v34 v35 v1_0 v1_1 v1_2 (seqK (fun σ => f64w10 N M σ K) K)) (funext fun v3 => funext fun v4 => funext fun v5 => funext fun v34 => funext fun v35 => funext fun v1_0 => funext fun v1_1 => funext fun v1_2 => f64t10L N K M v3 v4 v5 v34 v35 v1_0 v1_1 v1_2) (by kernel_rfl) (by kernel_rfl)
theorem f64t10 {ρ : Type} (N : Nat) (v3 v4 v5 : List Int) (v34 v35 : Int) (v1_0 v1_1 : Int) (v1_2 : List Int) (K : KT ρ) : f64i N f64c10 f64p10 (f64s4 v3 v4 v5 v34 v35 v1_0 v1_1 v1_2) (joinK (some f64l20) K) =
  impl_factors.Z10 N v3 v4 v5 v34 v35 v1_0 v1_1 v1_2 (fun v5 => K (.exit 0) (f64s20 v5)) (fun v2 => K .ret (f64s21 v2)) :=
  viaLoop (by kernel_rfl) (by kernel_rfl) (σ' := f64s4 v3 v4 v5 v34 v35 v1_0 v1_1 v1_2) (by kernel_rfl) (f64t10L N (joinK (some f64l20) K) N v3 v4 v5 v34 v35 v1_0 v1_1 v1_2) (by kernel_rfl)
noncomputable def f64c9 := codeAt (bodyOf Try.f64) [1,1,1,0,1]
noncomputable def f64p9 : Plan := .mk (some f64l20) none f64p10 .n
theorem f64t9 {ρ : Type} (N : Nat) (v3 v4 v5 : List Int) (v34 v35 : Int) (v1_0 v1_1 : Int) (v1_2 : List Int) (K : KT ρ) : f64i N f64c9 f64p9 (f64s4 v3 v4 v5 v34 v35 v1_0 v1_1 v1_2) (joinK (some f64l20) K) =
  impl_factors.Z9 N v3 v4 v5 v34 v35 v1_0 v1_1 v1_2 (fun v5 => K .nrm (f64s20 v5)) (fun v2 => K .ret (f64s21 v2)) :=
  viaBlock (by kernel_rfl) (by kernel_rfl) (f64t10 N v3 v4 v5 v34 v35 v1_0 v1_1 v1_2 (blockK 0 (joinK (some f64l20) K))) (by kernel_rfl)
noncomputable def f64c7 := codeAt (bodyOf Try.f64) [1,1,1,0]
noncomputable def f64p7 : Plan := .mk (some f64l4) none .n f64p9
theorem f64t7 {ρ : Type} (N : Nat) (v3 v4 v5 : List Int) (v1_0 v1_1 : Int) (v1_2 : List Int) (K : KT ρ) : f64i N f64c7 f64p7 (f64s3 v3 v4 v5 v1_0 v1_1 v1_2) (joinK (some f64l20) K) =
  impl_factors.Z7 N v3 v4 v5 v1_0 v1_1 v1_2 (fun v5 => K .nrm (f64s20 v5)) (fun v2 => K .ret (f64s21 v2)) :=
  viaSeq (fun k => impl_factors.Z8 N v3 v4 v5 v1_0 v1_1 v1_2 k) (by kernel_rfl) (by kernel_rfl) (f64t8 N v3 v4 v5 v1_0 v1_1 v1_2 (seqK (fun σ => f64i N f64c9 f64p9 σ (joinK (some f64l20) K)) (joinK (some f64l20) K))) (funext fun v3 => funext fun v4 => funext fun v5 => funext fun v34 => funext fun v35 => funext fun v1_0 => funext fun v1_1 => funext fun v1_2 => f64t9 N v3 v4 v5 v34 v35 v1_0 v1_1 v1_2 K) (by kernel_rfl) (by kernel_rfl)
noncomputable def f64c77 := codeAt (bodyOf Try.f64) [1,1,1,1]
theorem f64t77 {ρ : Type} (N : Nat) (v5 : List Int) (K : KT ρ) : f64i N f64c77 .n (f64s20 v5) (joinK (some f64lE) K) =
  impl_factors.Z77 N v5 (fun v2 => K .ret (f64s21 v2)) := by kernel_rfl
noncomputable def f64c6 := codeAt (bodyOf Try.f64) [1,1,1]
noncomputable def f64p6 : Plan := .mk (some f64l20) none f64p7 .n
theorem f64t6 {ρ : Type} (N : Nat) (v3 v4 v5 : List Int) (v1_0 v1_1 : Int) (v1_2 : List Int) (K : KT ρ) : f64i N f64c6 f64p6 (f64s3 v3 v4 v5 v1_0 v1_1 v1_2) (joinK (some f64lE) K) =
  impl_factors.Z6 N v3 v4 v5 v1_0 v1_1 v1_2 (fun v2 => K .ret (f64s21 v2)) :=
  viaSeq (fun k => impl_factors.Z7 N v3 v4 v5 v1_0 v1_1 v1_2 k (fun v2 => K .ret (f64s21 v2))) (by kernel_rfl) (by kernel_rfl) (f64t7 N v3 v4 v5 v1_0 v1_1 v1_2 (seqK (fun σ => f64i N f64c77 .n σ (joinK (some f64lE) K)) (joinK (some f64lE) K))) (funext fun v5 => f64t77 N v5 K) (by kernel_rfl) (by kernel_rfl)
noncomputable def f64c4 := codeAt (bodyOf Try.f64) [1,1]
noncomputable def f64p4 : Plan := .mk (some f64l3) none .n f64p6
theorem f64t4 {ρ : Type} (N : Nat) (v3 v4 : List Int) (v1_0 v1_1 : Int) (v1_2 : List Int) (K : KT ρ) : f64i N f64c4 f64p4 (f64s2 v3 v4 v1_0 v1_1 v1_2) (joinK (some f64lE) K) =
  impl_factors.Z4 N v3 v4 v1_0 v1_1 v1_2 (fun v2 => K .ret (f64s21 v2)) :=
  viaSeq (fun k => impl_factors.Z5 N v3 v4 v1_0 v1_1 v1_2 k) (by kernel_rfl) (by kernel_rfl) (f64t5 N v3 v4 v1_0 v1_1 v1_2 (seqK (fun σ => f64i N f64c6 f64p6 σ (joinK (some f64lE) K)) (joinK (some f64lE) K))) (funext fun v3 => funext fun v4 => funext fun v5 => funext fun v1_0 => funext fun v1_1 => funext fun v1_2 => f64t6 N v3 v4 v5 v1_0 v1_1 v1_2 K) (by kernel_rfl) (by kernel_rfl)
noncomputable def f64c2 := codeAt (bodyOf Try.f64) [1]
noncomputable def f64p2 : Plan := .mk (some f64l2) none .n f64p4
theorem f64t2 {ρ : Type} (N : Nat) (v1_0 v1_1 : Int) (v1_2 : List Int) (K : KT ρ) : f64i N f64c2 f64p2 (f64s1 v1_0 v1_1 v1_2) (joinK (some f64lE) K) =
  impl_factors.Z2 N v1_0 v1_1 v1_2 (fun v2 => K .ret (f64s21 v2)) :=
  viaSeq (fun k => impl_factors.Z3 N v1_0 v1_1 v1_2 k) (by kernel_rfl) (by kernel_rfl) (f64t3 N v1_0 v1_1 v1_2 (seqK (fun σ => f64i N f64c4 f64p4 σ (joinK (some f64lE) K)) (joinK (some f64lE) K))) (funext fun v3 => funext fun v4 => funext fun v1_0 => funext fun v1_1 => funext fun v1_2 => f64t4 N v3 v4 v1_0 v1_1 v1_2 K) (by kernel_rfl) (by kernel_rfl)
noncomputable def f64c0 := codeAt (bodyOf Try.f64) []
noncomputable def f64p0 : Plan := .mk (some f64l1) none .n f64p2
theorem f64t0 {ρ : Type} (N : Nat) (v0 : Int × Int × List Int) (K : KT ρ) : f64i N f64c0 f64p0 (f64s0 v0) (joinK (some f64lE) K) =
  impl_factors.Z0 N v0 (fun v2 => K .ret (f64s21 v2)) :=
  viaSeq (fun k => impl_factors.Z1 N v0 k) (by kernel_rfl) (by kernel_rfl) (f64t1 N v0 (seqK (fun σ => f64i N f64c2 f64p2 σ (joinK (some f64lE) K)) (joinK (some f64lE) K))) (funext fun v1_0 => funext fun v1_1 => funext fun v1_2 => f64t2 N v1_0 v1_1 v1_2 K) (by kernel_rfl) (by kernel_rfl)
theorem f64m (N : Nat) (v0 : Int × Int × List Int) : f64i N f64c0 f64p0 (f64s0 v0) (joinK (some f64lE) (finK tab f64sig Try.f64.results.toList)) = impl_factors.Z0 N v0 (fun v2 => some ((), (v2, ()))) :=
  (f64t0 N v0 (finK tab f64sig Try.f64.results.toList)).trans (by kernel_rfl)
theorem f64ok (h : impl_factors.Spec) : EntryOk Try.prog 64 e64 :=
  entry_of_code (sig := f64sig) (c := f64c0) (pl := f64p0) (je := (some f64lE)) (B := f64B) Try.func64 (by kernel_rfl) (by kernel_rfl) (by kernel_rfl) tabOk f64GOk (by kernel_rfl) (by kernel_rfl) (by kernel_rfl) (by kernel_rfl) fun X hb hp => by
    obtain ⟨v0, _⟩ := X
    obtain ⟨N, h⟩ := h v0 hb.1 hp
    exact ⟨N, (f64m N v0).trans (h N (Nat.le_refl N))⟩
theorem e64ok : EntryOk Try.prog 64 e64 := f64ok impl_factors.ok
end Go.Fw
set_option linter.unusedVariables false
set_option linter.unusedSimpArgs false
set_option maxRecDepth 100000
namespace Go.Fw
open Go.Proofs
/-! ### loop.example/g03115/impl.MatrixOk -/
noncomputable def f61sig : Sig := ⟨[⟨.pair (.int .i64) (.pair (.int .i64) (.sl 3 (.int .i64))), true, false⟩], [⟨.bool, false, false⟩]⟩
noncomputable def e61 : Entry := ⟨f61sig, none, fun X => ((), ((impl_MatrixOk.g X.1), ()))⟩
noncomputable def f61G : Nat → Option Entry := addG (addG (fun _ => none) 63 e63) 64 e64
theorem f61GOk : GOk Try.prog f61G := ((GOk.nil).add e63ok (by kernel_rfl)).add e64ok (by kernel_rfl)
noncomputable def f61lE : Clean := ⟨[], [], [], [], []⟩
noncomputable def f61s0 (v0 : Int × Int × List Int) : St := initSt f61sig.ps (v0, ())
noncomputable def f61s1 (v2 : Bool) : St := stOf [(2, .c (.bool v2))] [] []
noncomputable def f61l1 : Clean := ⟨[2], [], [], [], []⟩
noncomputable def f61B : Nat → Option Clean := lookL [(1000000, f61l1)]
noncomputable abbrev f61i {ρ : Type} (N : Nat) (c : Code) (p : Plan) (σ : St) (K : KT ρ) : Option ρ := iCode f61G tab f61B N c p σ K
noncomputable def f61c0 := codeAt (bodyOf Try.f61) []
theorem f61t0 {ρ : Type} (N : Nat) (v0 : Int × Int × List Int) (K : KT ρ) : f61i N f61c0 .n (f61s0 v0) (joinK (some f61lE) K) =
  impl_MatrixOk.Z0 N v0 (fun v2 => K .ret (f61s1 v2)) := by kernel_rfl
theorem f61m (N : Nat) (v0 : Int × Int × List Int) : f61i N f61c0 .n (f61s0 v0) (joinK (some f61lE) (finK tab f61sig Try.f61.results.toList)) = impl_MatrixOk.Z0 N v0 (fun v2 => some ((), (v2, ()))) :=
  (f61t0 N v0 (finK tab f61sig Try.f61.results.toList)).trans (by kernel_rfl)
theorem f61ok (h : impl_MatrixOk.Spec) : EntryOk Try.prog 61 e61 :=
  entry_of_code (sig := f61sig) (c := f61c0) (pl := .n) (je := (some f61lE)) (B := f61B) Try.func61 (by kernel_rfl) (by kernel_rfl) (by kernel_rfl) tabOk f61GOk (by kernel_rfl) (by kernel_rfl) (by kernel_rfl) (by kernel_rfl) fun X hb hp => by
    obtain ⟨v0, _⟩ := X
    obtain ⟨N, h⟩ := h v0 hb.1
    exact ⟨N, (f61m N v0).trans (h N (Nat.le_refl N))⟩
theorem e61ok : EntryOk Try.prog 61 e61 := f61ok impl_MatrixOk.ok
end Go.Fw
set_option linter.unusedVariables false
set_option linter.unusedSimpArgs false
set_option maxRecDepth 100000
namespace Go.Fw
open Go.Proofs
/-! ### slices.Clone[[]int,int] -/
noncomputable def f62sig : Sig := ⟨[⟨.sl 3 (.int .i64), false, false⟩], [⟨.sl 3 (.int .i64), false, false⟩]⟩
noncomputable def e62 : Entry := ⟨f62sig, (some fun X => slices_Clone_int_int.P X.1), fun X => ((), ((slices_Clone_int_int.g X.1), ()))⟩
noncomputable def f62G : Nat → Option Entry := (fun _ => none)
theorem f62GOk : GOk Try.prog f62G := GOk.nil
noncomputable def f62lE : Clean := ⟨[], [], [], [], []⟩
noncomputable def f62s0 (v0 : List Int) : St := initSt f62sig.ps (v0, ())
noncomputable def f62s1 (v2 : List Int) : St := stOf [(2, .c (.own 1000128))] [] [(1000128, (⟨3, .int .i64, v2, true, false⟩ : Row))]
noncomputable def f62l1 : Clean := ⟨[2], [], [⟨⟨false, 2, 0⟩, 30000000, 3, .int .i64, true⟩], [], [(⟨false, 2, 0⟩, 1000128)]⟩
noncomputable def f62B : Nat → Option Clean := lookL [(1000000, f62l1)]
noncomputable abbrev f62i {ρ : Type} (N : Nat) (c : Code) (p : Plan) (σ : St) (K : KT ρ) : Option ρ := iCode f62G tab f62B N c p σ K
noncomputable def f62c0 := codeAt (bodyOf Try.f62) []
theorem f62t0 {ρ : Type} (N : Nat) (v0 : List Int) (K : KT ρ) : f62i N f62c0 .n (f62s0 v0) (joinK (some f62lE) K) =
  slices_Clone_int_int.Z0 N v0 (fun v2 => K .ret (f62s1 v2)) := by kernel_rfl
theorem f62m (N : Nat) (v0 : List Int) : f62i N f62c0 .n (f62s0 v0) (joinK (some f62lE) (finK tab f62sig Try.f62.results.toList)) = slices_Clone_int_int.Z0 N v0 (fun v2 => some ((), (v2, ()))) :=
  (f62t0 N v0 (finK tab f62sig Try.f62.results.toList)).trans (by kernel_rfl)
theorem f62ok (h : slices_Clone_int_int.Spec) : EntryOk Try.prog 62 e62 :=
  entry_of_code (sig := f62sig) (c := f62c0) (pl := .n) (je := (some f62lE)) (B := f62B) Try.func62 (by kernel_rfl) (by kernel_rfl) (by kernel_rfl) tabOk f62GOk (by kernel_rfl) (by kernel_rfl) (by kernel_rfl) (by kernel_rfl) fun X hb hp => by
    obtain ⟨v0, _⟩ := X
    obtain ⟨N, h⟩ := h v0 hb.1 hp
    exact ⟨N, (f62m N v0).trans (h N (Nat.le_refl N))⟩
theorem e62ok : EntryOk Try.prog 62 e62 := f62ok slices_Clone_int_int.ok
end Go.Fw
set_option linter.unusedVariables false
set_option linter.unusedSimpArgs false
set_option maxRecDepth 100000
namespace Go.Fw
open Go.Proofs
/-! ### loop.example/g03115/impl.PrincipalMatrix -/
noncomputable def f30sig : Sig := ⟨[⟨.pair (.int .i64) (.pair (.int .i64) (.sl 3 (.int .i64))), true, false⟩], [⟨.pair (.int .i64) (.pair (.int .i64) (.sl 3 (.int .i64))), true, false⟩, ⟨.bool, false, false⟩]⟩
noncomputable def e30 : Entry := ⟨f30sig, none, fun X => ((), ((impl_PrincipalMatrix.g X.1).1, ((impl_PrincipalMatrix.g X.1).2, ())))⟩
noncomputable def f30G : Nat → Option Entry := addG (addG (fun _ => none) 61 e61) 62 e62
theorem f30GOk : GOk Try.prog f30G := ((GOk.nil).add e61ok (by kernel_rfl)).add e62ok (by kernel_rfl)
noncomputable def f30lE : Clean := ⟨[], [], [], [], []⟩
noncomputable def f30s0 (v0 : Int × Int × List Int) : St := initSt f30sig.ps (v0, ())
noncomputable def f30s1 (v1_0 v1_1 : Int) (v1_2 : List Int) (v2_0 v2_1 : Int) : St := stOf [(1, .c (.box 1 0)), (2, .c (.box 2 0))] [(1, (26, [.int .i64 v1_0, .int .i64 v1_1, .sn 3 (.int .i64) v1_2 none])), (2, (26, [.int .i64 v2_0, .int .i64 v2_1, .nil]))] []
noncomputable def f30l1 : Clean := ⟨[1, 2], [1, 2], [], [], []⟩
noncomputable def f30s2 (v4_2 : List Int) (v1_0 v1_1 : Int) (v1_2 : List Int) (v2_0 v2_1 : Int) (v4_0 v4_1 : Int) : St := stOf [(1, .c (.box 1 0)), (2, .c (.box 2 0)), (4, .c (.box 4 0))] [(1, (26, [.int .i64 v1_0, .int .i64 v1_1, .sn 3 (.int .i64) v1_2 none])), (2, (26, [.int .i64 v2_0, .int .i64 v2_1, .nil])), (4, (26, [.int .i64 v4_0, .int .i64 v4_1, .own 20000258]))] [(20000258, (⟨3, .int .i64, v4_2, true, false⟩ : Row))]
noncomputable def f30l2 : Clean := ⟨[1, 2, 4], [1, 2, 4], [], [], [(⟨true, 4, 2⟩, 20000258)]⟩
noncomputable def f30s3 (v4_2 : List Int) (v5 v1_0 v1_1 : Int) (v1_2 : List Int) (v2_0 v2_1 : Int) (v4_0 v4_1 : Int) : St := stOf [(1, .c (.box 1 0)), (2, .c (.box 2 0)), (4, .c (.box 4 0)), (5, .c (.int .i64 v5))] [(1, (26, [.int .i64 v1_0, .int .i64 v1_1, .sn 3 (.int .i64) v1_2 none])), (2, (26, [.int .i64 v2_0, .int .i64 v2_1, .nil])), (4, (26, [.int .i64 v4_0, .int .i64 v4_1, .own 20000258]))] [(20000258, (⟨3, .int .i64, v4_2, true, false⟩ : Row))]
noncomputable def f30l3 : Clean := ⟨[1, 2, 4, 5], [1, 2, 4], [], [], [(⟨true, 4, 2⟩, 20000258)]⟩
noncomputable def f30s4 (v4_2 : List Int) (v5 v6 : Int) (v1_0 v1_1 : Int) (v1_2 : List Int) (v2_0 v2_1 : Int) (v4_0 v4_1 : Int) : St := stOf [(1, .c (.box 1 0)), (2, .c (.box 2 0)), (4, .c (.box 4 0)), (5, .c (.int .i64 v5)), (6, .c (.int .i64 v6))] [(1, (26, [.int .i64 v1_0, .int .i64 v1_1, .sn 3 (.int .i64) v1_2 none])), (2, (26, [.int .i64 v2_0, .int .i64 v2_1, .nil])), (4, (26, [.int .i64 v4_0, .int .i64 v4_1, .own 20000258]))] [(20000258, (⟨3, .int .i64, v4_2, true, false⟩ : Row))]
noncomputable def f30l4 : Clean := ⟨[1, 2, 4, 5, 6], [1, 2, 4], [], [], [(⟨true, 4, 2⟩, 20000258)]⟩
noncomputable def f30s5 (v4_2 : List Int) (v2_0 v2_1 : Int) (v4_0 v4_1 : Int) : St := stOf [(2, .c (.box 2 0)), (4, .c (.box 4 0))] [(2, (26, [.int .i64 v2_0, .int .i64 v2_1, .nil])), (4, (26, [.int .i64 v4_0, .int .i64 v4_1, .own 20000258]))] [(20000258, (⟨3, .int .i64, v4_2, true, false⟩ : Row))]
noncomputable def f30l5 : Clean := ⟨[2, 4], [2, 4], [], [], [(⟨true, 4, 2⟩, 20000258)]⟩
noncomputable def f30s6 (v2_2 : List Int) (v3 : Bool) (v2_0 v2_1 : Int) : St := stOf [(2, .c (.box 2 0)), (3, .c (.bool v3))] [(2, (26, [.int .i64 v2_0, .int .i64 v2_1, .own 20000130]))] [(20000130, (⟨3, .int .i64, v2_2, true, false⟩ : Row))]
noncomputable def f30l6 : Clean := ⟨[2, 3], [2], [⟨⟨true, 2, 2⟩, 30000000, 3, .int .i64, true⟩], [], [(⟨true, 2, 2⟩, 20000130)]⟩
noncomputable def f30B : Nat → Option Clean := lookL [(2, f30l3), (1, f30l3), (0, f30l5), (1000000, f30l6)]
noncomputable abbrev f30i {ρ : Type} (N : Nat) (c : Code) (p : Plan) (σ : St) (K : KT ρ) : Option ρ := iCode f30G tab f30B N c p σ K
noncomputable def f30c1 := codeAt (bodyOf Try.f30) [0]
theorem f30t1 {ρ : Type} (N : Nat) (v0 : Int × Int × List Int) (K : KT ρ) : f30i N f30c1 .n (f30s0 v0) (joinK (some f30l1) K) =
  impl_PrincipalMatrix.Z1 N v0 (fun v1_0 v1_1 v1_2 v2_0 v2_1 => K .nrm (f30s1 v1_0 v1_1 v1_2 v2_0 v2_1)) := by kernel_rfl
noncomputable def f30c3 := codeAt (bodyOf Try.f30) [1,0]
theorem f30t3 {ρ : Type} (N : Nat) (v1_0 v1_1 : Int) (v1_2 : List Int) (v2_0 v2_1 : Int) (K : KT ρ) : f30i N f30c3 .n (f30s1 v1_0 v1_1 v1_2 v2_0 v2_1) (joinK (some f30l1) K) =
  impl_PrincipalMatrix.Z3 N v1_0 v1_1 v1_2 v2_0 v2_1 (fun v1_0 v1_1 v1_2 v2_0 v2_1 => K .nrm (f30s1 v1_0 v1_1 v1_2 v2_0 v2_1)) (fun v2_2 v3 v2_0 v2_1 => K .ret (f30s6 v2_2 v3 v2_0 v2_1)) := by kernel_rfl
noncomputable def f30c5 := codeAt (bodyOf Try.f30) [1,1,0]
theorem f30t5 {ρ : Type} (N : Nat) (v1_0 v1_1 : Int) (v1_2 : List Int) (v2_0 v2_1 : Int) (K : KT ρ) : f30i N f30c5 .n (f30s1 v1_0 v1_1 v1_2 v2_0 v2_1) (joinK (some f30l2) K) =
  impl_PrincipalMatrix.Z5 N v1_0 v1_1 v1_2 v2_0 v2_1 (fun v4_2 v1_0 v1_1 v1_2 v2_0 v2_1 v4_0 v4_1 => K .nrm (f30s2 v4_2 v1_0 v1_1 v1_2 v2_0 v2_1 v4_0 v4_1)) := by kernel_rfl
noncomputable def f30c8 := codeAt (bodyOf Try.f30) [1,1,1,0,0]
theorem f30t8 {ρ : Type} (N : Nat) (v4_2 : List Int) (v1_0 v1_1 : Int) (v1_2 : List Int) (v2_0 v2_1 : Int) (v4_0 v4_1 : Int) (K : KT ρ) : f30i N f30c8 .n (f30s2 v4_2 v1_0 v1_1 v1_2 v2_0 v2_1 v4_0 v4_1) (joinK (some f30l3) K) =
  impl_PrincipalMatrix.Z8 N v4_2 v1_0 v1_1 v1_2 v2_0 v2_1 v4_0 v4_1 (fun v4_2 v5 v1_0 v1_1 v1_2 v2_0 v2_1 v4_0 v4_1 => K .nrm (f30s3 v4_2 v5 v1_0 v1_1 v1_2 v2_0 v2_1 v4_0 v4_1)) := by kernel_rfl
noncomputable def f30c12 := codeAt (bodyOf Try.f30) [1,1,1,0,1,0,0,0]
theorem f30t12 {ρ : Type} (N : Nat) (v4_2 : List Int) (v5 v1_0 v1_1 : Int) (v1_2 : List Int) (v2_0 v2_1 : Int) (v4_0 v4_1 : Int) (K : KT ρ) : f30i N f30c12 .n (f30s3 v4_2 v5 v1_0 v1_1 v1_2 v2_0 v2_1 v4_0 v4_1) (joinK (some f30l3) K) =
  impl_PrincipalMatrix.Z12 N v4_2 v5 v1_0 v1_1 v1_2 v2_0 v2_1 v4_0 v4_1 (fun v4_2 v5 v1_0 v1_1 v1_2 v2_0 v2_1 v4_0 v4_1 => K .nrm (f30s3 v4_2 v5 v1_0 v1_1 v1_2 v2_0 v2_1 v4_0 v4_1)) (fun v4_2 v2_0 v2_1 v4_0 v4_1 => K (.exit 0) (f30s5 v4_2 v2_0 v2_1 v4_0 v4_1)) := by kernel_rfl
noncomputable def f30c16 := codeAt (bodyOf Try.f30) [1,1,1,0,1,0,0,1,0,0,0]
theorem f30t16 {ρ : Type} (N : Nat) (v4_2 : List Int) (v5 v1_0 v1_1 : Int) (v1_2 : List Int) (v2_0 v2_1 : Int) (v4_0 v4_1 : Int) (K : KT ρ) : f30i N f30c16 .n (f30s3 v4_2 v5 v1_0 v1_1 v1_2 v2_0 v2_1 v4_0 v4_1) (joinK (some f30l4) K) =
  impl_PrincipalMatrix.Z16 N v4_2 v5 v1_0 v1_1 v1_2 v2_0 v2_1 v4_0 v4_1 (fun v4_2 v5 v6 v1_0 v1_1 v1_2 v2_0 v2_1 v4_0 v4_1 => K .nrm (f30s4 v4_2 v5 v6 v1_0 v1_1 v1_2 v2_0 v2_1 v4_0 v4_1)) := by kernel_rfl
noncomputable def f30c19 := codeAt (bodyOf Try.f30) [1,1,1,0,1,0,0,1,0,0,1,0,0]
theorem f30t19 {ρ : Type} (N : Nat) (v4_2 : List Int) (v5 v6 : Int) (v1_0 v1_1 : Int) (v1_2 : List Int) (v2_0 v2_1 : Int) (v4_0 v4_1 : Int) (K : KT ρ) : f30i N f30c19 .n (f30s4 v4_2 v5 v6 v1_0 v1_1 v1_2 v2_0 v2_1 v4_0 v4_1) (joinK (some f30l4) K) =
  impl_PrincipalMatrix.Z19 N v4_2 v5 v6 v1_0 v1_1 v1_2 v2_0 v2_1 v4_0 v4_1 (fun v4_2 v5 v6 v1_0 v1_1 v1_2 v2_0 v2_1 v4_0 v4_1 => K .nrm (f30s4 v4_2 v5 v6 v1_0 v1_1 v1_2 v2_0 v2_1 v4_0 v4_1)) (fun v4_2 v5 v1_0 v1_1 v1_2 v2_0 v2_1 v4_0 v4_1 => K (.exit 2) (f30s3 v4_2 v5 v1_0 v1_1 v1_2 v2_0 v2_1 v4_0 v4_1)) := by kernel_rfl
noncomputable def f30c18 := codeAt (bodyOf Try.f30) [1,1,1,0,1,0,0,1,0,0,1,0]
noncomputable def f30p18 : Plan := .mk none (some f30l4) .n .n
noncomputable abbrev f30w18 {ρ : Type} (N M : Nat) (σ : St) (K : KT ρ) : Option ρ := loopC (fun σ K => f30i N f30c19 .n σ K) f30l4 M σ K
theorem f30t18L {ρ : Type} (N : Nat) (K : KT ρ) : ∀ (M : Nat) (v4_2 : List Int) (v5 v6 : Int) (v1_0 v1_1 : Int) (v1_2 : List Int) (v2_0 v2_1 : Int) (v4_0 v4_1 : Int), f30w18 N M (f30s4 v4_2 v5 v6 v1_0 v1_1 v1_2 v2_0 v2_1 v4_0 v4_1) K =
  impl_PrincipalMatrix.Z18L N (fun v4_2 v5 v1_0 v1_1 v1_2 v2_0 v2_1 v4_0 v4_1 => K (.exit 2) (f30s3 v4_2 v5 v1_0 v1_1 v1_2 v2_0 v2_1 v4_0 v4_1)) M v4_2 v5 v6 v1_0 v1_1 v1_2 v2_0 v2_1 v4_0 v4_1
  | 0, _, _, _, _, _, _, _, _, _, _ => rfl
  | M + 1, v4_2, v5, v6, v1_0, v1_1, v1_2, v2_0, v2_1, v4_0, v4_1 => viaRound (fun k => impl_PrincipalMatrix.Z19 N v4_2 v5 v6 v1_0 v1_1 v1_2 v2_0 v2_1 v4_0 v4_1 k (fun v4_2 v5 v1_0 v1_1 v1_2 v2_0 v2_1 v4_0 v4_1 => K (.exit 2) (f30s3 v4_2 v5 v1_0 v1_1 v1_2 v2_0 v2_1 v4_0 v4_1))) (f30t19 N v4_2 v5 v6 v1_0 v1_1 v1_2 v2_0 v2_1 v4_0 v4_1 (seqK (fun σ => f30w18 N M σ K) K)) (funext fun v4_2 => funext fun v5 => funext fun v6 => funext fun v1_0 => funext fun v1_1 => funext fun v1_2 => funext fun v2_0 => funext fun v2_1 => funext fun v4_0 => funext fun v4_1 => f30t18L N K M v4_2 v5 v6 v1_0 v1_1 v1_2 v2_0 v2_1 v4_0 v4_1) (by kernel_rfl) (by kernel_rfl)
theorem f30t18 {ρ : Type} (N : Nat) (v4_2 : List Int) (v5 v6 : Int) (v1_0 v1_1 : Int) (v1_2 : List Int) (v2_0 v2_1 : Int) (v4_0 v4_1 : Int) (K : KT ρ) : f30i N f30c18 f30p18 (f30s4 v4_2 v5 v6 v1_0 v1_1 v1_2 v2_0 v2_1 v4_0 v4_1) (joinK (some f30l3) K) =
  impl_PrincipalMatrix.Z18 N v4_2 v5 v6 v1_0 v1_1 v1_2 v2_0 v2_1 v4_0 v4_1 (fun v4_2 v5 v1_0 v1_1 v1_2 v2_0 v2_1 v4_0 v4_1 => K (.exit 2) (f30s3 v4_2 v5 v1_0 v1_1 v1_2 v2_0 v2_1 v4_0 v4_1)) :=
  viaLoop (by kernel_rfl) (by kernel_rfl) (σ' := f30s4 v4_2 v5 v6 v1_0 v1_1 v1_2 v2_0 v2_1 v4_0 v4_1) (by kernel_rfl) (f30t18L N (joinK (some f30l3) K) N v4_2 v5 v6 v1_0 v1_1 v1_2 v2_0 v2_1 v4_0 v4_1) (by kernel_rfl)
noncomputable def f30c17 := codeAt (bodyOf Try.f30) [1,1,1,0,1,0,0,1,0,0,1]
noncomputable def f30p17 : Plan := .mk (some f30l3) none f30p18 .n
theorem f30t17 {ρ : Type} (N : Nat) (v4_2 : List Int) (v5 v6 : Int) (v1_0 v1_1 : Int) (v1_2 : List Int) (v2_0 v2_1 : Int) (v4_0 v4_1 : Int) (K : KT ρ) : f30i N f30c17 f30p17 (f30s4 v4_2 v5 v6 v1_0 v1_1 v1_2 v2_0 v2_1 v4_0 v4_1) (joinK (some f30l3) K) =
  impl_PrincipalMatrix.Z17 N v4_2 v5 v6 v1_0 v1_1 v1_2 v2_0 v2_1 v4_0 v4_1 (fun v4_2 v5 v1_0 v1_1 v1_2 v2_0 v2_1 v4_0 v4_1 => K .nrm (f30s3 v4_2 v5 v1_0 v1_1 v1_2 v2_0 v2_1 v4_0 v4_1)) :=
  viaBlock (by kernel_rfl) (by kernel_rfl) (f30t18 N v4_2 v5 v6 v1_0 v1_1 v1_2 v2_0 v2_1 v4_0 v4_1 (blockK 2 (joinK (some f30l3) K))) (by kernel_rfl)
noncomputable def f30c15 := codeAt (bodyOf Try.f30) [1,1,1,0,1,0,0,1,0,0]
noncomputable def f30p15 : Plan := .mk (some f30l4) none .n f30p17
theorem f30t15 {ρ : Type} (N : Nat) (v4_2 : List Int) (v5 v1_0 v1_1 : Int) (v1_2 : List Int) (v2_0 v2_1 : Int) (v4_0 v4_1 : Int) (K : KT ρ) : f30i N f30c15 f30p15 (f30s3 v4_2 v5 v1_0 v1_1 v1_2 v2_0 v2_1 v4_0 v4_1) (joinK (some f30l3) K) =
  impl_PrincipalMatrix.Z15 N v4_2 v5 v1_0 v1_1 v1_2 v2_0 v2_1 v4_0 v4_1 (fun v4_2 v5 v1_0 v1_1 v1_2 v2_0 v2_1 v4_0 v4_1 => K .nrm (f30s3 v4_2 v5 v1_0 v1_1 v1_2 v2_0 v2_1 v4_0 v4_1)) :=
  viaSeq (fun k => impl_PrincipalMatrix.Z16 N v4_2 v5 v1_0 v1_1 v1_2 v2_0 v2_1 v4_0 v4_1 k) (by kernel_rfl) (by kernel_rfl) (f30t16 N v4_2 v5 v1_0 v1_1 v1_2 v2_0 v2_1 v4_0 v4_1 (seqK (fun σ => f30i N f30c17 f30p17 σ (joinK (some f30l3) K)) (joinK (some f30l3) K))) (funext fun v4_2 => funext fun v5 => funext fun v6 => funext fun v1_0 => funext fun v1_1 => funext fun v1_2 => funext fun v2_0 => funext fun v2_1 => funext fun v4_0 => funext fun v4_1 => f30t17 N v4_2 v5 v6 v1_0 v1_1 v1_2 v2_0 v2_1 v4_0 v4_1 K) (by kernel_rfl) (by kernel_rfl)
noncomputable def f30c14 := codeAt (bodyOf Try.f30) [1,1,1,0,1,0,0,1,0]
noncomputable def f30p14 : Plan := .mk (some f30l3) none f30p15 .n
theorem f30t14 {ρ : Type} (N : Nat) (v4_2 : List Int) (v5 v1_0 v1_1 : Int) (v1_2 : List Int) (v2_0 v2_1 : Int) (v4_0 v4_1 : Int) (K : KT ρ) : f30i N f30c14 f30p14 (f30s3 v4_2 v5 v1_0 v1_1 v1_2 v2_0 v2_1 v4_0 v4_1) (joinK (some f30l3) K) =
  impl_PrincipalMatrix.Z14 N v4_2 v5 v1_0 v1_1 v1_2 v2_0 v2_1 v4_0 v4_1 (fun v4_2 v5 v1_0 v1_1 v1_2 v2_0 v2_1 v4_0 v4_1 => K .nrm (f30s3 v4_2 v5 v1_0 v1_1 v1_2 v2_0 v2_1 v4_0 v4_1)) :=
  viaBlock (by kernel_rfl) (by kernel_rfl) (f30t15 N v4_2 v5 v1_0 v1_1 v1_2 v2_0 v2_1 v4_0 v4_1 (blockK 1 (joinK (some f30l3) K))) (by kernel_rfl)
noncomputable def f30c20 := codeAt (bodyOf Try.f30) [1,1,1,0,1,0,0,1,1]
theorem f30t20 {ρ : Type} (N : Nat) (v4_2 : List Int) (v5 v1_0 v1_1 : Int) (v1_2 : List Int) (v2_0 v2_1 : Int) (v4_0 v4_1 : Int) (K : KT ρ) : f30i N f30c20 .n (f30s3 v4_2 v5 v1_0 v1_1 v1_2 v2_0 v2_1 v4_0 v4_1) (joinK (some f30l3) K) =
  impl_PrincipalMatrix.Z20 N v4_2 v5 v1_0 v1_1 v1_2 v2_0 v2_1 v4_0 v4_1 (fun v4_2 v5 v1_0 v1_1 v1_2 v2_0 v2_1 v4_0 v4_1 => K .nrm (f30s3 v4_2 v5 v1_0 v1_1 v1_2 v2_0 v2_1 v4_0 v4_1)) := by kernel_rfl
noncomputable def f30c13 := codeAt (bodyOf Try.f30) [1,1,1,0,1,0,0,1]
noncomputable def f30p13 : Plan := .mk (some f30l3) none f30p14 .n
theorem f30t13 {ρ : Type} (N : Nat) (v4_2 : List Int) (v5 v1_0 v1_1 : Int) (v1_2 : List Int) (v2_0 v2_1 : Int) (v4_0 v4_1 : Int) (K : KT ρ) : f30i N f30c13 f30p13 (f30s3 v4_2 v5 v1_0 v1_1 v1_2 v2_0 v2_1 v4_0 v4_1) (joinK (some f30l3) K) =
  impl_PrincipalMatrix.Z13 N v4_2 v5 v1_0 v1_1 v1_2 v2_0 v2_1 v4_0 v4_1 (fun v4_2 v5 v1_0 v1_1 v1_2 v2_0 v2_1 v4_0 v4_1 => K .nrm (f30s3 v4_2 v5 v1_0 v1_1 v1_2 v2_0 v2_1 v4_0 v4_1)) :=
  viaSeq (fun k => impl_PrincipalMatrix.Z14 N v4_2 v5 v1_0 v1_1 v1_2 v2_0 v2_1 v4_0 v4_1 k) (by kernel_rfl) (by kernel_rfl) (f30t14 N v4_2 v5 v1_0 v1_1 v1_2 v2_0 v2_1 v4_0 v4_1 (seqK (fun σ => f30i N f30c20 .n σ (joinK (some f30l3) K)) (joinK (some f30l3) K))) (funext fun v4_2 => funext fun v5 => funext fun v1_0 => funext fun v1_1 => funext fun v1_2 => funext fun v2_0 => funext fun v2_1 => funext fun v4_0 => funext fun v4_1 => f30t20 N v4_2 v5 v1_0 v1_1 v1_2 v2_0 v2_1 v4_0 v4_1 K) (by kernel_rfl) (by kernel_rfl)
noncomputable def f30c11 := codeAt (bodyOf Try.f30) [1,1,1,0,1,0,0]
noncomputable def f30p11 : Plan := .mk (some f30l3) none .n f30p13
theorem f30t11 {ρ : Type} (N : Nat) (v4_2 : List Int) (v5 v1_0 v1_1 : Int) (v1_2 : List Int) (v2_0 v2_1 : Int) (v4_0 v4_1 : Int) (K : KT ρ) : f30i N f30c11 f30p11 (f30s3 v4_2 v5 v1_0 v1_1 v1_2 v2_0 v2_1 v4_0 v4_1) (joinK (some f30l3) K) =
  impl_PrincipalMatrix.Z11 N v4_2 v5 v1_0 v1_1 v1_2 v2_0 v2_1 v4_0 v4_1 (fun v4_2 v5 v1_0 v1_1 v1_2 v2_0 v2_1 v4_0 v4_1 => K .nrm (f30s3 v4_2 v5 v1_0 v1_1 v1_2 v2_0 v2_1 v4_0 v4_1)) (fun v4_2 v2_0 v2_1 v4_0 v4_1 => K (.exit 0) (f30s5 v4_2 v2_0 v2_1 v4_0 v4_1)) :=
  viaSeq (fun k => impl_PrincipalMatrix.Z12 N v4_2 v5 v1_0 v1_1 v1_2 v2_0 v2_1 v4_0 v4_1 k (fun v4_2 v2_0 v2_1 v4_0 v4_1 => K (.exit 0) (f30s5 v4_2 v2_0 v2_1 v4_0 v4_1))) (by kernel_rfl) (by kernel_rfl) (f30t12 N v4_2 v5 v1_0 v1_1 v1_2 v2_0 v2_1 v4_0 v4_1 (seqK (fun σ => f30i N f30c13 f30p13 σ (joinK (some f30l3) K)) (joinK (some f30l3) K))) (funext fun v4_2 => funext fun v5 => funext fun v1_0 => funext fun v1_1 => funext fun v1_2 => funext fun v2_0 => funext fun v2_1 => funext fun v4_0 => funext fun v4_1 => f30t13 N v4_2 v5 v1_0 v1_1 v1_2 v2_0 v2_1 v4_0 v4_1 K) (by kernel_rfl) (by kernel_rfl)
noncomputable def f30c10 := codeAt (bodyOf Try.f30) [1,1,1,0,1,0]
noncomputable def f30p10 : Plan := .mk none (some f30l3) f30p11 .n
noncomputable abbrev f30w10 {ρ : Type} (N M : Nat) (σ : St) (K : KT ρ) : Option ρ := loopC (fun σ K => f30i N f30c11 f30p11 σ K) f30l3 M σ K
theorem f30t10L {ρ : Type} (N : Nat) (K : KT ρ) : ∀ (M : Nat) (v4_2 : List Int) (v5 v1_0 v1_1 : Int) (v1_2 : List Int) (v2_0 v2_1 : Int) (v4_0 v4_1 : Int), f30w10 N M (f30s3 v4_2 v5 v1_0 v1_1 v1_2 v2_0 v2_1 v4_0 v4_1) K =
  impl_PrincipalMatrix.Z10L N (fun v4_2 v2_0 v2_1 v4_0 v4_1 => K (.exit 0) (f30s5 v4_2 v2_0 v2_1 v4_0 v4_1)) M v4_2 v5 v1_0 v1_1 v1_2 v2_0 v2_1 v4_0 v4_1
  | 0, _, _, _, _, _, _, _, _, _ => rfl
  | M + 1, v4_2, v5, v1_0, v1_1, v1_2, v2_0, v2_1, v4_0, v4_1 => viaRound (fun k => impl_PrincipalMatrix.Z11 N v4_2 v5 v1_0 v1_1 v1_2 v2_0 v2_1 v4_0 v4_1 k (fun v4_2 v2_0 v2_1 v4_0 v4_1 => K (.exit 0) (f30s5 v4_2 v2_0 v2_1 v4_0 v4_1))) (f30t11 N v4_2 v5 v1_0 v1_1 v1_2 v2_0 v2_1 v4_0 v4_1 (seqK (fun σ => f30w10 N M σ K) K)) (funext fun v4_2 => funext fun v5 => funext fun v1_0 => funext fun v1_1 => funext fun v1_2 => funext fun v2_0 => funext fun v2_1 => funext fun v4_0 => funext fun v4_1 => f30t10L N K M v4_2 v5 v1_0 v1_1 v1_2 v2_0 v2_1 v4_0 v4_1) (by kernel_rfl) (by kernel_rfl)
theorem f30t10 {ρ : Type} (N : Nat) (v4_2 : List Int) (v5 v1_0 v1_1 : Int) (v1_2 : List Int) (v2_0 v2_1 : Int) (v4_0 v4_1 : Int) (K : KT ρ) : f30i N f30c10 f30p10 (f30s3 v4_2 v5 v1_0 v1_1 v1_2 v2_0 v2_1 v4_0 v4_1) (joinK (some f30l5) K) =
  impl_PrincipalMatrix.Z10 N v4_2 v5 v1_0 v1_1 v1_2 v2_0 v2_1 v4_0 v4_1 (fun v4_2 v2_0 v2_1 v4_0 v4_1 => K (.exit 0) (f30s5 v4_2 v2_0 v2_1 v4_0 v4_1)) :=
  viaLoop (by kernel_rfl) (by kernel_rfl) (σ' := f30s3 v4_2 v5 v1_0 v1_1 v1_2 v2_0 v2_1 v4_0 v4_1) (by kernel_rfl) (f30t10L N (joinK (some f30l5) K) N v4_2 v5 v1_0 v1_1 v1_2 v2_0 v2_1 v4_0 v4_1) (by kernel_rfl)
noncomputable def f30c9 := codeAt (bodyOf Try.f30) [1,1,1,0,1]
noncomputable def f30p9 : Plan := .mk (some f30l5) none f30p10 .n
theorem f30t9 {ρ : Type} (N : Nat) (v4_2 : List Int) (v5 v1_0 v1_1 : Int) (v1_2 : List Int) (v2_0 v2_1 : Int) (v4_0 v4_1 : Int) (K : KT ρ) : f30i N f30c9 f30p9 (f30s3 v4_2 v5 v1_0 v1_1 v1_2 v2_0 v2_1 v4_0 v4_1) (joinK (some f30l5) K) =
  impl_PrincipalMatrix.Z9 N v4_2 v5 v1_0 v1_1 v1_2 v2_0 v2_1 v4_0 v4_1 (fun v4_2 v2_0 v2_1 v4_0 v4_1 => K .nrm (f30s5 v4_2 v2_0 v2_1 v4_0 v4_1)) :=
  viaBlock (by kernel_rfl) (by kernel_rfl) (f30t10 N v4_2 v5 v1_0 v1_1 v1_2 v2_0 v2_1 v4_0 v4_1 (blockK 0 (joinK (some f30l5) K))) (by kernel_rfl)
noncomputable def f30c7 := codeAt (bodyOf Try.f30) [1,1,1,0]
noncomputable def f30p7 : Plan := .mk (some f30l3) none .n f30p9
theorem f30t7 {ρ : Type} (N : Nat) (v4_2 : List Int) (v1_0 v1_1 : Int) (v1_2 : List Int) (v2_0 v2_1 : Int) (v4_0 v4_1 : Int) (K : KT ρ) : f30i N f30c7 f30p7 (f30s2 v4_2 v1_0 v1_1 v1_2 v2_0 v2_1 v4_0 v4_1) (joinK (some f30l5) K) =
  impl_PrincipalMatrix.Z7 N v4_2 v1_0 v1_1 v1_2 v2_0 v2_1 v4_0 v4_1 (fun v4_2 v2_0 v2_1 v4_0 v4_1 => K .nrm (f30s5 v4_2 v2_0 v2_1 v4_0 v4_1)) :=
  viaSeq (fun k => impl_PrincipalMatrix.Z8 N v4_2 v1_0 v1_1 v1_2 v2_0 v2_1 v4_0 v4_1 k) (by kernel_rfl) (by kernel_rfl) (f30t8 N v4_2 v1_0 v1_1 v1_2 v2_0 v2_1 v4_0 v4_1 (seqK (fun σ => f30i N f30c9 f30p9 σ (joinK (some f30l5) K)) (joinK (some f30l5) K))) (funext fun v4_2 => funext fun v5 => funext fun v1_0 => funext fun v1_1 => funext fun v1_2 => funext fun v2_0 => funext fun v2_1 => funext fun v4_0 => funext fun v4_1 => f30t9 N v4_2 v5 v1_0 v1_1 v1_2 v2_0 v2_1 v4_0 v4_1 K) (by kernel_rfl) (by kernel_rfl)
noncomputable def f30c21 := codeAt (bodyOf Try.f30) [1,1,1,1]
theorem f30t21 {ρ : Type} (N : Nat) (v4_2 : List Int) (v2_0 v2_1 : Int) (v4_0 v4_1 : Int) (K : KT ρ) : f30i N f30c21 .n (f30s5 v4_2 v2_0 v2_1 v4_0 v4_1) (joinK (some f30lE) K) =
  impl_PrincipalMatrix.Z21 N v4_2 v2_0 v2_1 v4_0 v4_1 (fun v2_2 v3 v2_0 v2_1 => K .ret (f30s6 v2_2 v3 v2_0 v2_1)) := by kernel_rfl
noncomputable def f30c6 := codeAt (bodyOf Try.f30) [1,1,1]
noncomputable def f30p6 : Plan := .mk (some f30l5) none f30p7 .n
theorem f30t6 {ρ : Type} (N : Nat) (v4_2 : List Int) (v1_0 v1_1 : Int) (v1_2 : List Int) (v2_0 v2_1 : Int) (v4_0 v4_1 : Int) (K : KT ρ) : f30i N f30c6 f30p6 (f30s2 v4_2 v1_0 v1_1 v1_2 v2_0 v2_1 v4_0 v4_1) (joinK (some f30lE) K) =
  impl_PrincipalMatrix.Z6 N v4_2 v1_0 v1_1 v1_2 v2_0 v2_1 v4_0 v4_1 (fun v2_2 v3 v2_0 v2_1 => K .ret (f30s6 v2_2 v3 v2_0 v2_1)) :=
  viaSeq (fun k => impl_PrincipalMatrix.Z7 N v4_2 v1_0 v1_1 v1_2 v2_0 v2_1 v4_0 v4_1 k) (by kernel_rfl) (by kernel_rfl) (f30t7 N v4_2 v1_0 v1_1 v1_2 v2_0 v2_1 v4_0 v4_1 (seqK (fun σ => f30i N f30c21 .n σ (joinK (some f30lE) K)) (joinK (some f30lE) K))) (funext fun v4_2 => funext fun v2_0 => funext fun v2_1 => funext fun v4_0 => funext fun v4_1 => f30t21 N v4_2 v2_0 v2_1 v4_0 v4_1 K) (by kernel_rfl) (by kernel_rfl)
noncomputable def f30c4 := codeAt (bodyOf Try.f30) [1,1]
noncomputable def f30p4 : Plan := .mk (some f30l2) none .n f30p6
theorem f30t4 {ρ : Type} (N : Nat) (v1_0 v1_1 : Int) (v1_2 : List Int) (v2_0 v2_1 : Int) (K : KT ρ) : f30i N f30c4 f30p4 (f30s1 v1_0 v1_1 v1_2 v2_0 v2_1) (joinK (some f30lE) K) =
  impl_PrincipalMatrix.Z4 N v1_0 v1_1 v1_2 v2_0 v2_1 (fun v2_2 v3 v2_0 v2_1 => K .ret (f30s6 v2_2 v3 v2_0 v2_1)) :=
  viaSeq (fun k => impl_PrincipalMatrix.Z5 N v1_0 v1_1 v1_2 v2_0 v2_1 k) (by kernel_rfl) (by kernel_rfl) (f30t5 N v1_0 v1_1 v1_2 v2_0 v2_1 (seqK (fun σ => f30i N f30c6 f30p6 σ (joinK (some f30lE) K)) (joinK (some f30lE) K))) (funext fun v4_2 => funext fun v1_0 => funext fun v1_1 => funext fun v1_2 => funext fun v2_0 => funext fun v2_1 => funext fun v4_0 => funext fun v4_1 => f30t6 N v4_2 v1_0 v1_1 v1_2 v2_0 v2_1 v4_0 v4_1 K) (by kernel_rfl) (by kernel_rfl)
noncomputable def f30c2 := codeAt (bodyOf Try.f30) [1]
noncomputable def f30p2 : Plan := .mk (some f30l1) none .n f30p4
theorem f30t2 {ρ : Type} (N : Nat) (v1_0 v1_1 : Int) (v1_2 : List Int) (v2_0 v2_1 : Int) (K : KT ρ) : f30i N f30c2 f30p2 (f30s1 v1_0 v1_1 v1_2 v2_0 v2_1) (joinK (some f30lE) K) =
  impl_PrincipalMatrix.Z2 N v1_0 v1_1 v1_2 v2_0 v2_1 (fun v2_2 v3 v2_0 v2_1 => K .ret (f30s6 v2_2 v3 v2_0 v2_1)) :=
  viaSeq (fun k => impl_PrincipalMatrix.Z3 N v1_0 v1_1 v1_2 v2_0 v2_1 k (fun v2_2 v3 v2_0 v2_1 => K .ret (f30s6 v2_2 v3 v2_0 v2_1))) (by kernel_rfl) (by kernel_rfl) (f30t3 N v1_0 v1_1 v1_2 v2_0 v2_1 (seqK (fun σ => f30i N f30c4 f30p4 σ (joinK (some f30lE) K)) (joinK (some f30lE) K))) (funext fun v1_0 => funext fun v1_1 => funext fun v1_2 => funext fun v2_0 => funext fun v2_1 => f30t4 N v1_0 v1_1 v1_2 v2_0 v2_1 K) (by kernel_rfl) (by kernel_rfl)
noncomputable def f30c0 := codeAt (bodyOf Try.f30) []
noncomputable def f30p0 : Plan := .mk (some f30l1) none .n f30p2
theorem f30t0 {ρ : Type} (N : Nat) (v0 : Int × Int × List Int) (K : KT ρ) : f30i N f30c0 f30p0 (f30s0 v0) (joinK (some f30lE) K) =
  impl_PrincipalMatrix.Z0 N v0 (fun v2_2 v3 v2_0 v2_1 => K .ret (f30s6 v2_2 v3 v2_0 v2_1)) :=
  viaSeq (fun k => impl_PrincipalMatrix.Z1 N v0 k) (by kernel_rfl) (by kernel_rfl) (f30t1 N v0 (seqK (fun σ => f30i N f30c2 f30p2 σ (joinK (some f30lE) K)) (joinK (some f30lE) K))) (funext fun v1_0 => funext fun v1_1 => funext fun v1_2 => funext fun v2_0 => funext fun v2_1 => f30t2 N v1_0 v1_1 v1_2 v2_0 v2_1 K) (by kernel_rfl) (by kernel_rfl)
theorem f30m (N : Nat) (v0 : Int × Int × List Int) : f30i N f30c0 f30p0 (f30s0 v0) (joinK (some f30lE) (finK tab f30sig Try.f30.results.toList)) = impl_PrincipalMatrix.Z0 N v0 (fun v2_2 v3 v2_0 v2_1 => some ((), ((v2_0, (v2_1, v2_2)), (v3, ())))) :=
  (f30t0 N v0 (finK tab f30sig Try.f30.results.toList)).trans (by kernel_rfl)
theorem f30ok (h : impl_PrincipalMatrix.Spec) : EntryOk Try.prog 30 e30 :=
  entry_of_code (sig := f30sig) (c := f30c0) (pl := f30p0) (je := (some f30lE)) (B := f30B) Try.func30 (by kernel_rfl) (by kernel_rfl) (by kernel_rfl) tabOk f30GOk (by kernel_rfl) (by kernel_rfl) (by kernel_rfl) (by kernel_rfl) fun X hb hp => by
    obtain ⟨v0, _⟩ := X
    obtain ⟨N, h⟩ := h v0 hb.1
    exact ⟨N, (f30m N v0).trans (h N (Nat.le_refl N))⟩
theorem e30ok : EntryOk Try.prog 30 e30 := f30ok impl_PrincipalMatrix.ok
end Go.Fw
set_option linter.unusedVariables false
set_option linter.unusedSimpArgs false
set_option maxRecDepth 100000
namespace Go.Fw
open Go.Proofs
/-! ### loop.example/g03115/impl.mutated -/
noncomputable def f79sig : Sig := ⟨[⟨.pair (.int .i64) (.pair (.int .i64) (.sl 3 (.int .i64))), true, false⟩, ⟨.int .i64, false, false⟩], [⟨.pair (.int .i64) (.pair (.int .i64) (.sl 3 (.int .i64))), true, false⟩]⟩
noncomputable def e79 : Entry := ⟨f79sig, (some fun X => impl_mutated.P X.1 X.2.1), fun X => ((), ((impl_mutated.g X.1 X.2.1), ()))⟩
noncomputable def f79G : Nat → Option Entry := addG (addG (fun _ => none) 60 e60) 62 e62
theorem f79GOk : GOk Try.prog f79G := ((GOk.nil).add e60ok (by kernel_rfl)).add e62ok (by kernel_rfl)
noncomputable def f79lE : Clean := ⟨[], [], [], [], []⟩
noncomputable def f79s0 (v0 : Int × Int × List Int) (v1 : Int) : St := initSt f79sig.ps (v0, (v1, ()))
noncomputable def f79s1 (v1 v2_0 v2_1 : Int) (v2_2 : List Int) (v4_0 v4_1 : Int) : St := stOf [(1, .c (.int .i64 v1)), (2, .c (.box 2 0)), (4, .c (.box 4 0))] [(2, (26, [.int .i64 v2_0, .int .i64 v2_1, .sn 3 (.int .i64) v2_2 none])), (4, (26, [.int .i64 v4_0, .int .i64 v4_1, .nil]))] []
noncomputable def f79l1 : Clean := ⟨[1, 2, 4], [2, 4], [], [], []⟩
noncomputable def f79s2 (v5_2 : List Int) (v1 v2_0 v2_1 : Int) (v2_2 : List Int) (v4_0 v4_1 : Int) (v5_0 v5_1 : Int) : St := stOf [(1, .c (.int .i64 v1)), (2, .c (.box 2 0)), (4, .c (.box 4 0)), (5, .c (.box 5 0))] [(2, (26, [.int .i64 v2_0, .int .i64 v2_1, .sn 3 (.int .i64) v2_2 none])), (4, (26, [.int .i64 v4_0, .int .i64 v4_1, .nil])), (5, (26, [.int .i64 v5_0, .int .i64 v5_1, .own 20000322]))] [(20000322, (⟨3, .int .i64, v5_2, true, false⟩ : Row))]
noncomputable def f79l2 : Clean := ⟨[1, 2, 4, 5], [2, 4, 5], [], [], [(⟨true, 5, 2⟩, 20000322)]⟩
noncomputable def f79s3 (v5_2 : List Int) (v1 v6 : Int) (v2_0 v2_1 : Int) (v2_2 : List Int) (v4_0 v4_1 : Int) (v5_0 v5_1 : Int) : St := stOf [(1, .c (.int .i64 v1)), (2, .c (.box 2 0)), (4, .c (.box 4 0)), (5, .c (.box 5 0)), (6, .c (.int .i64 v6))] [(2, (26, [.int .i64 v2_0, .int .i64 v2_1, .sn 3 (.int .i64) v2_2 none])), (4, (26, [.int .i64 v4_0, .int .i64 v4_1, .nil])), (5, (26, [.int .i64 v5_0, .int .i64 v5_1, .own 20000322]))] [(20000322, (⟨3, .int .i64, v5_2, true, false⟩ : Row))]
noncomputable def f79l3 : Clean := ⟨[1, 2, 4, 5, 6], [2, 4, 5], [], [], [(⟨true, 5, 2⟩, 20000322)]⟩
noncomputable def f79s4 (v5_2 : List Int) (v1 v6 : Int) (v7 v2_0 v2_1 : Int) (v2_2 : List Int) (v4_0 v4_1 : Int) (v5_0 v5_1 : Int) : St := stOf [(1, .c (.int .i64 v1)), (2, .c (.box 2 0)), (4, .c (.box 4 0)), (5, .c (.box 5 0)), (6, .c (.int .i64 v6)), (7, .c (.int .i64 v7))] [(2, (26, [.int .i64 v2_0, .int .i64 v2_1, .sn 3 (.int .i64) v2_2 none])), (4, (26, [.int .i64 v4_0, .int .i64 v4_1, .nil])), (5, (26, [.int .i64 v5_0, .int .i64 v5_1, .own 20000322]))] [(20000322, (⟨3, .int .i64, v5_2, true, false⟩ : Row))]
noncomputable def f79l4 : Clean := ⟨[1, 2, 4, 5, 6, 7], [2, 4, 5], [], [], [(⟨true, 5, 2⟩, 20000322)]⟩
noncomputable def f79s5 (v5_2 : List Int) (v1 v6 : Int) (v7 v8 : Int) (v2_0 v2_1 : Int) (v2_2 : List Int) (v4_0 v4_1 : Int) (v5_0 v5_1 : Int) : St := stOf [(1, .c (.int .i64 v1)), (2, .c (.box 2 0)), (4, .c (.box 4 0)), (5, .c (.box 5 0)), (6, .c (.int .i64 v6)), (7, .c (.int .i64 v7)), (8, .c (.elt 20000322 v8 0))] [(2, (26, [.int .i64 v2_0, .int .i64 v2_1, .sn 3 (.int .i64) v2_2 none])), (4, (26, [.int .i64 v4_0, .int .i64 v4_1, .nil])), (5, (26, [.int .i64 v5_0, .int .i64 v5_1, .own 20000322]))] [(20000322, (⟨3, .int .i64, v5_2, true, false⟩ : Row))]
noncomputable def f79l5 : Clean := ⟨[1, 2, 4, 5, 6, 7, 8], [2, 4, 5], [], [], [(⟨true, 5, 2⟩, 20000322)]⟩
noncomputable def f79s6 (v5_2 : List Int) (v1 v6 : Int) (v7 v8 : Int) (v9 v10 : Int) (v2_0 v2_1 : Int) (v2_2 : List Int) (v4_0 v4_1 : Int) (v5_0 v5_1 : Int) : St := stOf [(1, .c (.int .i64 v1)), (2, .c (.box 2 0)), (4, .c (.box 4 0)), (5, .c (.box 5 0)), (6, .c (.int .i64 v6)), (7, .c (.int .i64 v7)), (8, .c (.elt 20000322 v8 0)), (9, .c (.int .i64 v9)), (10, .c (.int .i64 v10))] [(2, (26, [.int .i64 v2_0, .int .i64 v2_1, .sn 3 (.int .i64) v2_2 none])), (4, (26, [.int .i64 v4_0, .int .i64 v4_1, .nil])), (5, (26, [.int .i64 v5_0, .int .i64 v5_1, .own 20000322]))] [(20000322, (⟨3, .int .i64, v5_2, true, false⟩ : Row))]
noncomputable def f79l6 : Clean := ⟨[1, 2, 4, 5, 6, 7, 8, 9, 10], [2, 4, 5], [], [], [(⟨true, 5, 2⟩, 20000322)]⟩
noncomputable def f79s7 (v5_2 : List Int) (v1 v6 : Int) (v7 v8 : Int) (v9 v10 : Int) (v48 : Bool) (v2_0 v2_1 : Int) (v2_2 : List Int) (v4_0 v4_1 : Int) (v5_0 v5_1 : Int) : St := stOf [(1, .c (.int .i64 v1)), (2, .c (.box 2 0)), (4, .c (.box 4 0)), (5, .c (.box 5 0)), (6, .c (.int .i64 v6)), (7, .c (.int .i64 v7)), (8, .c (.elt 20000322 v8 0)), (9, .c (.int .i64 v9)), (10, .c (.int .i64 v10)), (48, .c (.bool v48))] [(2, (26, [.int .i64 v2_0, .int .i64 v2_1, .sn 3 (.int .i64) v2_2 none])), (4, (26, [.int .i64 v4_0, .int .i64 v4_1, .nil])), (5, (26, [.int .i64 v5_0, .int .i64 v5_1, .own 20000322]))] [(20000322, (⟨3, .int .i64, v5_2, true, false⟩ : Row))]
noncomputable def f79l7 : Clean := ⟨[1, 2, 4, 5, 6, 7, 8, 9, 10, 48], [2, 4, 5], [], [], [(⟨true, 5, 2⟩, 20000322)]⟩
noncomputable def f79s8 (v5_2 : List Int) (v4_0 v4_1 : Int) (v5_0 v5_1 : Int) : St := stOf [(4, .c (.box 4 0)), (5, .c (.box 5 0))] [(4, (26, [.int .i64 v4_0, .int .i64 v4_1, .nil])), (5, (26, [.int .i64 v5_0, .int .i64 v5_1, .own 20000322]))] [(20000322, (⟨3, .int .i64, v5_2, true, false⟩ : Row))]
noncomputable def f79l8 : Clean := ⟨[4, 5], [4, 5], [], [], [(⟨true, 5, 2⟩, 20000322)]⟩
noncomputable def f79s9 (v4_2 : List Int) (v4_0 v4_1 : Int) : St := stOf [(4, .c (.box 4 0))] [(4, (26, [.int .i64 v4_0, .int .i64 v4_1, .own 20000258]))] [(20000258, (⟨3, .int .i64, v4_2, true, false⟩ : Row))]
noncomputable def f79l9 : Clean := ⟨[4], [4], [], [], [(⟨true, 4, 2⟩, 20000258)]⟩
noncomputable def f79B : Nat → Option Clean := lookL [(4, f79l4), (3, f79l4), (2, f79l3), (1, f79l3), (0, f79l8), (1000000, f79l9)]
noncomputable abbrev f79i {ρ : Type} (N : Nat) (c : Code) (p : Plan) (σ : St) (K : KT ρ) : Option ρ := iCode f79G tab f79B N c p σ K
noncomputable def f79c1 := codeAt (bodyOf Try.f79) [0]
theorem f79t1 {ρ : Type} (N : Nat) (v0 : Int × Int × List Int) (v1 : Int) (K : KT ρ) : f79i N f79c1 .n (f79s0 v0 v1) (joinK (some f79l1) K) =
  impl_mutated.Z1 N v0 v1 (fun v1 v2_0 v2_1 v2_2 v4_0 v4_1 => K .nrm (f79s1 v1 v2_0 v2_1 v2_2 v4_0 v4_1)) := by kernel_rfl
noncomputable def f79c3 := codeAt (bodyOf Try.f79) [1,0]
theorem f79t3 {ρ : Type} (N : Nat) (v1 v2_0 v2_1 : Int) (v2_2 : List Int) (v4_0 v4_1 : Int) (K : KT ρ) : f79i N f79c3 .n (f79s1 v1 v2_0 v2_1 v2_2 v4_0 v4_1) (joinK (some f79l2) K) =
  impl_mutated.Z3 N v1 v2_0 v2_1 v2_2 v4_0 v4_1 (fun v5_2 v1 v2_0 v2_1 v2_2 v4_0 v4_1 v5_0 v5_1 => K .nrm (f79s2 v5_2 v1 v2_0 v2_1 v2_2 v4_0 v4_1 v5_0 v5_1)) := by kernel_rfl
noncomputable def f79c6 := codeAt (bodyOf Try.f79) [1,1,0,0]
theorem f79t6 {ρ : Type} (N : Nat) (v5_2 : List Int) (v1 v2_0 v2_1 : Int) (v2_2 : List Int) (v4_0 v4_1 : Int) (v5_0 v5_1 : Int) (K : KT ρ) : f79i N f79c6 .n (f79s2 v5_2 v1 v2_0 v2_1 v2_2 v4_0 v4_1 v5_0 v5_1) (joinK (some f79l3) K) =
  impl_mutated.Z6 N v5_2 v1 v2_0 v2_1 v2_2 v4_0 v4_1 v5_0 v5_1 (fun v5_2 v1 v6 v2_0 v2_1 v2_2 v4_0 v4_1 v5_0 v5_1 => K .nrm (f79s3 v5_2 v1 v6 v2_0 v2_1 v2_2 v4_0 v4_1 v5_0 v5_1)) := by kernel_rfl
noncomputable def f79c10 := codeAt (bodyOf Try.f79) [1,1,0,1,0,0,0]
theorem f79t10 {ρ : Type} (N : Nat) (v5_2 : List Int) (v1 v6 : Int) (v2_0 v2_1 : Int) (v2_2 : List Int) (v4_0 v4_1 : Int) (v5_0 v5_1 : Int) (K : KT ρ) : f79i N f79c10 .n (f79s3 v5_2 v1 v6 v2_0 v2_1 v2_2 v4_0 v4_1 v5_0 v5_1) (joinK (some f79l3) K) =
  impl_mutated.Z10 N v5_2 v1 v6 v2_0 v2_1 v2_2 v4_0 v4_1 v5_0 v5_1 (fun v5_2 v1 v6 v2_0 v2_1 v2_2 v4_0 v4_1 v5_0 v5_1 => K .nrm (f79s3 v5_2 v1 v6 v2_0 v2_1 v2_2 v4_0 v4_1 v5_0 v5_1)) (fun v5_2 v4_0 v4_1 v5_0 v5_1 => K (.exit 0) (f79s8 v5_2 v4_0 v4_1 v5_0 v5_1)) := by kernel_rfl
noncomputable def f79c14 := codeAt (bodyOf Try.f79) [1,1,0,1,0,0,1,0,0,0]
theorem f79t14 {ρ : Type} (N : Nat) (v5_2 : List Int) (v1 v6 : Int) (v2_0 v2_1 : Int) (v2_2 : List Int) (v4_0 v4_1 : Int) (v5_0 v5_1 : Int) (K : KT ρ) : f79i N f79c14 .n (f79s3 v5_2 v1 v6 v2_0 v2_1 v2_2 v4_0 v4_1 v5_0 v5_1) (joinK (some f79l4) K) =
  impl_mutated.Z14 N v5_2 v1 v6 v2_0 v2_1 v2_2 v4_0 v4_1 v5_0 v5_1 (fun v5_2 v1 v6 v7 v2_0 v2_1 v2_2 v4_0 v4_1 v5_0 v5_1 => K .nrm (f79s4 v5_2 v1 v6 v7 v2_0 v2_1 v2_2 v4_0 v4_1 v5_0 v5_1)) := by kernel_rfl
noncomputable def f79c18 := codeAt (bodyOf Try.f79) [1,1,0,1,0,0,1,0,0,1,0,0,0]
theorem f79t18 {ρ : Type} (N : Nat) (v5_2 : List Int) (v1 v6 : Int) (v7 v2_0 v2_1 : Int) (v2_2 : List Int) (v4_0 v4_1 : Int) (v5_0 v5_1 : Int) (K : KT ρ) : f79i N f79c18 .n (f79s4 v5_2 v1 v6 v7 v2_0 v2_1 v2_2 v4_0 v4_1 v5_0 v5_1) (joinK (some f79l4) K) =
  impl_mutated.Z18 N v5_2 v1 v6 v7 v2_0 v2_1 v2_2 v4_0 v4_1 v5_0 v5_1 (fun v5_2 v1 v6 v7 v2_0 v2_1 v2_2 v4_0 v4_1 v5_0 v5_1 => K .nrm (f79s4 v5_2 v1 v6 v7 v2_0 v2_1 v2_2 v4_0 v4_1 v5_0 v5_1)) (fun v5_2 v1 v6 v2_0 v2_1 v2_2 v4_0 v4_1 v5_0 v5_1 => K (.exit 2) (f79s3 v5_2 v1 v6 v2_0 v2_1 v2_2 v4_0 v4_1 v5_0 v5_1)) := by kernel_rfl
noncomputable def f79c22 := codeAt (bodyOf Try.f79) [1,1,0,1,0,0,1,0,0,1,0,0,1,0,0,0]
theorem f79t22 {ρ : Type} (N : Nat) (v5_2 : List Int) (v1 v6 : Int) (v7 v2_0 v2_1 : Int) (v2_2 : List Int) (v4_0 v4_1 : Int) (v5_0 v5_1 : Int) (K : KT ρ) : f79i N f79c22 .n (f79s4 v5_2 v1 v6 v7 v2_0 v2_1 v2_2 v4_0 v4_1 v5_0 v5_1) (joinK (some f79l5) K) =
  impl_mutated.Z22 N v5_2 v1 v6 v7 v2_0 v2_1 v2_2 v4_0 v4_1 v5_0 v5_1 (fun v5_2 v1 v6 v7 v8 v2_0 v2_1 v2_2 v4_0 v4_1 v5_0 v5_1 => K .nrm (f79s5 v5_2 v1 v6 v7 v8 v2_0 v2_1 v2_2 v4_0 v4_1 v5_0 v5_1)) := by kernel_rfl
noncomputable def f79c24 := codeAt (bodyOf Try.f79) [1,1,0,1,0,0,1,0,0,1,0,0,1,0,0,1,0]
theorem f79t24 {ρ : Type} (N : Nat) (v5_2 : List Int) (v1 v6 : Int) (v7 v8 : Int) (v2_0 v2_1 : Int) (v2_2 : List Int) (v4_0 v4_1 : Int) (v5_0 v5_1 : Int) (K : KT ρ) : f79i N f79c24 .n (f79s5 v5_2 v1 v6 v7 v8 v2_0 v2_1 v2_2 v4_0 v4_1 v5_0 v5_1) (joinK (some f79l6) K) =
  impl_mutated.Z24 N v5_2 v1 v6 v7 v8 v2_0 v2_1 v2_2 v4_0 v4_1 v5_0 v5_1 (fun v5_2 v1 v6 v7 v8 v9 v10 v2_0 v2_1 v2_2 v4_0 v4_1 v5_0 v5_1 => K .nrm (f79s6 v5_2 v1 v6 v7 v8 v9 v10 v2_0 v2_1 v2_2 v4_0 v4_1 v5_0 v5_1)) := by kernel_rfl
noncomputable def f79c27 := codeAt (bodyOf Try.f79) [1,1,0,1,0,0,1,0,0,1,0,0,1,0,0,1,1,0,0]
theorem f79t27 {ρ : Type} (N : Nat) (v5_2 : List Int) (v1 v6 : Int) (v7 v8 : Int) (v9 v10 : Int) (v2_0 v2_1 : Int) (v2_2 : List Int) (v4_0 v4_1 : Int) (v5_0 v5_1 : Int) (K : KT ρ) : f79i N f79c27 .n (f79s6 v5_2 v1 v6 v7 v8 v9 v10 v2_0 v2_1 v2_2 v4_0 v4_1 v5_0 v5_1) (joinK (some f79l7) K) =
  impl_mutated.Z27 N v5_2 v1 v6 v7 v8 v9 v10 v2_0 v2_1 v2_2 v4_0 v4_1 v5_0 v5_1 (fun v5_2 v1 v6 v7 v8 v9 v10 v48 v2_0 v2_1 v2_2 v4_0 v4_1 v5_0 v5_1 => K .nrm (f79s7 v5_2 v1 v6 v7 v8 v9 v10 v48 v2_0 v2_1 v2_2 v4_0 v4_1 v5_0 v5_1)) := by kernel_rfl
noncomputable def f79c28 := codeAt (bodyOf Try.f79) [1,1,0,1,0,0,1,0,0,1,0,0,1,0,0,1,1,0,1]
theorem f79t28 {ρ : Type} (N : Nat) (v5_2 : List Int) (v1 v6 : Int) (v7 v8 : Int) (v9 v10 : Int) (v48 : Bool) (v2_0 v2_1 : Int) (v2_2 : List Int) (v4_0 v4_1 : Int) (v5_0 v5_1 : Int) (K : KT ρ) : f79i N f79c28 .n (f79s7 v5_2 v1 v6 v7 v8 v9 v10 v48 v2_0 v2_1 v2_2 v4_0 v4_1 v5_0 v5_1) (joinK (some f79l4) K) =
  impl_mutated.Z28 N v5_2 v1 v6 v7 v8 v9 v10 v48 v2_0 v2_1 v2_2 v4_0 v4_1 v5_0 v5_1 (fun v5_2 v1 v6 v7 v2_0 v2_1 v2_2 v4_0 v4_1 v5_0 v5_1 => K .nrm (f79s4 v5_2 v1 v6 v7 v2_0 v2_1 v2_2 v4_0 v4_1 v5_0 v5_1)) := by kernel_rfl
noncomputable def f79c26 := codeAt (bodyOf Try.f79) [1,1,0,1,0,0,1,0,0,1,0,0,1,0,0,1,1,0]
noncomputable def f79p26 : Plan := .mk (some f79l7) none .n .n
theorem f79t26 {ρ : Type} (N : Nat) (v5_2 : List Int) (v1 v6 : Int) (v7 v8 : Int) (v9 v10 : Int) (v2_0 v2_1 : Int) (v2_2 : List Int) (v4_0 v4_1 : Int) (v5_0 v5_1 : Int) (K : KT ρ) : f79i N f79c26 f79p26 (f79s6 v5_2 v1 v6 v7 v8 v9 v10 v2_0 v2_1 v2_2 v4_0 v4_1 v5_0 v5_1) (joinK (some f79l4) K) =
  impl_mutated.Z26 N v5_2 v1 v6 v7 v8 v9 v10 v2_0 v2_1 v2_2 v4_0 v4_1 v5_0 v5_1 (fun v5_2 v1 v6 v7 v2_0 v2_1 v2_2 v4_0 v4_1 v5_0 v5_1 => K .nrm (f79s4 v5_2 v1 v6 v7 v2_0 v2_1 v2_2 v4_0 v4_1 v5_0 v5_1)) :=
  viaSeq (fun k => impl_mutated.Z27 N v5_2 v1 v6 v7 v8 v9 v10 v2_0 v2_1 v2_2 v4_0 v4_1 v5_0 v5_1 k) (by kernel_rfl) (by kernel_rfl) (f79t27 N v5_2 v1 v6 v7 v8 v9 v10 v2_0 v2_1 v2_2 v4_0 v4_1 v5_0 v5_1 (seqK (fun σ => f79i N f79c28 .n σ (joinK (some f79l4) K)) (joinK (some f79l4) K))) (funext fun v5_2 => funext fun v1 => funext fun v6 => funext fun v7 => funext fun v8 => funext fun v9 => funext fun v10 => funext fun v48 => funext fun v2_0 => funext fun v2_1 => funext fun v2_2 => funext fun v4_0 => funext fun v4_1 => funext fun v5_0 => funext fun v5_1 => f79t28 N v5_2 v1 v6 v7 v8 v9 v10 v48 v2_0 v2_1 v2_2 v4_0 v4_1 v5_0 v5_1 K) (by kernel_rfl) (by kernel_rfl)
noncomputable def f79c25 := codeAt (bodyOf Try.f79) [1,1,0,1,0,0,1,0,0,1,0,0,1,0,0,1,1]
noncomputable def f79p25 : Plan := .mk (some f79l4) none f79p26 .n
theorem f79t25 {ρ : Type} (N : Nat) (v5_2 : List Int) (v1 v6 : Int) (v7 v8 : Int) (v9 v10 : Int) (v2_0 v2_1 : Int) (v2_2 : List Int) (v4_0 v4_1 : Int) (v5_0 v5_1 : Int) (K : KT ρ) : f79i N f79c25 f79p25 (f79s6 v5_2 v1 v6 v7 v8 v9 v10 v2_0 v2_1 v2_2 v4_0 v4_1 v5_0 v5_1) (joinK (some f79l4) K) =
  impl_mutated.Z25 N v5_2 v1 v6 v7 v8 v9 v10 v2_0 v2_1 v2_2 v4_0 v4_1 v5_0 v5_1 (fun v5_2 v1 v6 v7 v2_0 v2_1 v2_2 v4_0 v4_1 v5_0 v5_1 => K .nrm (f79s4 v5_2 v1 v6 v7 v2_0 v2_1 v2_2 v4_0 v4_1 v5_0 v5_1)) :=
  viaBlock (by kernel_rfl) (by kernel_rfl) (f79t26 N v5_2 v1 v6 v7 v8 v9 v10 v2_0 v2_1 v2_2 v4_0 v4_1 v5_0 v5_1 (blockK 4 (joinK (some f79l4) K))) (by kernel_rfl)
noncomputable def f79c23 := codeAt (bodyOf Try.f79) [1,1,0,1,0,0,1,0,0,1,0,0,1,0,0,1]
noncomputable def f79p23 : Plan := .mk (some f79l6) none .n f79p25
theorem f79t23 {ρ : Type} (N : Nat) (v5_2 : List Int) (v1 v6 : Int) (v7 v8 : Int) (v2_0 v2_1 : Int) (v2_2 : List Int) (v4_0 v4_1 : Int) (v5_0 v5_1 : Int) (K : KT ρ) : f79i N f79c23 f79p23 (f79s5 v5_2 v1 v6 v7 v8 v2_0 v2_1 v2_2 v4_0 v4_1 v5_0 v5_1) (joinK (some f79l4) K) =
  impl_mutated.Z23 N v5_2 v1 v6 v7 v8 v2_0 v2_1 v2_2 v4_0 v4_1 v5_0 v5_1 (fun v5_2 v1 v6 v7 v2_0 v2_1 v2_2 v4_0 v4_1 v5_0 v5_1 => K .nrm (f79s4 v5_2 v1 v6 v7 v2_0 v2_1 v2_2 v4_0 v4_1 v5_0 v5_1)) :=
  viaSeq (fun k => impl_mutated.Z24 N v5_2 v1 v6 v7 v8 v2_0 v2_1 v2_2 v4_0 v4_1 v5_0 v5_1 k) (by kernel_rfl) (by kernel_rfl) (f79t24 N v5_2 v1 v6 v7 v8 v2_0 v2_1 v2_2 v4_0 v4_1 v5_0 v5_1 (seqK (fun σ => f79i N f79c25 f79p25 σ (joinK (some f79l4) K)) (joinK (some f79l4) K))) (funext fun v5_2 => funext fun v1 => funext fun v6 => funext fun v7 => funext fun v8 => funext fun v9 => funext fun v10 => funext fun v2_0 => funext fun v2_1 => funext fun v2_2 => funext fun v4_0 => funext fun v4_1 => funext fun v5_0 => funext fun v5_1 => f79t25 N v5_2 v1 v6 v7 v8 v9 v10 v2_0 v2_1 v2_2 v4_0 v4_1 v5_0 v5_1 K) (by kernel_rfl) (by kernel_rfl)
noncomputable def f79c21 := codeAt (bodyOf Try.f79) [1,1,0,1,0,0,1,0,0,1,0,0,1,0,0]
noncomputable def f79p21 : Plan := .mk (some f79l5) none .n f79p23
theorem f79t21 {ρ : Type} (N : Nat) (v5_2 : List Int) (v1 v6 : Int) (v7 v2_0 v2_1 : Int) (v2_2 : List Int) (v4_0 v4_1 : Int) (v5_0 v5_1 : Int) (K : KT ρ) : f79i N f79c21 f79p21 (f79s4 v5_2 v1 v6 v7 v2_0 v2_1 v2_2 v4_0 v4_1 v5_0 v5_1) (joinK (some f79l4) K) =
  impl_mutated.Z21 N v5_2 v1 v6 v7 v2_0 v2_1 v2_2 v4_0 v4_1 v5_0 v5_1 (fun v5_2 v1 v6 v7 v2_0 v2_1 v2_2 v4_0 v4_1 v5_0 v5_1 => K .nrm (f79s4 v5_2 v1 v6 v7 v2_0 v2_1 v2_2 v4_0 v4_1 v5_0 v5_1)) :=
  viaSeq (fun k => impl_mutated.Z22 N v5_2 v1 v6 v7 v2_0 v2_1 v2_2 v4_0 v4_1 v5_0 v5_1 k) (by kernel_rfl) (by kernel_rfl) (f79t22 N v5_2 v1 v6 v7 v2_0 v2_1 v2_2 v4_0 v4_1 v5_0 v5_1 (seqK (fun σ => f79i N f79c23 f79p23 σ (joinK (some f79l4) K)) (joinK (some f79l4) K))) (funext fun v5_2 => funext fun v1 => funext fun v6 => funext fun v7 => funext fun v8 => funext fun v2_0 => funext fun v2_1 => funext fun v2_2 => funext fun v4_0 => funext fun v4_1 => funext fun v5_0 => funext fun v5_1 => f79t23 N v5_2 v1 v6 v7 v8 v2_0 v2_1 v2_2 v4_0 v4_1 v5_0 v5_1 K) (by kernel_rfl) (by kernel_rfl)
noncomputable def f79c20 := codeAt (bodyOf Try.f79) [1,1,0,1,0,0,1,0,0,1,0,0,1,0]
noncomputable def f79p20 : Plan := .mk (some f79l4) none f79p21 .n
theorem f79t20 {ρ : Type} (N : Nat) (v5_2 : List Int) (v1 v6 : Int) (v7 v2_0 v2_1 : Int) (v2_2 : List Int) (v4_0 v4_1 : Int) (v5_0 v5_1 : Int) (K : KT ρ) : f79i N f79c20 f79p20 (f79s4 v5_2 v1 v6 v7 v2_0 v2_1 v2_2 v4_0 v4_1 v5_0 v5_1) (joinK (some f79l4) K) =
  impl_mutated.Z20 N v5_2 v1 v6 v7 v2_0 v2_1 v2_2 v4_0 v4_1 v5_0 v5_1 (fun v5_2 v1 v6 v7 v2_0 v2_1 v2_2 v4_0 v4_1 v5_0 v5_1 => K .nrm (f79s4 v5_2 v1 v6 v7 v2_0 v2_1 v2_2 v4_0 v4_1 v5_0 v5_1)) :=
  viaBlock (by kernel_rfl) (by kernel_rfl) (f79t21 N v5_2 v1 v6 v7 v2_0 v2_1 v2_2 v4_0 v4_1 v5_0 v5_1 (blockK 3 (joinK (some f79l4) K))) (by kernel_rfl)
noncomputable def f79c29 := codeAt (bodyOf Try.f79) [1,1,0,1,0,0,1,0,0,1,0,0,1,1]
theorem f79t29 {ρ : Type} (N : Nat) (v5_2 : List Int) (v1 v6 : Int) (v7 v2_0 v2_1 : Int) (v2_2 : List Int) (v4_0 v4_1 : Int) (v5_0 v5_1 : Int) (K : KT ρ) : f79i N f79c29 .n (f79s4 v5_2 v1 v6 v7 v2_0 v2_1 v2_2 v4_0 v4_1 v5_0 v5_1) (joinK (some f79l4) K) =
  impl_mutated.Z29 N v5_2 v1 v6 v7 v2_0 v2_1 v2_2 v4_0 v4_1 v5_0 v5_1 (fun v5_2 v1 v6 v7 v2_0 v2_1 v2_2 v4_0 v4_1 v5_0 v5_1 => K .nrm (f79s4 v5_2 v1 v6 v7 v2_0 v2_1 v2_2 v4_0 v4_1 v5_0 v5_1)) := by kernel_rfl
noncomputable def f79c19 := codeAt (bodyOf Try.f79) [1,1,0,1,0,0,1,0,0,1,0,0,1]
noncomputable def f79p19 : Plan := .mk (some f79l4) none f79p20 .n
theorem f79t19 {ρ : Type} (N : Nat) (v5_2 : List Int) (v1 v6 : Int) (v7 v2_0 v2_1 : Int) (v2_2 : List Int) (v4_0 v4_1 : Int) (v5_0 v5_1 : Int) (K : KT ρ) : f79i N f79c19 f79p19 (f79s4 v5_2 v1 v6 v7 v2_0 v2_1 v2_2 v4_0 v4_1 v5_0 v5_1) (joinK (some f79l4) K) =
  impl_mutated.Z19 N v5_2 v1 v6 v7 v2_0 v2_1 v2_2 v4_0 v4_1 v5_0 v5_1 (fun v5_2 v1 v6 v7 v2_0 v2_1 v2_2 v4_0 v4_1 v5_0 v5_1 => K .nrm (f79s4 v5_2 v1 v6 v7 v2_0 v2_1 v2_2 v4_0 v4_1 v5_0 v5_1)) :=
  viaSeq (fun k => impl_mutated.Z20 N v5_2 v1 v6 v7 v2_0 v2_1 v2_2 v4_0 v4_1 v5_0 v5_1 k) (by kernel_rfl) (by kernel_rfl) (f79t20 N v5_2 v1 v6 v7 v2_0 v2_1 v2_2 v4_0 v4_1 v5_0 v5_1 (seqK (fun σ => f79i N f79c29 .n σ (joinK (some f79l4) K)) (joinK (some f79l4) K))) (funext fun v5_2 => funext fun v1 => funext fun v6 => funext fun v7 => funext fun v2_0 => funext fun v2_1 => funext fun v2_2 => funext fun v4_0 => funext fun v4_1 => funext fun v5_0 => funext fun v5_1 => f79t29 N v5_2 v1 v6 v7 v2_0 v2_1 v2_2 v4_0 v4_1 v5_0 v5_1 K) (by kernel_rfl) (by kernel_rfl)
noncomputable def f79c17 := codeAt (bodyOf Try.f79) [1,1,0,1,0,0,1,0,0,1,0,0]
noncomputable def f79p17 : Plan := .mk (some f79l4) none .n f79p19
theorem f79t17 {ρ : Type} (N : Nat) (v5_2 : List Int) (v1 v6 : Int) (v7 v2_0 v2_1 : Int) (v2_2 : List Int) (v4_0 v4_1 : Int) (v5_0 v5_1 : Int) (K : KT ρ) : f79i N f79c17 f79p17 (f79s4 v5_2 v1 v6 v7 v2_0 v2_1 v2_2 v4_0 v4_1 v5_0 v5_1) (joinK (some f79l4) K) =
  impl_mutated.Z17 N v5_2 v1 v6 v7 v2_0 v2_1 v2_2 v4_0 v4_1 v5_0 v5_1 (fun v5_2 v1 v6 v7 v2_0 v2_1 v2_2 v4_0 v4_1 v5_0 v5_1 => K .nrm (f79s4 v5_2 v1 v6 v7 v2_0 v2_1 v2_2 v4_0 v4_1 v5_0 v5_1)) (fun v5_2 v1 v6 v2_0 v2_1 v2_2 v4_0 v4_1 v5_0 v5_1 => K (.exit 2) (f79s3 v5_2 v1 v6 v2_0 v2_1 v2_2 v4_0 v4_1 v5_0 v5_1)) :=
  viaSeq (fun k => impl_mutated.Z18 N v5_2 v1 v6 v7 v2_0 v2_1 v2_2 v4_0 v4_1 v5_0 v5_1 k (fun v5_2 v1 v6 v2_0 v2_1 v2_2 v4_0 v4_1 v5_0 v5_1 => K (.exit 2) (f79s3 v5_2 v1 v6 v2_0 v2_1 v2_2 v4_0 v4_1 v5_0 v5_1))) (by kernel_rfl) (by kernel_rfl) (f79t18 N v5_2 v1 v6 v7 v2_0 v2_1 v2_2 v4_0 v4_1 v5_0 v5_1 (seqK (fun σ => f79i N f79c19 f79p19 σ (joinK (some f79l4) K)) (joinK (some f79l4) K))) (funext fun v5_2 => funext fun v1 => funext fun v6 => funext fun v7 => funext fun v2_0 => funext fun v2_1 => funext fun v2_2 => funext fun v4_0 => funext fun v4_1 => funext fun v5_0 => funext fun v5_1 => f79t19 N v5_2 v1 v6 v7 v2_0 v2_1 v2_2 v4_0 v4_1 v5_0 v5_1 K) (by kernel_rfl) (by kernel_rfl)
noncomputable def f79c16 := codeAt (bodyOf Try.f79) [1,1,0,1,0,0,1,0,0,1,0]
noncomputable def f79p16 : Plan := .mk none (some f79l4) f79p17 .n
noncomputable abbrev f79w16 {ρ : Type} (N M : Nat) (σ : St) (K : KT ρ) : Option ρ := loopC (fun σ K => f79i N f79c17 f79p17 σ K) f79l4 M σ K
theorem f79t16L {ρ : Type} (N : Nat) (K : KT ρ) : ∀ (M : Nat) (v5_2 : List Int) (v1 v6 : Int) (v7 v2_0 v2_1 : Int) (v2_2 : List Int) (v4_0 v4_1 : Int) (v5_0 v5_1 : Int), f79w16 N M (f79s4 v5_2 v1 v6 v7 v2_0 v2_1 v2_2 v4_0 v4_1 v5_0 v5_1) K =
  impl_mutated.Z16L N (fun v5_2 v1 v6 v2_0 v2_1 v2_2 v4_0 v4_1 v5_0 v5_1 => K (.exit 2) (f79s3 v5_2 v1 v6 v2_0 v2_1 v2_2 v4_0 v4_1 v5_0 v5_1)) M v5_2 v1 v6 v7 v2_0 v2_1 v2_2 v4_0 v4_1 v5_0 v5_1
  | 0, _, _, _, _, _, _, _, _, _, _, _ => rfl
  | M + 1, v5_2, v1, v6, v7, v2_0, v2_1, v2_2, v4_0, v4_1, v5_0, v5_1 => viaRound (fun k => impl_mutated.Z17 N v5_2 v1 v6 v7 v2_0 v2_1 v2_2 v4_0 v4_1 v5_0 v5_1 k (fun v5_2 v1 v6 v2_0 v2_1 v2_2 v4_0 v4_1 v5_0 v5_1 => K (.exit 2) (f79s3 v5_2 v1 v6 v2_0 v2_1 v2_2 v4_0 v4_1 v5_0 v5_1))) (f79t17 N v5_2 v1 v6 v7 v2_0 v2_1 v2_2 v4_0 v4_1 v5_0 v5_1 (seqK (fun σ => f79w16 N M σ K) K)) (funext fun v5_2 => funext fun v1 => funext fun v6 => funext fun v7 => funext fun v2_0 => funext fun v2_1 => funext fun v2_2 => funext fun v4_0 => funext fun v4_1 => funext fun v5_0 => funext fun v5_1 => f79t16L N K M v5_2 v1 v6 v7 v2_0 v2_1 v2_2 v4_0 v4_1 v5_0 v5_1) (by kernel_rfl) (by kernel_rfl)
theorem f79t16 {ρ : Type} (N : Nat) (v5_2 : List Int) (v1 v6 : Int) (v7 v2_0 v2_1 : Int) (v2_2 : List Int) (v4_0 v4_1 : Int) (v5_0 v5_1 : Int) (K : KT ρ) : f79i N f79c16 f79p16 (f79s4 v5_2 v1 v6 v7 v2_0 v2_1 v2_2 v4_0 v4_1 v5_0 v5_1) (joinK (some f79l3) K) =
  impl_mutated.Z16 N v5_2 v1 v6 v7 v2_0 v2_1 v2_2 v4_0 v4_1 v5_0 v5_1 (fun v5_2 v1 v6 v2_0 v2_1 v2_2 v4_0 v4_1 v5_0 v5_1 => K (.exit 2) (f79s3 v5_2 v1 v6 v2_0 v2_1 v2_2 v4_0 v4_1 v5_0 v5_1)) :=
  viaLoop (by kernel_rfl) (by kernel_rfl) (σ' := f79s4 v5_2 v1 v6 v7 v2_0 v2_1 v2_2 v4_0 v4_1 v5_0 v5_1) (by kernel_rfl) (f79t16L N (joinK (some f79l3) K) N v5_2 v1 v6 v7 v2_0 v2_1 v2_2 v4_0 v4_1 v5_0 v5_1) (by kernel_rfl)
noncomputable def f79c15 := codeAt (bodyOf Try.f79) [1,1,0,1,0,0,1,0,0,1]
noncomputable def f79p15 : Plan := .mk (some f79l3) none f79p16 .n
theorem f79t15 {ρ : Type} (N : Nat) (v5_2 : List Int) (v1 v6 : Int) (v7 v2_0 v2_1 : Int) (v2_2 : List Int) (v4_0 v4_1 : Int) (v5_0 v5_1 : Int) (K : KT ρ) : f79i N f79c15 f79p15 (f79s4 v5_2 v1 v6 v7 v2_0 v2_1 v2_2 v4_0 v4_1 v5_0 v5_1) (joinK (some f79l3) K) =
  impl_mutated.Z15 N v5_2 v1 v6 v7 v2_0 v2_1 v2_2 v4_0 v4_1 v5_0 v5_1 (fun v5_2 v1 v6 v2_0 v2_1 v2_2 v4_0 v4_1 v5_0 v5_1 => K .nrm (f79s3 v5_2 v1 v6 v2_0 v2_1 v2_2 v4_0 v4_1 v5_0 v5_1)) :=
  viaBlock (by kernel_rfl) (by kernel_rfl) (f79t16 N v5_2 v1 v6 v7 v2_0 v2_1 v2_2 v4_0 v4_1 v5_0 v5_1 (blockK 2 (joinK (some f79l3) K))) (by kernel_rfl)
noncomputable def f79c13 := codeAt (bodyOf Try.f79) [1,1,0,1,0,0,1,0,0]
noncomputable def f79p13 : Plan := .mk (some f79l4) none .n f79p15
theorem f79t13 {ρ : Type} (N : Nat) (v5_2 : List Int) (v1 v6 : Int) (v2_0 v2_1 : Int) (v2_2 : List Int) (v4_0 v4_1 : Int) (v5_0 v5_1 : Int) (K : KT ρ) : f79i N f79c13 f79p13 (f79s3 v5_2 v1 v6 v2_0 v2_1 v2_2 v4_0 v4_1 v5_0 v5_1) (joinK (some f79l3) K) =
  impl_mutated.Z13 N v5_2 v1 v6 v2_0 v2_1 v2_2 v4_0 v4_1 v5_0 v5_1 (fun v5_2 v1 v6 v2_0 v2_1 v2_2 v4_0 v4_1 v5_0 v5_1 => K .nrm (f79s3 v5_2 v1 v6 v2_0 v2_1 v2_2 v4_0 v4_1 v5_0 v5_1)) :=
  viaSeq (fun k => impl_mutated.Z14 N v5_2 v1 v6 v2_0 v2_1 v2_2 v4_0 v4_1 v5_0 v5_1 k) (by kernel_rfl) (by kernel_rfl) (f79t14 N v5_2 v1 v6 v2_0 v2_1 v2_2 v4_0 v4_1 v5_0 v5_1 (seqK (fun σ => f79i N f79c15 f79p15 σ (joinK (some f79l3) K)) (joinK (some f79l3) K))) (funext fun v5_2 => funext fun v1 => funext fun v6 => funext fun v7 => funext fun v2_0 => funext fun v2_1 => funext fun v2_2 => funext fun v4_0 => funext fun v4_1 => funext fun v5_0 => funext fun v5_1 => f79t15 N v5_2 v1 v6 v7 v2_0 v2_1 v2_2 v4_0 v4_1 v5_0 v5_1 K) (by kernel_rfl) (by kernel_rfl)
noncomputable def f79c12 := codeAt (bodyOf Try.f79) [1,1,0,1,0,0,1,0]
noncomputable def f79p12 : Plan := .mk (some f79l3) none f79p13 .n
theorem f79t12 {ρ : Type} (N : Nat) (v5_2 : List Int) (v1 v6 : Int) (v2_0 v2_1 : Int) (v2_2 : List Int) (v4_0 v4_1 : Int) (v5_0 v5_1 : Int) (K : KT ρ) : f79i N f79c12 f79p12 (f79s3 v5_2 v1 v6 v2_0 v2_1 v2_2 v4_0 v4_1 v5_0 v5_1) (joinK (some f79l3) K) =
  impl_mutated.Z12 N v5_2 v1 v6 v2_0 v2_1 v2_2 v4_0 v4_1 v5_0 v5_1 (fun v5_2 v1 v6 v2_0 v2_1 v2_2 v4_0 v4_1 v5_0 v5_1 => K .nrm (f79s3 v5_2 v1 v6 v2_0 v2_1 v2_2 v4_0 v4_1 v5_0 v5_1)) :=
  viaBlock (by kernel_rfl) (by kernel_rfl) (f79t13 N v5_2 v1 v6 v2_0 v2_1 v2_2 v4_0 v4_1 v5_0 v5_1 (blockK 1 (joinK (some f79l3) K))) (by kernel_rfl)
noncomputable def f79c30 := codeAt (bodyOf Try.f79) [1,1,0,1,0,0,1,1]
theorem f79t30 {ρ : Type} (N : Nat) (v5_2 : List Int) (v1 v6 : Int) (v2_0 v2_1 : Int) (v2_2 : List Int) (v4_0 v4_1 : Int) (v5_0 v5_1 : Int) (K : KT ρ) : f79i N f79c30 .n (f79s3 v5_2 v1 v6 v2_0 v2_1 v2_2 v4_0 v4_1 v5_0 v5_1) (joinK (some f79l3) K) =
  impl_mutated.Z30 N v5_2 v1 v6 v2_0 v2_1 v2_2 v4_0 v4_1 v5_0 v5_1 (fun v5_2 v1 v6 v2_0 v2_1 v2_2 v4_0 v4_1 v5_0 v5_1 => K .nrm (f79s3 v5_2 v1 v6 v2_0 v2_1 v2_2 v4_0 v4_1 v5_0 v5_1)) := by kernel_rfl
noncomputable def f79c11 := codeAt (bodyOf Try.f79) [1,1,0,1,0,0,1]
noncomputable def f79p11 : Plan := .mk (some f79l3) none f79p12 .n
theorem f79t11 {ρ : Type} (N : Nat) (v5_2 : List Int) (v1 v6 : Int) (v2_0 v2_1 : Int) (v2_2 : List Int) (v4_0 v4_1 : Int) (v5_0 v5_1 : Int) (K : KT ρ) : f79i N f79c11 f79p11 (f79s3 v5_2 v1 v6 v2_0 v2_1 v2_2 v4_0 v4_1 v5_0 v5_1) (joinK (some f79l3) K) =
  impl_mutated.Z11 N v5_2 v1 v6 v2_0 v2_1 v2_2 v4_0 v4_1 v5_0 v5_1 (fun v5_2 v1 v6 v2_0 v2_1 v2_2 v4_0 v4_1 v5_0 v5_1 => K .nrm (f79s3 v5_2 v1 v6 v2_0 v2_1 v2_2 v4_0 v4_1 v5_0 v5_1)) :=
  viaSeq (fun k => impl_mutated.Z12 N v5_2 v1 v6 v2_0 v2_1 v2_2 v4_0 v4_1 v5_0 v5_1 k) (by kernel_rfl) (by kernel_rfl) (f79t12 N v5_2 v1 v6 v2_0 v2_1 v2_2 v4_0 v4_1 v5_0 v5_1 (seqK (fun σ => f79i N f79c30 .n σ (joinK (some f79l3) K)) (joinK (some f79l3) K))) (funext fun v5_2 => funext fun v1 => funext fun v6 => funext fun v2_0 => funext fun v2_1 => funext fun v2_2 => funext fun v4_0 => funext fun v4_1 => funext fun v5_0 => funext fun v5_1 => f79t30 N v5_2 v1 v6 v2_0 v2_1 v2_2 v4_0 v4_1 v5_0 v5_1 K) (by kernel_rfl) (by kernel_rfl)
noncomputable def f79c9 := codeAt (bodyOf Try.f79) [1,1,0,1,0,0]
noncomputable def f79p9 : Plan := .mk (some f79l3) none .n f79p11
theorem f79t9 {ρ : Type} (N : Nat) (v5_2 : List Int) (v1 v6 : Int) (v2_0 v2_1 : Int) (v2_2 : List Int) (v4_0 v4_1 : Int) (v5_0 v5_1 : Int) (K : KT ρ) : f79i N f79c9 f79p9 (f79s3 v5_2 v1 v6 v2_0 v2_1 v2_2 v4_0 v4_1 v5_0 v5_1) (joinK (some f79l3) K) =
  impl_mutated.Z9 N v5_2 v1 v6 v2_0 v2_1 v2_2 v4_0 v4_1 v5_0 v5_1 (fun v5_2 v1 v6 v2_0 v2_1 v2_2 v4_0 v4_1 v5_0 v5_1 => K .nrm (f79s3 v5_2 v1 v6 v2_0 v2_1 v2_2 v4_0 v4_1 v5_0 v5_1)) (fun v5_2 v4_0 v4_1 v5_0 v5_1 => K (.exit 0) (f79s8 v5_2 v4_0 v4_1 v5_0 v5_1)) :=
  viaSeq (fun k => impl_mutated.Z10 N v5_2 v1 v6 v2_0 v2_1 v2_2 v4_0 v4_1 v5_0 v5_1 k (fun v5_2 v4_0 v4_1 v5_0 v5_1 => K (.exit 0) (f79s8 v5_2 v4_0 v4_1 v5_0 v5_1))) (by kernel_rfl) (by kernel_rfl) (f79t10 N v5_2 v1 v6 v2_0 v2_1 v2_2 v4_0 v4_1 v5_0 v5_1 (seqK (fun σ => f79i N f79c11 f79p11 σ (joinK (some f79l3) K)) (joinK (some f79l3) K))) (funext fun v5_2 => funext fun v1 => funext fun v6 => funext fun v2_0 => funext fun v2_1 => funext fun v2_2 => funext fun v4_0 => funext fun v4_1 => funext fun v5_0 => funext fun v5_1 => f79t11 N v5_2 v1 v6 v2_0 v2_1 v2_2 v4_0 v4_1 v5_0 v5_1 K) (by kernel_rfl) (by kernel_rfl)
noncomputable def f79c8 := codeAt (bodyOf Try.f79) [1,1,0,1,0]
noncomputable def f79p8 : Plan := .mk none (some f79l3) f79p9 .n
noncomputable abbrev f79w8 {ρ : Type} (N M : Nat) (σ : St) (K : KT ρ) : Option ρ := loopC (fun σ K => f79i N f79c9 f79p9 σ K) f79l3 M σ K
theorem f79t8L {ρ : Type} (N : Nat) (K : KT ρ) : ∀ (M : Nat) (v5_2 : List Int) (v1 v6 : Int) (v2_0 v2_1 : Int) (v2_2 : List Int) (v4_0 v4_1 : Int) (v5_0 v5_1 : Int), f79w8 N M (f79s3 v5_2 v1 v6 v2_0 v2_1 v2_2 v4_0 v4_1 v5_0 v5_1) K =
  impl_mutated.Z8L N (fun v5_2 v4_0 v4_1 v5_0 v5_1 => K (.exit 0) (f79s8 v5_2 v4_0 v4_1 v5_0 v5_1)) M v5_2 v1 v6 v2_0 v2_1 v2_2 v4_0 v4_1 v5_0 v5_1
  | 0, _, _, _, _, _, _, _, _, _, _ => rfl
  | M + 1, v5_2, v1, v6, v2_0, v2_1, v2_2, v4_0, v4_1, v5_0, v5_1 => viaRound (fun k => impl_mutated.Z9 N v5_2 v1 v6 v2_0 v2_1 v2_2 v4_0 v4_1 v5_0 v5_1 k (fun v5_2 v4_0 v4_1 v5_0 v5_1 => K (.exit 0) (f79s8 v5_2 v4_0 v4_1 v5_0 v5_1))) (f79t9 N v5_2 v1 v6 v2_0 v2_1 v2_2 v4_0 v4_1 v5_0 v5_1 (seqK (fun σ => f79w8 N M σ K) K)) (funext fun v5_2 => funext fun v1 => funext fun v6 => funext fun v2_0 => funext fun v2_1 => funext fun v2_2 => funext fun v4_0 => funext fun v4_1 => funext fun v5_0 => funext fun v5_1 => f79t8L N K M v5_2 v1 v6 v2_0 v2_1 v2_2 v4_0 v4_1 v5_0 v5_1) (by kernel_rfl) (by kernel_rfl)
theorem f79t8 {ρ : Type} (N : Nat) (v5_2 : List Int) (v1 v6 : Int) (v2_0 v2_1 : Int) (v2_2 : List Int) (v4_0 v4_1 : Int) (v5_0 v5_1 : Int) (K : KT ρ) : f79i N f79c8 f79p8 (f79s3 v5_2 v1 v6 v2_0 v2_1 v2_2 v4_0 v4_1 v5_0 v5_1) (joinK (some f79l8) K) =
  impl_mutated.Z8 N v5_2 v1 v6 v2_0 v2_1 v2_2 v4_0 v4_1 v5_0 v5_1 (fun v5_2 v4_0 v4_1 v5_0 v5_1 => K (.exit 0) (f79s8 v5_2 v4_0 v4_1 v5_0 v5_1)) :=
  viaLoop (by kernel_rfl) (by kernel_rfl) (σ' := f79s3 v5_2 v1 v6 v2_0 v2_1 v2_2 v4_0 v4_1 v5_0 v5_1) (by kernel_rfl) (f79t8L N (joinK (some f79l8) K) N v5_2 v1 v6 v2_0 v2_1 v2_2 v4_0 v4_1 v5_0 v5_1) (by kernel_rfl)
noncomputable def f79c7 := codeAt (bodyOf Try.f79) [1,1,0,1]
noncomputable def f79p7 : Plan := .mk (some f79l8) none f79p8 .n
theorem f79t7 {ρ : Type} (N : Nat) (v5_2 : List Int) (v1 v6 : Int) (v2_0 v2_1 : Int) (v2_2 : List Int) (v4_0 v4_1 : Int) (v5_0 v5_1 : Int) (K : KT ρ) : f79i N f79c7 f79p7 (f79s3 v5_2 v1 v6 v2_0 v2_1 v2_2 v4_0 v4_1 v5_0 v5_1) (joinK (some f79l8) K) =
  impl_mutated.Z7 N v5_2 v1 v6 v2_0 v2_1 v2_2 v4_0 v4_1 v5_0 v5_1 (fun v5_2 v4_0 v4_1 v5_0 v5_1 => K .nrm (f79s8 v5_2 v4_0 v4_1 v5_0 v5_1)) :=
  viaBlock (by kernel_rfl) (by kernel_rfl) (f79t8 N v5_2 v1 v6 v2_0 v2_1 v2_2 v4_0 v4_1 v5_0 v5_1 (blockK 0 (joinK (some f79l8) K))) (by kernel_rfl)
noncomputable def f79c5 := codeAt (bodyOf Try.f79) [1,1,0]
noncomputable def f79p5 : Plan := .mk (some f79l3) none .n f79p7
theorem f79t5 {ρ : Type} (N : Nat) (v5_2 : List Int) (v1 v2_0 v2_1 : Int) (v2_2 : List Int) (v4_0 v4_1 : Int) (v5_0 v5_1 : Int) (K : KT ρ) : f79i N f79c5 f79p5 (f79s2 v5_2 v1 v2_0 v2_1 v2_2 v4_0 v4_1 v5_0 v5_1) (joinK (some f79l8) K) =
  impl_mutated.Z5 N v5_2 v1 v2_0 v2_1 v2_2 v4_0 v4_1 v5_0 v5_1 (fun v5_2 v4_0 v4_1 v5_0 v5_1 => K .nrm (f79s8 v5_2 v4_0 v4_1 v5_0 v5_1)) :=
  viaSeq (fun k => impl_mutated.Z6 N v5_2 v1 v2_0 v2_1 v2_2 v4_0 v4_1 v5_0 v5_1 k) (by kernel_rfl) (by kernel_rfl) (f79t6 N v5_2 v1 v2_0 v2_1 v2_2 v4_0 v4_1 v5_0 v5_1 (seqK (fun σ => f79i N f79c7 f79p7 σ (joinK (some f79l8) K)) (joinK (some f79l8) K))) (funext fun v5_2 => funext fun v1 => funext fun v6 => funext fun v2_0 => funext fun v2_1 => funext fun v2_2 => funext fun v4_0 => funext fun v4_1 => funext fun v5_0 => funext fun v5_1 => f79t7 N v5_2 v1 v6 v2_0 v2_1 v2_2 v4_0 v4_1 v5_0 v5_1 K) (by kernel_rfl) (by kernel_rfl)
noncomputable def f79c31 := codeAt (bodyOf Try.f79) [1,1,1]
theorem f79t31 {ρ : Type} (N : Nat) (v5_2 : List Int) (v4_0 v4_1 : Int) (v5_0 v5_1 : Int) (K : KT ρ) : f79i N f79c31 .n (f79s8 v5_2 v4_0 v4_1 v5_0 v5_1) (joinK (some f79lE) K) =
  impl_mutated.Z31 N v5_2 v4_0 v4_1 v5_0 v5_1 (fun v4_2 v4_0 v4_1 => K .ret (f79s9 v4_2 v4_0 v4_1)) := by kernel_rfl
noncomputable def f79c4 := codeAt (bodyOf Try.f79) [1,1]
noncomputable def f79p4 : Plan := .mk (some f79l8) none f79p5 .n
theorem f79t4 {ρ : Type} (N : Nat) (v5_2 : List Int) (v1 v2_0 v2_1 : Int) (v2_2 : List Int) (v4_0 v4_1 : Int) (v5_0 v5_1 : Int) (K : KT ρ) : f79i N f79c4 f79p4 (f79s2 v5_2 v1 v2_0 v2_1 v2_2 v4_0 v4_1 v5_0 v5_1) (joinK (some f79lE) K) =
  impl_mutated.Z4 N v5_2 v1 v2_0 v2_1 v2_2 v4_0 v4_1 v5_0 v5_1 (fun v4_2 v4_0 v4_1 => K .ret (f79s9 v4_2 v4_0 v4_1)) :=
  viaSeq (fun k => impl_mutated.Z5 N v5_2 v1 v2_0 v2_1 v2_2 v4_0 v4_1 v5_0 v5_1 k) (by kernel_rfl) (by kernel_rfl) (f79t5 N v5_2 v1 v2_0 v2_1 v2_2 v4_0 v4_1 v5_0 v5_1 (seqK (fun σ => f79i N f79c31 .n σ (joinK (some f79lE) K)) (joinK (some f79lE) K))) (funext fun v5_2 => funext fun v4_0 => funext fun v4_1 => funext fun v5_0 => funext fun v5_1 => f79t31 N v5_2 v4_0 v4_1 v5_0 v5_1 K) (by kernel_rfl) (by kernel_rfl)
noncomputable def f79c2 := codeAt (bodyOf Try.f79) [1]
noncomputable def f79p2 : Plan := .mk (some f79l2) none .n f79p4
theorem f79t2 {ρ : Type} (N : Nat) (v1 v2_0 v2_1 : Int) (v2_2 : List Int) (v4_0 v4_1 : Int) (K : KT ρ) : f79i N f79c2 f79p2 (f79s1 v1 v2_0 v2_1 v2_2 v4_0 v4_1) (joinK (some f79lE) K) =
  impl_mutated.Z2 N v1 v2_0 v2_1 v2_2 v4_0 v4_1 (fun v4_2 v4_0 v4_1 => K .ret (f79s9 v4_2 v4_0 v4_1)) :=
  viaSeq (fun k => impl_mutated.Z3 N v1 v2_0 v2_1 v2_2 v4_0 v4_1 k) (by kernel_rfl) (by kernel_rfl) (f79t3 N v1 v2_0 v2_1 v2_2 v4_0 v4_1 (seqK (fun σ => f79i N f79c4 f79p4 σ (joinK (some f79lE) K)) (joinK (some f79lE) K))) (funext fun v5_2 => funext fun v1 => funext fun v2_0 => funext fun v2_1 => funext fun v2_2 => funext fun v4_0 => funext fun v4_1 => funext fun v5_0 => funext fun v5_1 => f79t4 N v5_2 v1 v2_0 v2_1 v2_2 v4_0 v4_1 v5_0 v5_1 K) (by kernel_rfl) (by kernel_rfl)
noncomputable def f79c0 := codeAt (bodyOf Try.f79) []
noncomputable def f79p0 : Plan := .mk (some f79l1) none .n f79p2
theorem f79t0 {ρ : Type} (N : Nat) (v0 : Int × Int × List Int) (v1 : Int) (K : KT ρ) : f79i N f79c0 f79p0 (f79s0 v0 v1) (joinK (some f79lE) K) =
  impl_mutated.Z0 N v0 v1 (fun v4_2 v4_0 v4_1 => K .ret (f79s9 v4_2 v4_0 v4_1)) :=
  viaSeq (fun k => impl_mutated.Z1 N v0 v1 k) (by kernel_rfl) (by kernel_rfl) (f79t1 N v0 v1 (seqK (fun σ => f79i N f79c2 f79p2 σ (joinK (some f79lE) K)) (joinK (some f79lE) K))) (funext fun v1 => funext fun v2_0 => funext fun v2_1 => funext fun v2_2 => funext fun v4_0 => funext fun v4_1 => f79t2 N v1 v2_0 v2_1 v2_2 v4_0 v4_1 K) (by kernel_rfl) (by kernel_rfl)
theorem f79m (N : Nat) (v0 : Int × Int × List Int) (v1 : Int) : f79i N f79c0 f79p0 (f79s0 v0 v1) (joinK (some f79lE) (finK tab f79sig Try.f79.results.toList)) = impl_mutated.Z0 N v0 v1 (fun v4_2 v4_0 v4_1 => some ((), ((v4_0, (v4_1, v4_2)), ()))) :=
  (f79t0 N v0 v1 (finK tab f79sig Try.f79.results.toList)).trans (by kernel_rfl)
theorem f79ok (h : impl_mutated.Spec) : EntryOk Try.prog 79 e79 :=
  entry_of_code (sig := f79sig) (c := f79c0) (pl := f79p0) (je := (some f79lE)) (B := f79B) Try.func79 (by kernel_rfl) (by kernel_rfl) (by kernel_rfl) tabOk f79GOk (by kernel_rfl) (by kernel_rfl) (by kernel_rfl) (by kernel_rfl) fun X hb hp => by
    obtain ⟨v0, v1, _⟩ := X
    obtain ⟨N, h⟩ := h v0 v1 hb.1 hp
    exact ⟨N, (f79m N v0 v1).trans (h N (Nat.le_refl N))⟩
theorem e79ok : EntryOk Try.prog 79 e79 := f79ok impl_mutated.ok
end Go.Fw
set_option linter.unusedVariables false
set_option linter.unusedSimpArgs false
set_option maxRecDepth 100000
namespace Go.Fw
open Go.Proofs
/-! ### loop.example/g03115/impl.MutateMatrix -/
noncomputable def f40sig : Sig := ⟨[⟨.pair (.int .i64) (.pair (.int .i64) (.sl 3 (.int .i64))), true, false⟩, ⟨.int .i64, false, false⟩], [⟨.pair (.int .i64) (.pair (.int .i64) (.sl 3 (.int .i64))), true, false⟩, ⟨.bool, false, false⟩]⟩
noncomputable def e40 : Entry := ⟨f40sig, none, fun X => ((), ((impl_MutateMatrix.g X.1 X.2.1).1, ((impl_MutateMatrix.g X.1 X.2.1).2, ())))⟩
noncomputable def f40G : Nat → Option Entry := addG (addG (addG (fun _ => none) 61 e61) 65 e65) 79 e79
theorem f40GOk : GOk Try.prog f40G := (((GOk.nil).add e61ok (by kernel_rfl)).add e65ok (by kernel_rfl)).add e79ok (by kernel_rfl)
noncomputable def f40lE : Clean := ⟨[], [], [], [], []⟩
noncomputable def f40s0 (v0 : Int × Int × List Int) (v1 : Int) : St := initSt f40sig.ps (v0, (v1, ()))
noncomputable def f40s1 (v4_2 : List Int) (v5 : Bool) (v4_0 v4_1 : Int) : St := stOf [(4, .c (.box 4 0)), (5, .c (.bool v5))] [(4, (26, [.int .i64 v4_0, .int .i64 v4_1, .own 20000258]))] [(20000258, (⟨3, .int .i64, v4_2, true, false⟩ : Row))]
noncomputable def f40l1 : Clean := ⟨[4, 5], [4], [⟨⟨true, 4, 2⟩, 30000000, 3, .int .i64, true⟩], [], [(⟨true, 4, 2⟩, 20000258)]⟩
noncomputable def f40B : Nat → Option Clean := lookL [(1000000, f40l1)]
noncomputable abbrev f40i {ρ : Type} (N : Nat) (c : Code) (p : Plan) (σ : St) (K : KT ρ) : Option ρ := iCode f40G tab f40B N c p σ K
noncomputable def f40c0 := codeAt (bodyOf Try.f40) []
theorem f40t0 {ρ : Type} (N : Nat) (v0 : Int × Int × List Int) (v1 : Int) (K : KT ρ) : f40i N f40c0 .n (f40s0 v0 v1) (joinK (some f40lE) K) =
  impl_MutateMatrix.Z0 N v0 v1 (fun v4_2 v5 v4_0 v4_1 => K .ret (f40s1 v4_2 v5 v4_0 v4_1)) := by kernel_rfl
theorem f40m (N : Nat) (v0 : Int × Int × List Int) (v1 : Int) : f40i N f40c0 .n (f40s0 v0 v1) (joinK (some f40lE) (finK tab f40sig Try.f40.results.toList)) = impl_MutateMatrix.Z0 N v0 v1 (fun v4_2 v5 v4_0 v4_1 => some ((), ((v4_0, (v4_1, v4_2)), (v5, ())))) :=
  (f40t0 N v0 v1 (finK tab f40sig Try.f40.results.toList)).trans (by kernel_rfl)
theorem f40ok (h : impl_MutateMatrix.Spec) : EntryOk Try.prog 40 e40 :=
  entry_of_code (sig := f40sig) (c := f40c0) (pl := .n) (je := (some f40lE)) (B := f40B) Try.func40 (by kernel_rfl) (by kernel_rfl) (by kernel_rfl) tabOk f40GOk (by kernel_rfl) (by kernel_rfl) (by kernel_rfl) (by kernel_rfl) fun X hb hp => by
    obtain ⟨v0, v1, _⟩ := X
    obtain ⟨N, h⟩ := h v0 v1 hb.1
    exact ⟨N, (f40m N v0 v1).trans (h N (Nat.le_refl N))⟩
theorem e40ok : EntryOk Try.prog 40 e40 := f40ok impl_MutateMatrix.ok
end Go.Fw
set_option linter.unusedVariables false
set_option linter.unusedSimpArgs false
set_option maxRecDepth 100000
namespace Go.Fw
open Go.Proofs
/-! ### loop.example/g03115/impl.walk -/
noncomputable def f57sig : Sig := ⟨[⟨.pair (.int .i64) (.pair (.int .i64) (.sl 3 (.int .i64))), true, false⟩, ⟨.sl 3 (.int .i64), false, false⟩], [⟨.sl 26 (.pair (.int .i64) (.pair (.int .i64) (.sl 3 (.int .i64)))), false, false⟩, ⟨.bool, false, false⟩]⟩
noncomputable def e57 : Entry := ⟨f57sig, none, fun X => ((), ((impl_walk.g X.1 X.2.1).1, ((impl_walk.g X.1 X.2.1).2, ())))⟩
noncomputable def f57G : Nat → Option Entry := addG (addG (fun _ => none) 30 e30) 40 e40
theorem f57GOk : GOk Try.prog f57G := ((GOk.nil).add e30ok (by kernel_rfl)).add e40ok (by kernel_rfl)
noncomputable def f57lE : Clean := ⟨[], [], [], [], []⟩
noncomputable def f57s0 (v0 : Int × Int × List Int) (v1 : List Int) : St := initSt f57sig.ps (v0, (v1, ()))
noncomputable def f57s1 (v1 : List Int) (v2_0 v2_1 : Int) (v2_2 : List Int) : St := stOf [(1, .c (.sn 3 (.int .i64) v1 none)), (2, .c (.box 2 0))] [(2, (26, [.int .i64 v2_0, .int .i64 v2_1, .sn 3 (.int .i64) v2_2 none]))] []
noncomputable def f57l1 : Clean := ⟨[1, 2], [2], [], [], []⟩
noncomputable def f57s2 (v6_2 v1 : List Int) (v7 : Bool) (v6_0 v6_1 : Int) : St := stOf [(1, .c (.sn 3 (.int .i64) v1 none)), (6, .c (.box 6 0)), (7, .c (.bool v7))] [(6, (26, [.int .i64 v6_0, .int .i64 v6_1, .own 20000386]))] [(20000386, (⟨3, .int .i64, v6_2, true, false⟩ : Row))]
noncomputable def f57l2 : Clean := ⟨[1, 6, 7], [6], [], [], [(⟨true, 6, 2⟩, 20000386)]⟩
noncomputable def f57s3 (v6_2 v1 : List Int) (v6_0 v6_1 : Int) : St := stOf [(1, .c (.sn 3 (.int .i64) v1 none)), (6, .c (.box 6 0))] [(6, (26, [.int .i64 v6_0, .int .i64 v6_1, .own 20000386]))] [(20000386, (⟨3, .int .i64, v6_2, true, false⟩ : Row))]
noncomputable def f57l3 : Clean := ⟨[1, 6], [6], [], [], [(⟨true, 6, 2⟩, 20000386)]⟩
noncomputable def f57s4 (v8 : List (Int × Int × List Int)) (v1 : List Int) (v6_0 v6_1 : Int) (v6_2 : List Int) : St := stOf [(1, .c (.sn 3 (.int .i64) v1 none)), (6, .c (.box 6 0)), (8, .c (.own 1000512))] [(6, (26, [.int .i64 v6_0, .int .i64 v6_1, .sn 3 (.int .i64) v6_2 (some 1000512)]))] [(1000512, (⟨26, .pair (.int .i64) (.pair (.int .i64) (.sl 3 (.int .i64))), v8, true, false⟩ : Row))]
noncomputable def f57l4 : Clean := ⟨[1, 6, 8], [6], [], [], [(⟨false, 8, 0⟩, 1000512)]⟩
noncomputable def f57s5 (v8 : List (Int × Int × List Int)) (v25 : List Int) (v26 v27 : Int) (v6_0 v6_1 : Int) (v6_2 : List Int) : St := stOf [(6, .c (.box 6 0)), (8, .c (.own 1000512)), (25, .c (.sn 3 (.int .i64) v25 none)), (26, .c (.int .i64 v26)), (27, .c (.int .i64 v27))] [(6, (26, [.int .i64 v6_0, .int .i64 v6_1, .sn 3 (.int .i64) v6_2 (some 1000512)]))] [(1000512, (⟨26, .pair (.int .i64) (.pair (.int .i64) (.sl 3 (.int .i64))), v8, true, false⟩ : Row))]
noncomputable def f57l5 : Clean := ⟨[6, 8, 25, 26, 27], [6], [], [], [(⟨false, 8, 0⟩, 1000512)]⟩
noncomputable def f57s6 (v8 : List (Int × Int × List Int)) : St := stOf [(8, .c (.own 1000512))] [] [(1000512, (⟨26, .pair (.int .i64) (.pair (.int .i64) (.sl 3 (.int .i64))), v8, true, false⟩ : Row))]
noncomputable def f57l6 : Clean := ⟨[8], [], [], [], [(⟨false, 8, 0⟩, 1000512)]⟩
noncomputable def f57s7 (v4 : List (Int × Int × List Int)) (v5 : Bool) : St := stOf [(4, .c (.own 1000256)), (5, .c (.bool v5))] [] [(1000256, (⟨26, .pair (.int .i64) (.pair (.int .i64) (.sl 3 (.int .i64))), v4, true, false⟩ : Row))]
noncomputable def f57l7 : Clean := ⟨[4, 5], [], [⟨⟨false, 4, 0⟩, 30000000, 26, .pair (.int .i64) (.pair (.int .i64) (.sl 3 (.int .i64))), true⟩], [], [(⟨false, 4, 0⟩, 1000256)]⟩
noncomputable def f57B : Nat → Option Clean := lookL [(0, f57l6), (1000000, f57l7)]
noncomputable abbrev f57i {ρ : Type} (N : Nat) (c : Code) (p : Plan) (σ : St) (K : KT ρ) : Option ρ := iCode f57G tab f57B N c p σ K
noncomputable def f57c1 := codeAt (bodyOf Try.f57) [0]
theorem f57t1 {ρ : Type} (N : Nat) (v0 : Int × Int × List Int) (v1 : List Int) (K : KT ρ) : f57i N f57c1 .n (f57s0 v0 v1) (joinK (some f57l1) K) =
  impl_walk.Z1 N v0 v1 (fun v1 v2_0 v2_1 v2_2 => K .nrm (f57s1 v1 v2_0 v2_1 v2_2)) := by kernel_rfl
noncomputable def f57c3 := codeAt (bodyOf Try.f57) [1,0]
theorem f57t3 {ρ : Type} (N : Nat) (v1 : List Int) (v2_0 v2_1 : Int) (v2_2 : List Int) (K : KT ρ) : f57i N f57c3 .n (f57s1 v1 v2_0 v2_1 v2_2) (joinK (some f57l2) K) =
  impl_walk.Z3 N v1 v2_0 v2_1 v2_2 (fun v6_2 v1 v7 v6_0 v6_1 => K .nrm (f57s2 v6_2 v1 v7 v6_0 v6_1)) := by kernel_rfl
noncomputable def f57c5 := codeAt (bodyOf Try.f57) [1,1,0]
theorem f57t5 {ρ : Type} (N : Nat) (v6_2 v1 : List Int) (v7 : Bool) (v6_0 v6_1 : Int) (K : KT ρ) : f57i N f57c5 .n (f57s2 v6_2 v1 v7 v6_0 v6_1) (joinK (some f57l3) K) =
  impl_walk.Z5 N v6_2 v1 v7 v6_0 v6_1 (fun v6_2 v1 v6_0 v6_1 => K .nrm (f57s3 v6_2 v1 v6_0 v6_1)) (fun v4 v5 => K .ret (f57s7 v4 v5)) := by kernel_rfl
noncomputable def f57c7 := codeAt (bodyOf Try.f57) [1,1,1,0]
theorem f57t7 {ρ : Type} (N : Nat) (v6_2 v1 : List Int) (v6_0 v6_1 : Int) (K : KT ρ) : f57i N f57c7 .n (f57s3 v6_2 v1 v6_0 v6_1) (joinK (some f57l4) K) =
  impl_walk.Z7 N v6_2 v1 v6_0 v6_1 (fun v8 v1 v6_0 v6_1 v6_2 => K .nrm (f57s4 v8 v1 v6_0 v6_1 v6_2)) := by kernel_rfl
noncomputable def f57c10 := codeAt (bodyOf Try.f57) [1,1,1,1,0,0]
theorem f57t10 {ρ : Type} (N : Nat) (v8 : List (Int × Int × List Int)) (v1 : List Int) (v6_0 v6_1 : Int) (v6_2 : List Int) (K : KT ρ) : f57i N f57c10 .n (f57s4 v8 v1 v6_0 v6_1 v6_2) (joinK (some f57l5) K) =
  impl_walk.Z10 N v8 v1 v6_0 v6_1 v6_2 (fun v8 v25 v26 v27 v6_0 v6_1 v6_2 => K .nrm (f57s5 v8 v25 v26 v27 v6_0 v6_1 v6_2)) := by kernel_rfl
noncomputable def f57c13 := codeAt (bodyOf Try.f57) [1,1,1,1,0,1,0,0]
theorem f57t13 {ρ : Type} (N : Nat) (v8 : List (Int × Int × List Int)) (v25 : List Int) (v26 v27 : Int) (v6_0 v6_1 : Int) (v6_2 : List Int) (K : KT ρ) : f57i N f57c13 .n (f57s5 v8 v25 v26 v27 v6_0 v6_1 v6_2) (joinK (some f57l5) K) =
  impl_walk.Z13 N v8 v25 v26 v27 v6_0 v6_1 v6_2 (fun v8 v25 v26 v27 v6_0 v6_1 v6_2 => K .nrm (f57s5 v8 v25 v26 v27 v6_0 v6_1 v6_2)) (fun v8 => K (.exit 0) (f57s6 v8)) (fun v4 v5 => K .ret (f57s7 v4 v5)) := by kernel_rfl
noncomputable def f57c12 := codeAt (bodyOf Try.f57) [1,1,1,1,0,1,0]
noncomputable def f57p12 : Plan := .mk none (some f57l5) .n .n
noncomputable abbrev f57w12 {ρ : Type} (N M : Nat) (σ : St) (K : KT ρ) : Option ρ := loopC (fun σ K => f57i N f57c13 .n σ K) f57l5 M σ K
theorem f57t12L {ρ : Type} (N : Nat) (K : KT ρ) : ∀ (M : Nat) (v8 : List (Int × Int × List Int)) (v25 : List Int) (v26 v27 : Int) (v6_0 v6_1 : Int) (v6_2 : List Int), f57w12 N M (f57s5 v8 v25 v26 v27 v6_0 v6_1 v6_2) K =
  impl_walk.Z12L N (fun v8 => K (.exit 0) (f57s6 v8)) (fun v4 v5 => K .ret (f57s7 v4 v5)) M v8 v25 v26 v27 v6_0 v6_1 v6_2
  | 0, _, _, _, _, _, _, _ => rfl
  | M + 1, v8, v25, v26, v27, v6_0, v6_1, v6_2 => viaRound (fun k => impl_walk.Z13 N v8 v25 v26 v27 v6_0 v6_1 v6_2 k (fun v8 => K (.exit 0) (f57s6 v8)) (fun v4 v5 => K .ret (f57s7 v4 v5))) (f57t13 N v8 v25 v26 v27 v6_0 v6_1 v6_2 (seqK (fun σ => f57w12 N M σ K) K)) (funext fun v8 => funext fun v25 => funext fun v26 => funext fun v27 => funext fun v6_0 => funext fun v6_1 => funext fun v6_2 => f57t12L N K M v8 v25 v26 v27 v6_0 v6_1 v6_2) (by kernel_rfl) (by kernel_rfl)
theorem f57t12 {ρ : Type} (N : Nat) (v8 : List (Int × Int × List Int)) (v25 : List Int) (v26 v27 : Int) (v6_0 v6_1 : Int) (v6_2 : List Int) (K : KT ρ) : f57i N f57c12 f57p12 (f57s5 v8 v25 v26 v27 v6_0 v6_1 v6_2) (joinK (some f57l6) K) =
  impl_walk.Z12 N v8 v25 v26 v27 v6_0 v6_1 v6_2 (fun v8 => K (.exit 0) (f57s6 v8)) (fun v4 v5 => K .ret (f57s7 v4 v5)) :=
  viaLoop (by kernel_rfl) (by kernel_rfl) (σ' := f57s5 v8 v25 v26 v27 v6_0 v6_1 v6_2) (by kernel_rfl) (f57t12L N (joinK (some f57l6) K) N v8 v25 v26 v27 v6_0 v6_1 v6_2) (by kernel_rfl)
noncomputable def f57c11 := codeAt (bodyOf Try.f57) [1,1,1,1,0,1]
noncomputable def f57p11 : Plan := .mk (some f57l6) none f57p12 .n
theorem f57t11 {ρ : Type} (N : Nat) (v8 : List (Int × Int × List Int)) (v25 : List Int) (v26 v27 : Int) (v6_0 v6_1 : Int) (v6_2 : List Int) (K : KT ρ) : f57i N f57c11 f57p11 (f57s5 v8 v25 v26 v27 v6_0 v6_1 v6_2) (joinK (some f57l6) K) =
  impl_walk.Z11 N v8 v25 v26 v27 v6_0 v6_1 v6_2 (fun v8 => K .nrm (f57s6 v8)) (fun v4 v5 => K .ret (f57s7 v4 v5)) :=
  viaBlock (by kernel_rfl) (by kernel_rfl) (f57t12 N v8 v25 v26 v27 v6_0 v6_1 v6_2 (blockK 0 (joinK (some f57l6) K))) (by kernel_rfl)
noncomputable def f57c9 := codeAt (bodyOf Try.f57) [1,1,1,1,0]
noncomputable def f57p9 : Plan := .mk (some f57l5) none .n f57p11
theorem f57t9 {ρ : Type} (N : Nat) (v8 : List (Int × Int × List Int)) (v1 : List Int) (v6_0 v6_1 : Int) (v6_2 : List Int) (K : KT ρ) : f57i N f57c9 f57p9 (f57s4 v8 v1 v6_0 v6_1 v6_2) (joinK (some f57l6) K) =
  impl_walk.Z9 N v8 v1 v6_0 v6_1 v6_2 (fun v8 => K .nrm (f57s6 v8)) (fun v4 v5 => K .ret (f57s7 v4 v5)) :=
  viaSeq (fun k => impl_walk.Z10 N v8 v1 v6_0 v6_1 v6_2 k) (by kernel_rfl) (by kernel_rfl) (f57t10 N v8 v1 v6_0 v6_1 v6_2 (seqK (fun σ => f57i N f57c11 f57p11 σ (joinK (some f57l6) K)) (joinK (some f57l6) K))) (funext fun v8 => funext fun v25 => funext fun v26 => funext fun v27 => funext fun v6_0 => funext fun v6_1 => funext fun v6_2 => f57t11 N v8 v25 v26 v27 v6_0 v6_1 v6_2 K) (by kernel_rfl) (by kernel_rfl)
noncomputable def f57c14 := codeAt (bodyOf Try.f57) [1,1,1,1,1]
theorem f57t14 {ρ : Type} (N : Nat) (v8 : List (Int × Int × List Int)) (K : KT ρ) : f57i N f57c14 .n (f57s6 v8) (joinK (some f57lE) K) =
  impl_walk.Z14 N v8 (fun v4 v5 => K .ret (f57s7 v4 v5)) := by kernel_rfl
noncomputable def f57c8 := codeAt (bodyOf Try.f57) [1,1,1,1]
noncomputable def f57p8 : Plan := .mk (some f57l6) none f57p9 .n
theorem f57t8 {ρ : Type} (N : Nat) (v8 : List (Int × Int × List Int)) (v1 : List Int) (v6_0 v6_1 : Int) (v6_2 : List Int) (K : KT ρ) : f57i N f57c8 f57p8 (f57s4 v8 v1 v6_0 v6_1 v6_2) (joinK (some f57lE) K) =
  impl_walk.Z8 N v8 v1 v6_0 v6_1 v6_2 (fun v4 v5 => K .ret (f57s7 v4 v5)) :=
  viaSeq (fun k => impl_walk.Z9 N v8 v1 v6_0 v6_1 v6_2 k (fun v4 v5 => K .ret (f57s7 v4 v5))) (by kernel_rfl) (by kernel_rfl) (f57t9 N v8 v1 v6_0 v6_1 v6_2 (seqK (fun σ => f57i N f57c14 .n σ (joinK (some f57lE) K)) (joinK (some f57lE) K))) (funext fun v8 => f57t14 N v8 K) (by kernel_rfl) (by kernel_rfl)
noncomputable def f57c6 := codeAt (bodyOf Try.f57) [1,1,1]
noncomputable def f57p6 : Plan := .mk (some f57l4) none .n f57p8
theorem f57t6 {ρ : Type} (N : Nat) (v6_2 v1 : List Int) (v6_0 v6_1 : Int) (K : KT ρ) : f57i N f57c6 f57p6 (f57s3 v6_2 v1 v6_0 v6_1) (joinK (some f57lE) K) =
  impl_walk.Z6 N v6_2 v1 v6_0 v6_1 (fun v4 v5 => K .ret (f57s7 v4 v5)) :=
  viaSeq (fun k => impl_walk.Z7 N v6_2 v1 v6_0 v6_1 k) (by kernel_rfl) (by kernel_rfl) (f57t7 N v6_2 v1 v6_0 v6_1 (seqK (fun σ => f57i N f57c8 f57p8 σ (joinK (some f57lE) K)) (joinK (some f57lE) K))) (funext fun v8 => funext fun v1 => funext fun v6_0 => funext fun v6_1 => funext fun v6_2 => f57t8 N v8 v1 v6_0 v6_1 v6_2 K) (by kernel_rfl) (by kernel_rfl)
noncomputable def f57c4 := codeAt (bodyOf Try.f57) [1,1]
noncomputable def f57p4 : Plan := .mk (some f57l3) none .n f57p6
theorem f57t4 {ρ : Type} (N : Nat) (v6_2 v1 : List Int) (v7 : Bool) (v6_0 v6_1 : Int) (K : KT ρ) : f57i N f57c4 f57p4 (f57s2 v6_2 v1 v7 v6_0 v6_1) (joinK (some f57lE) K) =
  impl_walk.Z4 N v6_2 v1 v7 v6_0 v6_1 (fun v4 v5 => K .ret (f57s7 v4 v5)) :=
  viaSeq (fun k => impl_walk.Z5 N v6_2 v1 v7 v6_0 v6_1 k (fun v4 v5 => K .ret (f57s7 v4 v5))) (by kernel_rfl) (by kernel_rfl) (f57t5 N v6_2 v1 v7 v6_0 v6_1 (seqK (fun σ => f57i N f57c6 f57p6 σ (joinK (some f57lE) K)) (joinK (some f57lE) K))) (funext fun v6_2 => funext fun v1 => funext fun v6_0 => funext fun v6_1 => f57t6 N v6_2 v1 v6_0 v6_1 K) (by kernel_rfl) (by kernel_rfl)
noncomputable def f57c2 := codeAt (bodyOf Try.f57) [1]
noncomputable def f57p2 : Plan := .mk (some f57l2) none .n f57p4
theorem f57t2 {ρ : Type} (N : Nat) (v1 : List Int) (v2_0 v2_1 : Int) (v2_2 : List Int) (K : KT ρ) : f57i N f57c2 f57p2 (f57s1 v1 v2_0 v2_1 v2_2) (joinK (some f57lE) K) =
  impl_walk.Z2 N v1 v2_0 v2_1 v2_2 (fun v4 v5 => K .ret (f57s7 v4 v5)) :=
  viaSeq (fun k => impl_walk.Z3 N v1 v2_0 v2_1 v2_2 k) (by kernel_rfl) (by kernel_rfl) (f57t3 N v1 v2_0 v2_1 v2_2 (seqK (fun σ => f57i N f57c4 f57p4 σ (joinK (some f57lE) K)) (joinK (some f57lE) K))) (funext fun v6_2 => funext fun v1 => funext fun v7 => funext fun v6_0 => funext fun v6_1 => f57t4 N v6_2 v1 v7 v6_0 v6_1 K) (by kernel_rfl) (by kernel_rfl)
noncomputable def f57c0 := codeAt (bodyOf Try.f57) []
noncomputable def f57p0 : Plan := .mk (some f57l1) none .n f57p2
theorem f57t0 {ρ : Type} (N : Nat) (v0 : Int × Int × List Int) (v1 : List Int) (K : KT ρ) : f57i N f57c0 f57p0 (f57s0 v0 v1) (joinK (some f57lE) K) =
  impl_walk.Z0 N v0 v1 (fun v4 v5 => K .ret (f57s7 v4 v5)) :=
  viaSeq (fun k => impl_walk.Z1 N v0 v1 k) (by kernel_rfl) (by kernel_rfl) (f57t1 N v0 v1 (seqK (fun σ => f57i N f57c2 f57p2 σ (joinK (some f57lE) K)) (joinK (some f57lE) K))) (funext fun v1 => funext fun v2_0 => funext fun v2_1 => funext fun v2_2 => f57t2 N v1 v2_0 v2_1 v2_2 K) (by kernel_rfl) (by kernel_rfl)
theorem f57m (N : Nat) (v0 : Int × Int × List Int) (v1 : List Int) : f57i N f57c0 f57p0 (f57s0 v0 v1) (joinK (some f57lE) (finK tab f57sig Try.f57.results.toList)) = impl_walk.Z0 N v0 v1 (fun v4 v5 => some ((), (v4, (v5, ())))) :=
  (f57t0 N v0 v1 (finK tab f57sig Try.f57.results.toList)).trans (by kernel_rfl)
theorem f57ok (h : impl_walk.Spec) : EntryOk Try.prog 57 e57 :=
  entry_of_code (sig := f57sig) (c := f57c0) (pl := f57p0) (je := (some f57lE)) (B := f57B) Try.func57 (by kernel_rfl) (by kernel_rfl) (by kernel_rfl) tabOk f57GOk (by kernel_rfl) (by kernel_rfl) (by kernel_rfl) (by kernel_rfl) fun X hb hp => by
    obtain ⟨v0, v1, _⟩ := X
    obtain ⟨N, h⟩ := h v0 v1 hb.1 hb.2.1
    exact ⟨N, (f57m N v0 v1).trans (h N (Nat.le_refl N))⟩
theorem e57ok : EntryOk Try.prog 57 e57 := f57ok impl_walk.ok
end Go.Fw
set_option linter.unusedVariables false
set_option linter.unusedSimpArgs false
set_option maxRecDepth 100000
namespace Go.Fw
open Go.Proofs
/-! ### loop.example/g03115/impl.lower -/
noncomputable def f58sig : Sig := ⟨[⟨.pair (.int .i64) (.pair (.int .i64) (.sl 3 (.int .i64))), true, false⟩], [⟨.sl 24 (.sl 3 (.int .i64)), false, false⟩]⟩
noncomputable def e58 : Entry := ⟨f58sig, (some fun X => impl_lower.P X.1), fun X => ((), ((impl_lower.g X.1), ()))⟩
noncomputable def f58G : Nat → Option Entry := addG (fun _ => none) 60 e60
theorem f58GOk : GOk Try.prog f58G := (GOk.nil).add e60ok (by kernel_rfl)
noncomputable def f58lE : Clean := ⟨[], [], [], [], []⟩
noncomputable def f58s0 (v0 : Int × Int × List Int) : St := initSt f58sig.ps (v0, ())
noncomputable def f58s1 (v1_0 v1_1 : Int) (v1_2 : List Int) : St := stOf [(1, .c (.box 1 0))] [(1, (26, [.int .i64 v1_0, .int .i64 v1_1, .sn 3 (.int .i64) v1_2 none]))] []
noncomputable def f58l1 : Clean := ⟨[1], [1], [], [], []⟩
noncomputable def f58s2 (v1_0 v1_1 : Int) (v1_2 : List Int) : St := stOf [(1, .c (.box 1 0)), (3, .c (.nil))] [(1, (26, [.int .i64 v1_0, .int .i64 v1_1, .sn 3 (.int .i64) v1_2 none]))] []
noncomputable def f58l2 : Clean := ⟨[1, 3], [1], [], [], []⟩
noncomputable def f58s3 (v4 v1_0 v1_1 : Int) (v1_2 : List Int) : St := stOf [(1, .c (.box 1 0)), (3, .c (.nil)), (4, .c (.int .i64 v4))] [(1, (26, [.int .i64 v1_0, .int .i64 v1_1, .sn 3 (.int .i64) v1_2 none]))] []
noncomputable def f58l3 : Clean := ⟨[1, 3, 4], [1], [], [], []⟩
noncomputable def f58s8 (v3 : List (List Int)) (v4 v1_0 v1_1 : Int) (v1_2 : List Int) : St := stOf [(1, .c (.box 1 0)), (3, .c (.own 1000192)), (4, .c (.int .i64 v4))] [(1, (26, [.int .i64 v1_0, .int .i64 v1_1, .sn 3 (.int .i64) v1_2 none]))] [(1000192, (⟨24, .sl 3 (.int .i64), v3, true, false⟩ : Row))]
noncomputable def f58l8 : Clean := ⟨[1, 3, 4], [1], [], [], [(⟨false, 3, 0⟩, 1000192)]⟩
noncomputable def f58s9 (v3 : List (List Int)) (v4 v1_0 v1_1 : Int) (v1_2 : List Int) : St := stOf [(1, .c (.box 1 0)), (3, .c (.own 1000192)), (4, .c (.int .i64 v4))] [(1, (26, [.int .i64 v1_0, .int .i64 v1_1, .sn 3 (.int .i64) v1_2 none]))] [(1000192, (⟨24, .sl 3 (.int .i64), v3, true, false⟩ : Row))]
noncomputable def f58l9 : Clean := ⟨[1, 3, 4], [1], [⟨⟨false, 3, 0⟩, 30000000, 24, .sl 3 (.int .i64), true⟩], [], [(⟨false, 3, 0⟩, 1000192)]⟩
noncomputable def f58s10 (v3 : List (List Int)) (v4 v1_0 v1_1 : Int) (v1_2 : List Int) : St := stOf [(1, .c (.box 1 0)), (3, .c (.own 1000192)), (4, .c (.int .i64 v4)), (5, .c (.nil))] [(1, (26, [.int .i64 v1_0, .int .i64 v1_1, .sn 3 (.int .i64) v1_2 none]))] [(1000192, (⟨24, .sl 3 (.int .i64), v3, true, false⟩ : Row))]
noncomputable def f58l10 : Clean := ⟨[1, 3, 4, 5], [1], [], [], [(⟨false, 3, 0⟩, 1000192)]⟩
noncomputable def f58s11 (v3 : List (List Int)) (v4 v6 : Int) (v1_0 v1_1 : Int) (v1_2 : List Int) : St := stOf [(1, .c (.box 1 0)), (3, .c (.own 1000192)), (4, .c (.int .i64 v4)), (5, .c (.nil)), (6, .c (.int .i64 v6))] [(1, (26, [.int .i64 v1_0, .int .i64 v1_1, .sn 3 (.int .i64) v1_2 none]))] [(1000192, (⟨24, .sl 3 (.int .i64), v3, true, false⟩ : Row))]
noncomputable def f58l11 : Clean := ⟨[1, 3, 4, 5, 6], [1], [], [], [(⟨false, 3, 0⟩, 1000192)]⟩
noncomputable def f58s12 (v3 : List (List Int)) (v5 : List Int) (v4 v6 : Int) (v1_0 v1_1 : Int) (v1_2 : List Int) : St := stOf [(1, .c (.box 1 0)), (3, .c (.own 1000192)), (4, .c (.int .i64 v4)), (5, .c (.own 1000320)), (6, .c (.int .i64 v6))] [(1, (26, [.int .i64 v1_0, .int .i64 v1_1, .sn 3 (.int .i64) v1_2 none]))] [(1000192, (⟨24, .sl 3 (.int .i64), v3, true, false⟩ : Row)), (1000320, (⟨3, .int .i64, v5, true, false⟩ : Row))]
noncomputable def f58l12 : Clean := ⟨[1, 3, 4, 5, 6], [1], [⟨⟨false, 5, 0⟩, 30000000, 3, .int .i64, true⟩], [], [(⟨false, 3, 0⟩, 1000192), (⟨false, 5, 0⟩, 1000320)]⟩
noncomputable def f58s13 (v3 : List (List Int)) (v5 : List Int) (v4 v1_0 v1_1 : Int) (v1_2 : List Int) : St := stOf [(1, .c (.box 1 0)), (3, .c (.own 1000192)), (4, .c (.int .i64 v4)), (5, .c (.own 1000320))] [(1, (26, [.int .i64 v1_0, .int .i64 v1_1, .sn 3 (.int .i64) v1_2 none]))] [(1000192, (⟨24, .sl 3 (.int .i64), v3, true, false⟩ : Row)), (1000320, (⟨3, .int .i64, v5, true, false⟩ : Row))]
noncomputable def f58l13 : Clean := ⟨[1, 3, 4, 5], [1], [], [], [(⟨false, 3, 0⟩, 1000192), (⟨false, 5, 0⟩, 1000320)]⟩
noncomputable def f58s14 (v3 : List (List Int)) : St := stOf [(3, .c (.own 1000192))] [] [(1000192, (⟨24, .sl 3 (.int .i64), v3, true, false⟩ : Row))]
noncomputable def f58l14 : Clean := ⟨[3], [], [], [], [(⟨false, 3, 0⟩, 1000192)]⟩
noncomputable def f58s15 (v2 : List (List Int)) : St := stOf [(2, .c (.own 1000128))] [] [(1000128, (⟨24, .sl 3 (.int .i64), v2, true, false⟩ : Row))]
noncomputable def f58l15 : Clean := ⟨[2], [], [], [], [(⟨false, 2, 0⟩, 1000128)]⟩
noncomputable def f58B : Nat → Option Clean := lookL [(2, f58l13), (1, f58l8), (0, f58l14), (1000000, f58l15)]
noncomputable abbrev f58i {ρ : Type} (N : Nat) (c : Code) (p : Plan) (σ : St) (K : KT ρ) : Option ρ := iCode f58G tab f58B N c p σ K
noncomputable def f58c1 := codeAt (bodyOf Try.f58) [0]
theorem f58t1 {ρ : Type} (N : Nat) (v0 : Int × Int × List Int) (K : KT ρ) : f58i N f58c1 .n (f58s0 v0) (joinK (some f58l1) K) =
  impl_lower.Z1 N v0 (fun v1_0 v1_1 v1_2 => K .nrm (f58s1 v1_0 v1_1 v1_2)) := by kernel_rfl
noncomputable def f58c3 := codeAt (bodyOf Try.f58) [1,0]
theorem f58t3 {ρ : Type} (N : Nat) (v1_0 v1_1 : Int) (v1_2 : List Int) (K : KT ρ) : f58i N f58c3 .n (f58s1 v1_0 v1_1 v1_2) (joinK (some f58l2) K) =
  impl_lower.Z3 N v1_0 v1_1 v1_2 (fun v1_0 v1_1 v1_2 => K .nrm (f58s2 v1_0 v1_1 v1_2)) := by kernel_rfl
noncomputable def f58c6 := codeAt (bodyOf Try.f58) [1,1,0,0]
theorem f58t6 {ρ : Type} (N : Nat) (v1_0 v1_1 : Int) (v1_2 : List Int) (K : KT ρ) : f58i N f58c6 .n (f58s2 v1_0 v1_1 v1_2) (joinK (some f58l3) K) =
  impl_lower.Z6 N v1_0 v1_1 v1_2 (fun v4 v1_0 v1_1 v1_2 => K .nrm (f58s3 v4 v1_0 v1_1 v1_2)) := by kernel_rfl
noncomputable def f58c10 := codeAt (bodyOf Try.f58) [1,1,0,1,0,0,0]
theorem f58t10 {ρ : Type} (N : Nat) (v3 : List (List Int)) (v4 v1_0 v1_1 : Int) (v1_2 : List Int) (K : KT ρ) : f58i N f58c10 .n (f58s9 v3 v4 v1_0 v1_1 v1_2) (joinK (some f58l8) K) =
  impl_lower.Z10 N v3 v4 v1_0 v1_1 v1_2 (fun v3 v4 v1_0 v1_1 v1_2 => K .nrm (f58s8 v3 v4 v1_0 v1_1 v1_2)) (fun v3 => K (.exit 0) (f58s14 v3)) := by kernel_rfl
noncomputable def f58c14 := codeAt (bodyOf Try.f58) [1,1,0,1,0,0,1,0,0,0]
theorem f58t14 {ρ : Type} (N : Nat) (v3 : List (List Int)) (v4 v1_0 v1_1 : Int) (v1_2 : List Int) (K : KT ρ) : f58i N f58c14 .n (f58s8 v3 v4 v1_0 v1_1 v1_2) (joinK (some f58l10) K) =
  impl_lower.Z14 N v3 v4 v1_0 v1_1 v1_2 (fun v3 v4 v1_0 v1_1 v1_2 => K .nrm (f58s10 v3 v4 v1_0 v1_1 v1_2)) := by kernel_rfl
noncomputable def f58c17 := codeAt (bodyOf Try.f58) [1,1,0,1,0,0,1,0,0,1,0,0]
theorem f58t17 {ρ : Type} (N : Nat) (v3 : List (List Int)) (v4 v1_0 v1_1 : Int) (v1_2 : List Int) (K : KT ρ) : f58i N f58c17 .n (f58s10 v3 v4 v1_0 v1_1 v1_2) (joinK (some f58l11) K) =
  impl_lower.Z17 N v3 v4 v1_0 v1_1 v1_2 (fun v3 v4 v6 v1_0 v1_1 v1_2 => K .nrm (f58s11 v3 v4 v6 v1_0 v1_1 v1_2)) := by kernel_rfl
noncomputable def f58c20 := codeAt (bodyOf Try.f58) [1,1,0,1,0,0,1,0,0,1,0,1,0,0]
theorem f58t20 {ρ : Type} (N : Nat) (v3 : List (List Int)) (v5 : List Int) (v4 v6 : Int) (v1_0 v1_1 : Int) (v1_2 : List Int) (K : KT ρ) : f58i N f58c20 .n (f58s12 v3 v5 v4 v6 v1_0 v1_1 v1_2) (joinK (some f58l12) K) =
  impl_lower.Z20 N v3 v5 v4 v6 v1_0 v1_1 v1_2 (fun v3 v5 v4 v6 v1_0 v1_1 v1_2 => K .nrm (f58s12 v3 v5 v4 v6 v1_0 v1_1 v1_2)) (fun v3 v5 v4 v1_0 v1_1 v1_2 => K (.exit 2) (f58s13 v3 v5 v4 v1_0 v1_1 v1_2)) := by kernel_rfl
noncomputable def f58c19 := codeAt (bodyOf Try.f58) [1,1,0,1,0,0,1,0,0,1,0,1,0]
noncomputable def f58p19 : Plan := .mk none (some f58l12) .n .n
noncomputable abbrev f58w19 {ρ : Type} (N M : Nat) (σ : St) (K : KT ρ) : Option ρ := loopC (fun σ K => f58i N f58c20 .n σ K) f58l12 M σ K
theorem f58t19L {ρ : Type} (N : Nat) (K : KT ρ) : ∀ (M : Nat) (v3 : List (List Int)) (v5 : List Int) (v4 v6 : Int) (v1_0 v1_1 : Int) (v1_2 : List Int), f58w19 N M (f58s12 v3 v5 v4 v6 v1_0 v1_1 v1_2) K =
  impl_lower.Z19L N (fun v3 v5 v4 v1_0 v1_1 v1_2 => K (.exit 2) (f58s13 v3 v5 v4 v1_0 v1_1 v1_2)) M v3 v5 v4 v6 v1_0 v1_1 v1_2
  | 0, _, _, _, _, _, _, _ => rfl
  | M + 1, v3, v5, v4, v6, v1_0, v1_1, v1_2 => viaRound (fun k => impl_lower.Z20 N v3 v5 v4 v6 v1_0 v1_1 v1_2 k (fun v3 v5 v4 v1_0 v1_1 v1_2 => K (.exit 2) (f58s13 v3 v5 v4 v1_0 v1_1 v1_2))) (f58t20 N v3 v5 v4 v6 v1_0 v1_1 v1_2 (seqK (fun σ => f58w19 N M σ K) K)) (funext fun v3 => funext fun v5 => funext fun v4 => funext fun v6 => funext fun v1_0 => funext fun v1_1 => funext fun v1_2 => f58t19L N K M v3 v5 v4 v6 v1_0 v1_1 v1_2) (by kernel_rfl) (by kernel_rfl)
theorem f58t19 {ρ : Type} (N : Nat) (v3 : List (List Int)) (v4 v6 : Int) (v1_0 v1_1 : Int) (v1_2 : List Int) (K : KT ρ) : f58i N f58c19 f58p19 (f58s11 v3 v4 v6 v1_0 v1_1 v1_2) (joinK (some f58l13) K) =
  impl_lower.Z19 N v3 v4 v6 v1_0 v1_1 v1_2 (fun v3 v5 v4 v1_0 v1_1 v1_2 => K (.exit 2) (f58s13 v3 v5 v4 v1_0 v1_1 v1_2)) :=
  viaLoop (by kernel_rfl) (by kernel_rfl) (σ' := f58s12 v3 ([] : List Int) v4 v6 v1_0 v1_1 v1_2) (by kernel_rfl) (f58t19L N (joinK (some f58l13) K) N v3 ([] : List Int) v4 v6 v1_0 v1_1 v1_2) (by kernel_rfl)
noncomputable def f58c18 := codeAt (bodyOf Try.f58) [1,1,0,1,0,0,1,0,0,1,0,1]
noncomputable def f58p18 : Plan := .mk (some f58l13) none f58p19 .n
theorem f58t18 {ρ : Type} (N : Nat) (v3 : List (List Int)) (v4 v6 : Int) (v1_0 v1_1 : Int) (v1_2 : List Int) (K : KT ρ) : f58i N f58c18 f58p18 (f58s11 v3 v4 v6 v1_0 v1_1 v1_2) (joinK (some f58l13) K) =
  impl_lower.Z18 N v3 v4 v6 v1_0 v1_1 v1_2 (fun v3 v5 v4 v1_0 v1_1 v1_2 => K .nrm (f58s13 v3 v5 v4 v1_0 v1_1 v1_2)) :=
  viaBlock (by kernel_rfl) (by kernel_rfl) (f58t19 N v3 v4 v6 v1_0 v1_1 v1_2 (blockK 2 (joinK (some f58l13) K))) (by kernel_rfl)
noncomputable def f58c16 := codeAt (bodyOf Try.f58) [1,1,0,1,0,0,1,0,0,1,0]
noncomputable def f58p16 : Plan := .mk (some f58l11) none .n f58p18
theorem f58t16 {ρ : Type} (N : Nat) (v3 : List (List Int)) (v4 v1_0 v1_1 : Int) (v1_2 : List Int) (K : KT ρ) : f58i N f58c16 f58p16 (f58s10 v3 v4 v1_0 v1_1 v1_2) (joinK (some f58l13) K) =
  impl_lower.Z16 N v3 v4 v1_0 v1_1 v1_2 (fun v3 v5 v4 v1_0 v1_1 v1_2 => K .nrm (f58s13 v3 v5 v4 v1_0 v1_1 v1_2)) :=
  viaSeq (fun k => impl_lower.Z17 N v3 v4 v1_0 v1_1 v1_2 k) (by kernel_rfl) (by kernel_rfl) (f58t17 N v3 v4 v1_0 v1_1 v1_2 (seqK (fun σ => f58i N f58c18 f58p18 σ (joinK (some f58l13) K)) (joinK (some f58l13) K))) (funext fun v3 => funext fun v4 => funext fun v6 => funext fun v1_0 => funext fun v1_1 => funext fun v1_2 => f58t18 N v3 v4 v6 v1_0 v1_1 v1_2 K) (by kernel_rfl) (by kernel_rfl)
noncomputable def f58c21 := codeAt (bodyOf Try.f58) [1,1,0,1,0,0,1,0,0,1,1]
theorem f58t21 {ρ : Type} (N : Nat) (v3 : List (List Int)) (v5 : List Int) (v4 v1_0 v1_1 : Int) (v1_2 : List Int) (K : KT ρ) : f58i N f58c21 .n (f58s13 v3 v5 v4 v1_0 v1_1 v1_2) (joinK (some f58l8) K) =
  impl_lower.Z21 N v3 v5 v4 v1_0 v1_1 v1_2 (fun v3 v4 v1_0 v1_1 v1_2 => K .nrm (f58s8 v3 v4 v1_0 v1_1 v1_2)) := by kernel_rfl
noncomputable def f58c15 := codeAt (bodyOf Try.f58) [1,1,0,1,0,0,1,0,0,1]
noncomputable def f58p15 : Plan := .mk (some f58l13) none f58p16 .n
theorem f58t15 {ρ : Type} (N : Nat) (v3 : List (List Int)) (v4 v1_0 v1_1 : Int) (v1_2 : List Int) (K : KT ρ) : f58i N f58c15 f58p15 (f58s10 v3 v4 v1_0 v1_1 v1_2) (joinK (some f58l8) K) =
  impl_lower.Z15 N v3 v4 v1_0 v1_1 v1_2 (fun v3 v4 v1_0 v1_1 v1_2 => K .nrm (f58s8 v3 v4 v1_0 v1_1 v1_2)) :=
  viaSeq (fun k => impl_lower.Z16 N v3 v4 v1_0 v1_1 v1_2 k) (by kernel_rfl) (by kernel_rfl) (f58t16 N v3 v4 v1_0 v1_1 v1_2 (seqK (fun σ => f58i N f58c21 .n σ (joinK (some f58l8) K)) (joinK (some f58l8) K))) (funext fun v3 => funext fun v5 => funext fun v4 => funext fun v1_0 => funext fun v1_1 => funext fun v1_2 => f58t21 N v3 v5 v4 v1_0 v1_1 v1_2 K) (by kernel_rfl) (by kernel_rfl)
noncomputable def f58c13 := codeAt (bodyOf Try.f58) [1,1,0,1,0,0,1,0,0]
noncomputable def f58p13 : Plan := .mk (some f58l10) none .n f58p15
theorem f58t13 {ρ : Type} (N : Nat) (v3 : List (List Int)) (v4 v1_0 v1_1 : Int) (v1_2 : List Int) (K : KT ρ) : f58i N f58c13 f58p13 (f58s8 v3 v4 v1_0 v1_1 v1_2) (joinK (some f58l8) K) =
  impl_lower.Z13 N v3 v4 v1_0 v1_1 v1_2 (fun v3 v4 v1_0 v1_1 v1_2 => K .nrm (f58s8 v3 v4 v1_0 v1_1 v1_2)) :=
  viaSeq (fun k => impl_lower.Z14 N v3 v4 v1_0 v1_1 v1_2 k) (by kernel_rfl) (by kernel_rfl) (f58t14 N v3 v4 v1_0 v1_1 v1_2 (seqK (fun σ => f58i N f58c15 f58p15 σ (joinK (some f58l8) K)) (joinK (some f58l8) K))) (funext fun v3 => funext fun v4 => funext fun v1_0 => funext fun v1_1 => funext fun v1_2 => f58t15 N v3 v4 v1_0 v1_1 v1_2 K) (by kernel_rfl) (by kernel_rfl)
noncomputable def f58c12 := codeAt (bodyOf Try.f58) [1,1,0,1,0,0,1,0]
noncomputable def f58p12 : Plan := .mk (some f58l8) none f58p13 .n
theorem f58t12 {ρ : Type} (N : Nat) (v3 : List (List Int)) (v4 v1_0 v1_1 : Int) (v1_2 : List Int) (K : KT ρ) : f58i N f58c12 f58p12 (f58s8 v3 v4 v1_0 v1_1 v1_2) (joinK (some f58l8) K) =
  impl_lower.Z12 N v3 v4 v1_0 v1_1 v1_2 (fun v3 v4 v1_0 v1_1 v1_2 => K .nrm (f58s8 v3 v4 v1_0 v1_1 v1_2)) :=
  viaBlock (by kernel_rfl) (by kernel_rfl) (f58t13 N v3 v4 v1_0 v1_1 v1_2 (blockK 1 (joinK (some f58l8) K))) (by kernel_rfl)
noncomputable def f58c22 := codeAt (bodyOf Try.f58) [1,1,0,1,0,0,1,1]
theorem f58t22 {ρ : Type} (N : Nat) (v3 : List (List Int)) (v4 v1_0 v1_1 : Int) (v1_2 : List Int) (K : KT ρ) : f58i N f58c22 .n (f58s8 v3 v4 v1_0 v1_1 v1_2) (joinK (some f58l9) K) =
  impl_lower.Z22 N v3 v4 v1_0 v1_1 v1_2 (fun v3 v4 v1_0 v1_1 v1_2 => K .nrm (f58s9 v3 v4 v1_0 v1_1 v1_2)) := by kernel_rfl
noncomputable def f58c11 := codeAt (bodyOf Try.f58) [1,1,0,1,0,0,1]
noncomputable def f58p11 : Plan := .mk (some f58l8) none f58p12 .n
theorem f58t11 {ρ : Type} (N : Nat) (v3 : List (List Int)) (v4 v1_0 v1_1 : Int) (v1_2 : List Int) (K : KT ρ) : f58i N f58c11 f58p11 (f58s8 v3 v4 v1_0 v1_1 v1_2) (joinK (some f58l9) K) =
  impl_lower.Z11 N v3 v4 v1_0 v1_1 v1_2 (fun v3 v4 v1_0 v1_1 v1_2 => K .nrm (f58s9 v3 v4 v1_0 v1_1 v1_2)) :=
  viaSeq (fun k => impl_lower.Z12 N v3 v4 v1_0 v1_1 v1_2 k) (by kernel_rfl) (by kernel_rfl) (f58t12 N v3 v4 v1_0 v1_1 v1_2 (seqK (fun σ => f58i N f58c22 .n σ (joinK (some f58l9) K)) (joinK (some f58l9) K))) (funext fun v3 => funext fun v4 => funext fun v1_0 => funext fun v1_1 => funext fun v1_2 => f58t22 N v3 v4 v1_0 v1_1 v1_2 K) (by kernel_rfl) (by kernel_rfl)
noncomputable def f58c9 := codeAt (bodyOf Try.f58) [1,1,0,1,0,0]
noncomputable def f58p9 : Plan := .mk (some f58l8) none .n f58p11
theorem f58t9 {ρ : Type} (N : Nat) (v3 : List (List Int)) (v4 v1_0 v1_1 : Int) (v1_2 : List Int) (K : KT ρ) : f58i N f58c9 f58p9 (f58s9 v3 v4 v1_0 v1_1 v1_2) (joinK (some f58l9) K) =
  impl_lower.Z9 N v3 v4 v1_0 v1_1 v1_2 (fun v3 v4 v1_0 v1_1 v1_2 => K .nrm (f58s9 v3 v4 v1_0 v1_1 v1_2)) (fun v3 => K (.exit 0) (f58s14 v3)) :=
  viaSeq (fun k => impl_lower.Z10 N v3 v4 v1_0 v1_1 v1_2 k (fun v3 => K (.exit 0) (f58s14 v3))) (by kernel_rfl) (by kernel_rfl) (f58t10 N v3 v4 v1_0 v1_1 v1_2 (seqK (fun σ => f58i N f58c11 f58p11 σ (joinK (some f58l9) K)) (joinK (some f58l9) K))) (funext fun v3 => funext fun v4 => funext fun v1_0 => funext fun v1_1 => funext fun v1_2 => f58t11 N v3 v4 v1_0 v1_1 v1_2 K) (by kernel_rfl) (by kernel_rfl)
noncomputable def f58c8 := codeAt (bodyOf Try.f58) [1,1,0,1,0]
noncomputable def f58p8 : Plan := .mk none (some f58l9) f58p9 .n
noncomputable abbrev f58w8 {ρ : Type} (N M : Nat) (σ : St) (K : KT ρ) : Option ρ := loopC (fun σ K => f58i N f58c9 f58p9 σ K) f58l9 M σ K
theorem f58t8L {ρ : Type} (N : Nat) (K : KT ρ) : ∀ (M : Nat) (v3 : List (List Int)) (v4 v1_0 v1_1 : Int) (v1_2 : List Int), f58w8 N M (f58s9 v3 v4 v1_0 v1_1 v1_2) K =
  impl_lower.Z8L N (fun v3 => K (.exit 0) (f58s14 v3)) M v3 v4 v1_0 v1_1 v1_2
  | 0, _, _, _, _, _ => rfl
  | M + 1, v3, v4, v1_0, v1_1, v1_2 => viaRound (fun k => impl_lower.Z9 N v3 v4 v1_0 v1_1 v1_2 k (fun v3 => K (.exit 0) (f58s14 v3))) (f58t9 N v3 v4 v1_0 v1_1 v1_2 (seqK (fun σ => f58w8 N M σ K) K)) (funext fun v3 => funext fun v4 => funext fun v1_0 => funext fun v1_1 => funext fun v1_2 => f58t8L N K M v3 v4 v1_0 v1_1 v1_2) (by kernel_rfl) (by kernel_rfl)
theorem f58t8 {ρ : Type} (N : Nat) (v4 v1_0 v1_1 : Int) (v1_2 : List Int) (K : KT ρ) : f58i N f58c8 f58p8 (f58s3 v4 v1_0 v1_1 v1_2) (joinK (some f58l14) K) =
  impl_lower.Z8 N v4 v1_0 v1_1 v1_2 (fun v3 => K (.exit 0) (f58s14 v3)) :=
  viaLoop (by kernel_rfl) (by kernel_rfl) (σ' := f58s9 ([] : List (List Int)) v4 v1_0 v1_1 v1_2) (by kernel_rfl) (f58t8L N (joinK (some f58l14) K) N ([] : List (List Int)) v4 v1_0 v1_1 v1_2) (by kernel_rfl)
noncomputable def f58c7 := codeAt (bodyOf Try.f58) [1,1,0,1]
noncomputable def f58p7 : Plan := .mk (some f58l14) none f58p8 .n
theorem f58t7 {ρ : Type} (N : Nat) (v4 v1_0 v1_1 : Int) (v1_2 : List Int) (K : KT ρ) : f58i N f58c7 f58p7 (f58s3 v4 v1_0 v1_1 v1_2) (joinK (some f58l14) K) =
  impl_lower.Z7 N v4 v1_0 v1_1 v1_2 (fun v3 => K .nrm (f58s14 v3)) :=
  viaBlock (by kernel_rfl) (by kernel_rfl) (f58t8 N v4 v1_0 v1_1 v1_2 (blockK 0 (joinK (some f58l14) K))) (by kernel_rfl)
noncomputable def f58c5 := codeAt (bodyOf Try.f58) [1,1,0]
noncomputable def f58p5 : Plan := .mk (some f58l3) none .n f58p7
theorem f58t5 {ρ : Type} (N : Nat) (v1_0 v1_1 : Int) (v1_2 : List Int) (K : KT ρ) : f58i N f58c5 f58p5 (f58s2 v1_0 v1_1 v1_2) (joinK (some f58l14) K) =
  impl_lower.Z5 N v1_0 v1_1 v1_2 (fun v3 => K .nrm (f58s14 v3)) :=
  viaSeq (fun k => impl_lower.Z6 N v1_0 v1_1 v1_2 k) (by kernel_rfl) (by kernel_rfl) (f58t6 N v1_0 v1_1 v1_2 (seqK (fun σ => f58i N f58c7 f58p7 σ (joinK (some f58l14) K)) (joinK (some f58l14) K))) (funext fun v4 => funext fun v1_0 => funext fun v1_1 => funext fun v1_2 => f58t7 N v4 v1_0 v1_1 v1_2 K) (by kernel_rfl) (by kernel_rfl)
noncomputable def f58c23 := codeAt (bodyOf Try.f58) [1,1,1]
theorem f58t23 {ρ : Type} (N : Nat) (v3 : List (List Int)) (K : KT ρ) : f58i N f58c23 .n (f58s14 v3) (joinK (some f58lE) K) =
  impl_lower.Z23 N v3 (fun v2 => K .ret (f58s15 v2)) := by kernel_rfl
noncomputable def f58c4 := codeAt (bodyOf Try.f58) [1,1]
noncomputable def f58p4 : Plan := .mk (some f58l14) none f58p5 .n
theorem f58t4 {ρ : Type} (N : Nat) (v1_0 v1_1 : Int) (v1_2 : List Int) (K : KT ρ) : f58i N f58c4 f58p4 (f58s2 v1_0 v1_1 v1_2) (joinK (some f58lE) K) =
  impl_lower.Z4 N v1_0 v1_1 v1_2 (fun v2 => K .ret (f58s15 v2)) :=
  viaSeq (fun k => impl_lower.Z5 N v1_0 v1_1 v1_2 k) (by kernel_rfl) (by kernel_rfl) (f58t5 N v1_0 v1_1 v1_2 (seqK (fun σ => f58i N f58c23 .n σ (joinK (some f58lE) K)) (joinK (some f58lE) K))) (funext fun v3 => f58t23 N v3 K) (by kernel_rfl) (by kernel_rfl)
noncomputable def f58c2 := codeAt (bodyOf Try.f58) [1]
noncomputable def f58p2 : Plan := .mk (some f58l2) none .n f58p4
theorem f58t2 {ρ : Type} (N : Nat) (v1_0 v1_1 : Int) (v1_2 : List Int) (K : KT ρ) : f58i N f58c2 f58p2 (f58s1 v1_0 v1_1 v1_2) (joinK (some f58lE) K) =
  impl_lower.Z2 N v1_0 v1_1 v1_2 (fun v2 => K .ret (f58s15 v2)) :=
  viaSeq (fun k => impl_lower.Z3 N v1_0 v1_1 v1_2 k) (by kernel_rfl) (by kernel_rfl) (f58t3 N v1_0 v1_1 v1_2 (seqK (fun σ => f58i N f58c4 f58p4 σ (joinK (some f58lE) K)) (joinK (some f58lE) K))) (funext fun v1_0 => funext fun v1_1 => funext fun v1_2 => f58t4 N v1_0 v1_1 v1_2 K) (by kernel_rfl) (by kernel_rfl)
noncomputable def f58c0 := codeAt (bodyOf Try.f58) []
noncomputable def f58p0 : Plan := .mk (some f58l1) none .n f58p2
theorem f58t0 {ρ : Type} (N : Nat) (v0 : Int × Int × List Int) (K : KT ρ) : f58i N f58c0 f58p0 (f58s0 v0) (joinK (some f58lE) K) =
  impl_lower.Z0 N v0 (fun v2 => K .ret (f58s15 v2)) :=
  viaSeq (fun k => impl_lower.Z1 N v0 k) (by kernel_rfl) (by kernel_rfl) (f58t1 N v0 (seqK (fun σ => f58i N f58c2 f58p2 σ (joinK (some f58lE) K)) (joinK (some f58lE) K))) (funext fun v1_0 => funext fun v1_1 => funext fun v1_2 => f58t2 N v1_0 v1_1 v1_2 K) (by kernel_rfl) (by kernel_rfl)
theorem f58m (N : Nat) (v0 : Int × Int × List Int) : f58i N f58c0 f58p0 (f58s0 v0) (joinK (some f58lE) (finK tab f58sig Try.f58.results.toList)) = impl_lower.Z0 N v0 (fun v2 => some ((), (v2, ()))) :=
  (f58t0 N v0 (finK tab f58sig Try.f58.results.toList)).trans (by kernel_rfl)
theorem f58ok (h : impl_lower.Spec) : EntryOk Try.prog 58 e58 :=
  entry_of_code (sig := f58sig) (c := f58c0) (pl := f58p0) (je := (some f58lE)) (B := f58B) Try.func58 (by kernel_rfl) (by kernel_rfl) (by kernel_rfl) tabOk f58GOk (by kernel_rfl) (by kernel_rfl) (by kernel_rfl) (by kernel_rfl) fun X hb hp => by
    obtain ⟨v0, _⟩ := X
    obtain ⟨N, h⟩ := h v0 hb.1 hp
    exact ⟨N, (f58m N v0).trans (h N (Nat.le_refl N))⟩
theorem e58ok : EntryOk Try.prog 58 e58 := f58ok impl_lower.ok
end Go.Fw
set_option linter.unusedVariables false
set_option linter.unusedSimpArgs false
set_option maxRecDepth 100000
namespace Go.Fw
open Go.Proofs
/-! ### loop.example/g03115/impl.CVectorsOf -/
noncomputable def f15sig : Sig := ⟨[⟨.pair (.int .i64) (.pair (.int .i64) (.sl 3 (.int .i64))), true, false⟩, ⟨.sl 3 (.int .i64), false, false⟩], [⟨.sl 24 (.sl 3 (.int .i64)), false, false⟩, ⟨.bool, false, false⟩]⟩
noncomputable def e15 : Entry := ⟨f15sig, none, fun X => ((), ((impl_CVectorsOf.g X.1 X.2.1).1, ((impl_CVectorsOf.g X.1 X.2.1).2, ())))⟩
noncomputable def f15G : Nat → Option Entry := addG (addG (fun _ => none) 57 e57) 58 e58
theorem f15GOk : GOk Try.prog f15G := ((GOk.nil).add e57ok (by kernel_rfl)).add e58ok (by kernel_rfl)
noncomputable def f15lE : Clean := ⟨[], [], [], [], []⟩
noncomputable def f15s0 (v0 : Int × Int × List Int) (v1 : List Int) : St := initSt f15sig.ps (v0, (v1, ()))
noncomputable def f15s1 (v4 : List (List Int)) (v5 : Bool) : St := stOf [(4, .c (.own 1000256)), (5, .c (.bool v5))] [] [(1000256, (⟨24, .sl 3 (.int .i64), v4, true, false⟩ : Row))]
noncomputable def f15l1 : Clean := ⟨[4, 5], [], [⟨⟨false, 4, 0⟩, 30000000, 24, .sl 3 (.int .i64), true⟩], [], [(⟨false, 4, 0⟩, 1000256)]⟩
noncomputable def f15B : Nat → Option Clean := lookL [(1000000, f15l1)]
noncomputable abbrev f15i {ρ : Type} (N : Nat) (c : Code) (p : Plan) (σ : St) (K : KT ρ) : Option ρ := iCode f15G tab f15B N c p σ K
noncomputable def f15c0 := codeAt (bodyOf Try.f15) []
theorem f15t0 {ρ : Type} (N : Nat) (v0 : Int × Int × List Int) (v1 : List Int) (K : KT ρ) : f15i N f15c0 .n (f15s0 v0 v1) (joinK (some f15lE) K) =
  impl_CVectorsOf.Z0 N v0 v1 (fun v4 v5 => K .ret (f15s1 v4 v5)) := by kernel_rfl
theorem f15m (N : Nat) (v0 : Int × Int × List Int) (v1 : List Int) : f15i N f15c0 .n (f15s0 v0 v1) (joinK (some f15lE) (finK tab f15sig Try.f15.results.toList)) = impl_CVectorsOf.Z0 N v0 v1 (fun v4 v5 => some ((), (v4, (v5, ())))) :=
  (f15t0 N v0 v1 (finK tab f15sig Try.f15.results.toList)).trans (by kernel_rfl)
theorem f15ok (h : impl_CVectorsOf.Spec) : EntryOk Try.prog 15 e15 :=
  entry_of_code (sig := f15sig) (c := f15c0) (pl := .n) (je := (some f15lE)) (B := f15B) Try.func15 (by kernel_rfl) (by kernel_rfl) (by kernel_rfl) tabOk f15GOk (by kernel_rfl) (by kernel_rfl) (by kernel_rfl) (by kernel_rfl) fun X hb hp => by
    obtain ⟨v0, v1, _⟩ := X
    obtain ⟨N, h⟩ := h v0 v1 hb.1 hb.2.1
    exact ⟨N, (f15m N v0 v1).trans (h N (Nat.le_refl N))⟩
theorem e15ok : EntryOk Try.prog 15 e15 := f15ok impl_CVectorsOf.ok
end Go.Fw
set_option linter.unusedVariables false
set_option linter.unusedSimpArgs false
set_option maxRecDepth 100000
namespace Go.Fw
open Go.Proofs
/-! ### loop.example/g03115/laws.eqIntS -/
noncomputable def f44sig : Sig := ⟨[⟨.sl 3 (.int .i64), false, false⟩, ⟨.sl 3 (.int .i64), false, false⟩], [⟨.bool, false, false⟩]⟩
noncomputable def e44 : Entry := ⟨f44sig, none, fun X => ((), ((laws_eqIntS.g X.1 X.2.1), ()))⟩
noncomputable def f44G : Nat → Option Entry := (fun _ => none)
theorem f44GOk : GOk Try.prog f44G := GOk.nil
noncomputable def f44lE : Clean := ⟨[], [], [], [], []⟩
noncomputable def f44s0 (v0 v1 : List Int) : St := initSt f44sig.ps (v0, (v1, ()))
noncomputable def f44s1 (v0 v1 : List Int) : St := stOf [(0, .c (.sn 3 (.int .i64) v0 none)), (1, .c (.sn 3 (.int .i64) v1 none))] [] []
noncomputable def f44l1 : Clean := ⟨[0, 1], [], [], [], []⟩
noncomputable def f44s2 (v0 v1 : List Int) (v5 : Int) : St := stOf [(0, .c (.sn 3 (.int .i64) v0 none)), (1, .c (.sn 3 (.int .i64) v1 none)), (5, .c (.int .i64 v5))] [] []
noncomputable def f44l2 : Clean := ⟨[0, 1, 5], [], [], [], []⟩
noncomputable def f44s3  : St := stOf [] [] []
noncomputable def f44l3 : Clean := ⟨[], [], [], [], []⟩
noncomputable def f44s4 (v4 : Bool) : St := stOf [(4, .c (.bool v4))] [] []
noncomputable def f44l4 : Clean := ⟨[4], [], [], [], []⟩
noncomputable def f44B : Nat → Option Clean := lookL [(0, f44l3), (1000000, f44l4)]
noncomputable abbrev f44i {ρ : Type} (N : Nat) (c : Code) (p : Plan) (σ : St) (K : KT ρ) : Option ρ := iCode f44G tab f44B N c p σ K
noncomputable def f44c1 := codeAt (bodyOf Try.f44) [0]
theorem f44t1 {ρ : Type} (N : Nat) (v0 v1 : List Int) (K : KT ρ) : f44i N f44c1 .n (f44s0 v0 v1) (joinK (some f44l1) K) =
  laws_eqIntS.Z1 N v0 v1 (fun v0 v1 => K .nrm (f44s1 v0 v1)) := by kernel_rfl
noncomputable def f44c3 := codeAt (bodyOf Try.f44) [1,0]
theorem f44t3 {ρ : Type} (N : Nat) (v0 v1 : List Int) (K : KT ρ) : f44i N f44c3 .n (f44s1 v0 v1) (joinK (some f44l1) K) =
  laws_eqIntS.Z3 N v0 v1 (fun v0 v1 => K .nrm (f44s1 v0 v1)) (fun v4 => K .ret (f44s4 v4)) := by kernel_rfl
noncomputable def f44c6 := codeAt (bodyOf Try.f44) [1,1,0,0]
theorem f44t6 {ρ : Type} (N : Nat) (v0 v1 : List Int) (K : KT ρ) : f44i N f44c6 .n (f44s1 v0 v1) (joinK (some f44l2) K) =
  laws_eqIntS.Z6 N v0 v1 (fun v0 v1 v5 => K .nrm (f44s2 v0 v1 v5)) := by kernel_rfl
noncomputable def f44c9 := codeAt (bodyOf Try.f44) [1,1,0,1,0,0]
theorem f44t9 {ρ : Type} (N : Nat) (v0 v1 : List Int) (v5 : Int) (K : KT ρ) : f44i N f44c9 .n (f44s2 v0 v1 v5) (joinK (some f44l2) K) =
  laws_eqIntS.Z9 N v0 v1 v5 (fun v0 v1 v5 => K .nrm (f44s2 v0 v1 v5)) (K (.exit 0) f44s3) (fun v4 => K .ret (f44s4 v4)) := by kernel_rfl
noncomputable def f44c8 := codeAt (bodyOf Try.f44) [1,1,0,1,0]
noncomputable def f44p8 : Plan := .mk none (some f44l2) .n .n
noncomputable abbrev f44w8 {ρ : Type} (N M : Nat) (σ : St) (K : KT ρ) : Option ρ := loopC (fun σ K => f44i N f44c9 .n σ K) f44l2 M σ K
theorem f44t8L {ρ : Type} (N : Nat) (K : KT ρ) : ∀ (M : Nat) (v0 v1 : List Int) (v5 : Int), f44w8 N M (f44s2 v0 v1 v5) K =
  laws_eqIntS.Z8L N (K (.exit 0) f44s3) (fun v4 => K .ret (f44s4 v4)) M v0 v1 v5
  | 0, _, _, _ => rfl
  | M + 1, v0, v1, v5 => viaRound (fun k => laws_eqIntS.Z9 N v0 v1 v5 k (K (.exit 0) f44s3) (fun v4 => K .ret (f44s4 v4))) (f44t9 N v0 v1 v5 (seqK (fun σ => f44w8 N M σ K) K)) (funext fun v0 => funext fun v1 => funext fun v5 => f44t8L N K M v0 v1 v5) (by kernel_rfl) (by kernel_rfl)
theorem f44t8 {ρ : Type} (N : Nat) (v0 v1 : List Int) (v5 : Int) (K : KT ρ) : f44i N f44c8 f44p8 (f44s2 v0 v1 v5) (joinK (some f44l3) K) =
  laws_eqIntS.Z8 N v0 v1 v5 (K (.exit 0) f44s3) (fun v4 => K .ret (f44s4 v4)) :=
  viaLoop (by kernel_rfl) (by kernel_rfl) (σ' := f44s2 v0 v1 v5) (by kernel_rfl) (f44t8L N (joinK (some f44l3) K) N v0 v1 v5) (by kernel_rfl)
noncomputable def f44c7 := codeAt (bodyOf Try.f44) [1,1,0,1]
noncomputable def f44p7 : Plan := .mk (some f44l3) none f44p8 .n
theorem f44t7 {ρ : Type} (N : Nat) (v0 v1 : List Int) (v5 : Int) (K : KT ρ) : f44i N f44c7 f44p7 (f44s2 v0 v1 v5) (joinK (some f44l3) K) =
  laws_eqIntS.Z7 N v0 v1 v5 (K .nrm f44s3) (fun v4 => K .ret (f44s4 v4)) :=
  viaBlock (by kernel_rfl) (by kernel_rfl) (f44t8 N v0 v1 v5 (blockK 0 (joinK (some f44l3) K))) (by kernel_rfl)
noncomputable def f44c5 := codeAt (bodyOf Try.f44) [1,1,0]
noncomputable def f44p5 : Plan := .mk (some f44l2) none .n f44p7
theorem f44t5 {ρ : Type} (N : Nat) (v0 v1 : List Int) (K : KT ρ) : f44i N f44c5 f44p5 (f44s1 v0 v1) (joinK (some f44l3) K) =
  laws_eqIntS.Z5 N v0 v1 (K .nrm f44s3) (fun v4 => K .ret (f44s4 v4)) :=
  viaSeq (fun k => laws_eqIntS.Z6 N v0 v1 k) (by kernel_rfl) (by kernel_rfl) (f44t6 N v0 v1 (seqK (fun σ => f44i N f44c7 f44p7 σ (joinK (some f44l3) K)) (joinK (some f44l3) K))) (funext fun v0 => funext fun v1 => funext fun v5 => f44t7 N v0 v1 v5 K) (by kernel_rfl) (by kernel_rfl)
noncomputable def f44c10 := codeAt (bodyOf Try.f44) [1,1,1]
theorem f44t10 {ρ : Type} (N : Nat)  (K : KT ρ) : f44i N f44c10 .n f44s3 (joinK (some f44lE) K) =
  laws_eqIntS.Z10 N (fun v4 => K .ret (f44s4 v4)) := by kernel_rfl
noncomputable def f44c4 := codeAt (bodyOf Try.f44) [1,1]
noncomputable def f44p4 : Plan := .mk (some f44l3) none f44p5 .n
theorem f44t4 {ρ : Type} (N : Nat) (v0 v1 : List Int) (K : KT ρ) : f44i N f44c4 f44p4 (f44s1 v0 v1) (joinK (some f44lE) K) =
  laws_eqIntS.Z4 N v0 v1 (fun v4 => K .ret (f44s4 v4)) :=
  viaSeq (fun k => laws_eqIntS.Z5 N v0 v1 k (fun v4 => K .ret (f44s4 v4))) (by kernel_rfl) (by kernel_rfl) (f44t5 N v0 v1 (seqK (fun σ => f44i N f44c10 .n σ (joinK (some f44lE) K)) (joinK (some f44lE) K))) (f44t10 N K) (by kernel_rfl) (by kernel_rfl)
noncomputable def f44c2 := codeAt (bodyOf Try.f44) [1]
noncomputable def f44p2 : Plan := .mk (some f44l1) none .n f44p4
theorem f44t2 {ρ : Type} (N : Nat) (v0 v1 : List Int) (K : KT ρ) : f44i N f44c2 f44p2 (f44s1 v0 v1) (joinK (some f44lE) K) =
  laws_eqIntS.Z2 N v0 v1 (fun v4 => K .ret (f44s4 v4)) :=
  viaSeq (fun k => laws_eqIntS.Z3 N v0 v1 k (fun v4 => K .ret (f44s4 v4))) (by kernel_rfl) (by kernel_rfl) (f44t3 N v0 v1 (seqK (fun σ => f44i N f44c4 f44p4 σ (joinK (some f44lE) K)) (joinK (some f44lE) K))) (funext fun v0 => funext fun v1 => f44t4 N v0 v1 K) (by kernel_rfl) (by kernel_rfl)
noncomputable def f44c0 := codeAt (bodyOf Try.f44) []
noncomputable def f44p0 : Plan := .mk (some f44l1) none .n f44p2
theorem f44t0 {ρ : Type} (N : Nat) (v0 v1 : List Int) (K : KT ρ) : f44i N f44c0 f44p0 (f44s0 v0 v1) (joinK (some f44lE) K) =
  laws_eqIntS.Z0 N v0 v1 (fun v4 => K .ret (f44s4 v4)) :=
  viaSeq (fun k => laws_eqIntS.Z1 N v0 v1 k) (by kernel_rfl) (by kernel_rfl) (f44t1 N v0 v1 (seqK (fun σ => f44i N f44c2 f44p2 σ (joinK (some f44lE) K)) (joinK (some f44lE) K))) (funext fun v0 => funext fun v1 => f44t2 N v0 v1 K) (by kernel_rfl) (by kernel_rfl)
theorem f44m (N : Nat) (v0 v1 : List Int) : f44i N f44c0 f44p0 (f44s0 v0 v1) (joinK (some f44lE) (finK tab f44sig Try.f44.results.toList)) = laws_eqIntS.Z0 N v0 v1 (fun v4 => some ((), (v4, ()))) :=
  (f44t0 N v0 v1 (finK tab f44sig Try.f44.results.toList)).trans (by kernel_rfl)
theorem f44ok (h : laws_eqIntS.Spec) : EntryOk Try.prog 44 e44 :=
  entry_of_code (sig := f44sig) (c := f44c0) (pl := f44p0) (je := (some f44lE)) (B := f44B) Try.func44 (by kernel_rfl) (by kernel_rfl) (by kernel_rfl) tabOk f44GOk (by kernel_rfl) (by kernel_rfl) (by kernel_rfl) (by kernel_rfl) fun X hb hp => by
    obtain ⟨v0, v1, _⟩ := X
    obtain ⟨N, h⟩ := h v0 v1 hb.1 hb.2.1
    exact ⟨N, (f44m N v0 v1).trans (h N (Nat.le_refl N))⟩
theorem e44ok : EntryOk Try.prog 44 e44 := f44ok laws_eqIntS.ok
end Go.Fw
set_option linter.unusedVariables false
set_option linter.unusedSimpArgs false
set_option maxRecDepth 100000
namespace Go.Fw
open Go.Proofs
/-! ### loop.example/g03115/laws.eqIntSS -/
noncomputable def f36sig : Sig := ⟨[⟨.sl 24 (.sl 3 (.int .i64)), false, false⟩, ⟨.sl 24 (.sl 3 (.int .i64)), false, false⟩], [⟨.bool, false, false⟩]⟩
noncomputable def e36 : Entry := ⟨f36sig, none, fun X => ((), ((laws_eqIntSS.g X.1 X.2.1), ()))⟩
noncomputable def f36G : Nat → Option Entry := addG (fun _ => none) 44 e44
theorem f36GOk : GOk Try.prog f36G := (GOk.nil).add e44ok (by kernel_rfl)
noncomputable def f36lE : Clean := ⟨[], [], [], [], []⟩
noncomputable def f36s0 (v0 v1 : List (List Int)) : St := initSt f36sig.ps (v0, (v1, ()))
noncomputable def f36s1 (v0 v1 : List (List Int)) : St := stOf [(0, .c (.sn 24 (.sl 3 (.int .i64)) v0 none)), (1, .c (.sn 24 (.sl 3 (.int .i64)) v1 none))] [] []
noncomputable def f36l1 : Clean := ⟨[0, 1], [], [], [], []⟩
noncomputable def f36s2 (v0 v1 : List (List Int)) (v5 : Int) : St := stOf [(0, .c (.sn 24 (.sl 3 (.int .i64)) v0 none)), (1, .c (.sn 24 (.sl 3 (.int .i64)) v1 none)), (5, .c (.int .i64 v5))] [] []
noncomputable def f36l2 : Clean := ⟨[0, 1, 5], [], [], [], []⟩
noncomputable def f36s3  : St := stOf [] [] []
noncomputable def f36l3 : Clean := ⟨[], [], [], [], []⟩
noncomputable def f36s4 (v4 : Bool) : St := stOf [(4, .c (.bool v4))] [] []
noncomputable def f36l4 : Clean := ⟨[4], [], [], [], []⟩
noncomputable def f36B : Nat → Option Clean := lookL [(0, f36l3), (1000000, f36l4)]
noncomputable abbrev f36i {ρ : Type} (N : Nat) (c : Code) (p : Plan) (σ : St) (K : KT ρ) : Option ρ := iCode f36G tab f36B N c p σ K
noncomputable def f36c1 := codeAt (bodyOf Try.f36) [0]
theorem f36t1 {ρ : Type} (N : Nat) (v0 v1 : List (List Int)) (K : KT ρ) : f36i N f36c1 .n (f36s0 v0 v1) (joinK (some f36l1) K) =
  laws_eqIntSS.Z1 N v0 v1 (fun v0 v1 => K .nrm (f36s1 v0 v1)) := by kernel_rfl
noncomputable def f36c3 := codeAt (bodyOf Try.f36) [1,0]
theorem f36t3 {ρ : Type} (N : Nat) (v0 v1 : List (List Int)) (K : KT ρ) : f36i N f36c3 .n (f36s1 v0 v1) (joinK (some f36l1) K) =
  laws_eqIntSS.Z3 N v0 v1 (fun v0 v1 => K .nrm (f36s1 v0 v1)) (fun v4 => K .ret (f36s4 v4)) := by kernel_rfl
noncomputable def f36c6 := codeAt (bodyOf Try.f36) [1,1,0,0]
theorem f36t6 {ρ : Type} (N : Nat) (v0 v1 : List (List Int)) (K : KT ρ) : f36i N f36c6 .n (f36s1 v0 v1) (joinK (some f36l2) K) =
  laws_eqIntSS.Z6 N v0 v1 (fun v0 v1 v5 => K .nrm (f36s2 v0 v1 v5)) := by kernel_rfl
noncomputable def f36c9 := codeAt (bodyOf Try.f36) [1,1,0,1,0,0]
theorem f36t9 {ρ : Type} (N : Nat) (v0 v1 : List (List Int)) (v5 : Int) (K : KT ρ) : f36i N f36c9 .n (f36s2 v0 v1 v5) (joinK (some f36l2) K) =
  laws_eqIntSS.Z9 N v0 v1 v5 (fun v0 v1 v5 => K .nrm (f36s2 v0 v1 v5)) (K (.exit 0) f36s3) (fun v4 => K .ret (f36s4 v4)) := by kernel_rfl
noncomputable def f36c8 := codeAt (bodyOf Try.f36) [1,1,0,1,0]
noncomputable def f36p8 : Plan := .mk none (some f36l2) .n .n
noncomputable abbrev f36w8 {ρ : Type} (N M : Nat) (σ : St) (K : KT ρ) : Option ρ := loopC (fun σ K => f36i N f36c9 .n σ K) f36l2 M σ K
theorem f36t8L {ρ : Type} (N : Nat) (K : KT ρ) : ∀ (M : Nat) (v0 v1 : List (List Int)) (v5 : Int), f36w8 N M (f36s2 v0 v1 v5) K =
  laws_eqIntSS.Z8L N (K (.exit 0) f36s3) (fun v4 => K .ret (f36s4 v4)) M v0 v1 v5
  | 0, _, _, _ => rfl
  | M + 1, v0, v1, v5 => viaRound (fun k => laws_eqIntSS.Z9 N v0 v1 v5 k (K (.exit 0) f36s3) (fun v4 => K .ret (f36s4 v4))) (f36t9 N v0 v1 v5 (seqK (fun σ => f36w8 N M σ K) K)) (funext fun v0 => funext fun v1 => funext fun v5 => f36t8L N K M v0 v1 v5) (by kernel_rfl) (by kernel_rfl)
theorem f36t8 {ρ : Type} (N : Nat) (v0 v1 : List (List Int)) (v5 : Int) (K : KT ρ) : f36i N f36c8 f36p8 (f36s2 v0 v1 v5) (joinK (some f36l3) K) =
  laws_eqIntSS.Z8 N v0 v1 v5 (K (.exit 0) f36s3) (fun v4 => K .ret (f36s4 v4)) :=
  viaLoop (by kernel_rfl) (by kernel_rfl) (σ' := f36s2 v0 v1 v5) (by kernel_rfl) (f36t8L N (joinK (some f36l3) K) N v0 v1 v5) (by kernel_rfl)
noncomputable def f36c7 := codeAt (bodyOf Try.f36) [1,1,0,1]
noncomputable def f36p7 : Plan := .mk (some f36l3) none f36p8 .n
theorem f36t7 {ρ : Type} (N : Nat) (v0 v1 : List (List Int)) (v5 : Int) (K : KT ρ) : f36i N f36c7 f36p7 (f36s2 v0 v1 v5) (joinK (some f36l3) K) =
  laws_eqIntSS.Z7 N v0 v1 v5 (K .nrm f36s3) (fun v4 => K .ret (f36s4 v4)) :=
  viaBlock (by kernel_rfl) (by kernel_rfl) (f36t8 N v0 v1 v5 (blockK 0 (joinK (some f36l3) K))) (by kernel_rfl)
noncomputable def f36c5 := codeAt (bodyOf Try.f36) [1,1,0]
noncomputable def f36p5 : Plan := .mk (some f36l2) none .n f36p7
theorem f36t5 {ρ : Type} (N : Nat) (v0 v1 : List (List Int)) (K : KT ρ) : f36i N f36c5 f36p5 (f36s1 v0 v1) (joinK (some f36l3) K) =
  laws_eqIntSS.Z5 N v0 v1 (K .nrm f36s3) (fun v4 => K .ret (f36s4 v4)) :=
  viaSeq (fun k => laws_eqIntSS.Z6 N v0 v1 k) (by kernel_rfl) (by kernel_rfl) (f36t6 N v0 v1 (seqK (fun σ => f36i N f36c7 f36p7 σ (joinK (some f36l3) K)) (joinK (some f36l3) K))) (funext fun v0 => funext fun v1 => funext fun v5 => f36t7 N v0 v1 v5 K) (by kernel_rfl) (by kernel_rfl)
noncomputable def f36c10 := codeAt (bodyOf Try.f36) [1,1,1]
theorem f36t10 {ρ : Type} (N : Nat)  (K : KT ρ) : f36i N f36c10 .n f36s3 (joinK (some f36lE) K) =
  laws_eqIntSS.Z10 N (fun v4 => K .ret (f36s4 v4)) := by kernel_rfl
noncomputable def f36c4 := codeAt (bodyOf Try.f36) [1,1]
noncomputable def f36p4 : Plan := .mk (some f36l3) none f36p5 .n
theorem f36t4 {ρ : Type} (N : Nat) (v0 v1 : List (List Int)) (K : KT ρ) : f36i N f36c4 f36p4 (f36s1 v0 v1) (joinK (some f36lE) K) =
  laws_eqIntSS.Z4 N v0 v1 (fun v4 => K .ret (f36s4 v4)) :=
  viaSeq (fun k => laws_eqIntSS.Z5 N v0 v1 k (fun v4 => K .ret (f36s4 v4))) (by kernel_rfl) (by kernel_rfl) (f36t5 N v0 v1 (seqK (fun σ => f36i N f36c10 .n σ (joinK (some f36lE) K)) (joinK (some f36lE) K))) (f36t10 N K) (by kernel_rfl) (by kernel_rfl)
noncomputable def f36c2 := codeAt (bodyOf Try.f36) [1]
noncomputable def f36p2 : Plan := .mk (some f36l1) none .n f36p4
theorem f36t2 {ρ : Type} (N : Nat) (v0 v1 : List (List Int)) (K : KT ρ) : f36i N f36c2 f36p2 (f36s1 v0 v1) (joinK (some f36lE) K) =
  laws_eqIntSS.Z2 N v0 v1 (fun v4 => K .ret (f36s4 v4)) :=
  viaSeq (fun k => laws_eqIntSS.Z3 N v0 v1 k (fun v4 => K .ret (f36s4 v4))) (by kernel_rfl) (by kernel_rfl) (f36t3 N v0 v1 (seqK (fun σ => f36i N f36c4 f36p4 σ (joinK (some f36lE) K)) (joinK (some f36lE) K))) (funext fun v0 => funext fun v1 => f36t4 N v0 v1 K) (by kernel_rfl) (by kernel_rfl)
noncomputable def f36c0 := codeAt (bodyOf Try.f36) []
noncomputable def f36p0 : Plan := .mk (some f36l1) none .n f36p2
theorem f36t0 {ρ : Type} (N : Nat) (v0 v1 : List (List Int)) (K : KT ρ) : f36i N f36c0 f36p0 (f36s0 v0 v1) (joinK (some f36lE) K) =
  laws_eqIntSS.Z0 N v0 v1 (fun v4 => K .ret (f36s4 v4)) :=
  viaSeq (fun k => laws_eqIntSS.Z1 N v0 v1 k) (by kernel_rfl) (by kernel_rfl) (f36t1 N v0 v1 (seqK (fun σ => f36i N f36c2 f36p2 σ (joinK (some f36lE) K)) (joinK (some f36lE) K))) (funext fun v0 => funext fun v1 => f36t2 N v0 v1 K) (by kernel_rfl) (by kernel_rfl)
theorem f36m (N : Nat) (v0 v1 : List (List Int)) : f36i N f36c0 f36p0 (f36s0 v0 v1) (joinK (some f36lE) (finK tab f36sig Try.f36.results.toList)) = laws_eqIntSS.Z0 N v0 v1 (fun v4 => some ((), (v4, ()))) :=
  (f36t0 N v0 v1 (finK tab f36sig Try.f36.results.toList)).trans (by kernel_rfl)
theorem f36ok (h : laws_eqIntSS.Spec) : EntryOk Try.prog 36 e36 :=
  entry_of_code (sig := f36sig) (c := f36c0) (pl := f36p0) (je := (some f36lE)) (B := f36B) Try.func36 (by kernel_rfl) (by kernel_rfl) (by kernel_rfl) tabOk f36GOk (by kernel_rfl) (by kernel_rfl) (by kernel_rfl) (by kernel_rfl) fun X hb hp => by
    obtain ⟨v0, v1, _⟩ := X
    obtain ⟨N, h⟩ := h v0 v1 hb.1 hb.2.1
    exact ⟨N, (f36m N v0 v1).trans (h N (Nat.le_refl N))⟩
theorem e36ok : EntryOk Try.prog 36 e36 := f36ok laws_eqIntSS.ok
end Go.Fw
set_option linter.unusedVariables false
set_option linter.unusedSimpArgs false
set_option maxRecDepth 100000
namespace Go.Fw
open Go.Proofs
/-! ### loop.example/g03115/laws.eqMatrix -/
noncomputable def f31sig : Sig := ⟨[⟨.pair (.int .i64) (.pair (.int .i64) (.sl 3 (.int .i64))), true, false⟩, ⟨.pair (.int .i64) (.pair (.int .i64) (.sl 3 (.int .i64))), true, false⟩], [⟨.bool, false, false⟩]⟩
noncomputable def e31 : Entry := ⟨f31sig, none, fun X => ((), ((laws_eqMatrix.g X.1 X.2.1), ()))⟩
noncomputable def f31G : Nat → Option Entry := addG (fun _ => none) 44 e44
theorem f31GOk : GOk Try.prog f31G := (GOk.nil).add e44ok (by kernel_rfl)
noncomputable def f31lE : Clean := ⟨[], [], [], [], []⟩
noncomputable def f31s0 (v0 v1 : Int × Int × List Int) : St := initSt f31sig.ps (v0, (v1, ()))
noncomputable def f31s1 (v4 : Bool) : St := stOf [(4, .c (.bool v4))] [] []
noncomputable def f31l1 : Clean := ⟨[4], [], [], [], []⟩
noncomputable def f31B : Nat → Option Clean := lookL [(1000000, f31l1)]
noncomputable abbrev f31i {ρ : Type} (N : Nat) (c : Code) (p : Plan) (σ : St) (K : KT ρ) : Option ρ := iCode f31G tab f31B N c p σ K
noncomputable def f31c0 := codeAt (bodyOf Try.f31) []
theorem f31t0 {ρ : Type} (N : Nat) (v0 v1 : Int × Int × List Int) (K : KT ρ) : f31i N f31c0 .n (f31s0 v0 v1) (joinK (some f31lE) K) =
  laws_eqMatrix.Z0 N v0 v1 (fun v4 => K .ret (f31s1 v4)) := by kernel_rfl
theorem f31m (N : Nat) (v0 v1 : Int × Int × List Int) : f31i N f31c0 .n (f31s0 v0 v1) (joinK (some f31lE) (finK tab f31sig Try.f31.results.toList)) = laws_eqMatrix.Z0 N v0 v1 (fun v4 => some ((), (v4, ()))) :=
  (f31t0 N v0 v1 (finK tab f31sig Try.f31.results.toList)).trans (by kernel_rfl)
theorem f31ok (h : laws_eqMatrix.Spec) : EntryOk Try.prog 31 e31 :=
  entry_of_code (sig := f31sig) (c := f31c0) (pl := .n) (je := (some f31lE)) (B := f31B) Try.func31 (by kernel_rfl) (by kernel_rfl) (by kernel_rfl) tabOk f31GOk (by kernel_rfl) (by kernel_rfl) (by kernel_rfl) (by kernel_rfl) fun X hb hp => by
    obtain ⟨v0, v1, _⟩ := X
    obtain ⟨N, h⟩ := h v0 v1 hb.1 hb.2.1
    exact ⟨N, (f31m N v0 v1).trans (h N (Nat.le_refl N))⟩
theorem e31ok : EntryOk Try.prog 31 e31 := f31ok laws_eqMatrix.ok
end Go.Fw
set_option linter.unusedVariables false
set_option linter.unusedSimpArgs false
set_option maxRecDepth 100000
namespace Go.Fw
open Go.Proofs
/-! ### loop.example/g03115/laws.markIntS -/
noncomputable def f45sig : Sig := ⟨[⟨.sl 3 (.int .i64), false, true⟩, ⟨.int .i64, false, false⟩], [⟨.int .i64, false, false⟩]⟩
noncomputable def e45 : Entry := ⟨f45sig, none, fun X => ((laws_markIntS.g X.1 X.2.1).1, ((laws_markIntS.g X.1 X.2.1).2, ()))⟩
noncomputable def f45G : Nat → Option Entry := (fun _ => none)
theorem f45GOk : GOk Try.prog f45G := GOk.nil
noncomputable def f45lE : Clean := ⟨[], [], [], [], []⟩
noncomputable def f45s0 (v0 : List Int) (v1 : Int) : St := initSt f45sig.ps (v0, (v1, ()))
noncomputable def f45s1 (v0 : List Int) (v1 : Int) : St := stOf [(0, .c (.own 1000000)), (1, .c (.int .i64 v1)), (100000, .c (.own 1000000))] [] [(1000000, (⟨3, .int .i64, v0, true, false⟩ : Row))]
noncomputable def f45l1 : Clean := ⟨[0, 1, 100000], [], [], [], [(⟨false, 0, 0⟩, 1000000)]⟩
noncomputable def f45s2 (v0 : List Int) (v1 v5 : Int) : St := stOf [(0, .c (.own 1000000)), (1, .c (.int .i64 v1)), (5, .c (.int .i64 v5)), (100000, .c (.own 1000000))] [] [(1000000, (⟨3, .int .i64, v0, true, false⟩ : Row))]
noncomputable def f45l2 : Clean := ⟨[0, 1, 5, 100000], [], [], [], [(⟨false, 0, 0⟩, 1000000)]⟩
noncomputable def f45s3 (io100000 : List Int) (v1 : Int) : St := stOf [(1, .c (.int .i64 v1)), (100000, .c (.own 7400000))] [] [(7400000, (⟨3, .int .i64, io100000, true, false⟩ : Row))]
noncomputable def f45l3 : Clean := ⟨[1, 100000], [], [], [], [(⟨false, 100000, 0⟩, 7400000)]⟩
noncomputable def f45s4 (io100000 : List Int) (v4 : Int) : St := stOf [(4, .c (.int .i64 v4)), (100000, .c (.own 7400000))] [] [(7400000, (⟨3, .int .i64, io100000, true, false⟩ : Row))]
noncomputable def f45l4 : Clean := ⟨[4, 100000], [], [], [], [(⟨false, 100000, 0⟩, 7400000)]⟩
noncomputable def f45B : Nat → Option Clean := lookL [(0, f45l3), (1000000, f45l4)]
noncomputable abbrev f45i {ρ : Type} (N : Nat) (c : Code) (p : Plan) (σ : St) (K : KT ρ) : Option ρ := iCode f45G tab f45B N c p σ K
noncomputable def f45c1 := codeAt (bodyOf Try.f45) [0]
theorem f45t1 {ρ : Type} (N : Nat) (v0 : List Int) (v1 : Int) (K : KT ρ) : f45i N f45c1 .n (f45s0 v0 v1) (joinK (some f45l1) K) =
  laws_markIntS.Z1 N v0 v1 (fun v0 v1 => K .nrm (f45s1 v0 v1)) := by kernel_rfl
noncomputable def f45c4 := codeAt (bodyOf Try.f45) [1,0,0]
theorem f45t4 {ρ : Type} (N : Nat) (v0 : List Int) (v1 : Int) (K : KT ρ) : f45i N f45c4 .n (f45s1 v0 v1) (joinK (some f45l2) K) =
  laws_markIntS.Z4 N v0 v1 (fun v0 v1 v5 => K .nrm (f45s2 v0 v1 v5)) := by kernel_rfl
noncomputable def f45c7 := codeAt (bodyOf Try.f45) [1,0,1,0,0]
theorem f45t7 {ρ : Type} (N : Nat) (v0 : List Int) (v1 v5 : Int) (K : KT ρ) : f45i N f45c7 .n (f45s2 v0 v1 v5) (joinK (some f45l2) K) =
  laws_markIntS.Z7 N v0 v1 v5 (fun v0 v1 v5 => K .nrm (f45s2 v0 v1 v5)) (fun io100000 v1 => K (.exit 0) (f45s3 io100000 v1)) := by kernel_rfl
noncomputable def f45c6 := codeAt (bodyOf Try.f45) [1,0,1,0]
noncomputable def f45p6 : Plan := .mk none (some f45l2) .n .n
noncomputable abbrev f45w6 {ρ : Type} (N M : Nat) (σ : St) (K : KT ρ) : Option ρ := loopC (fun σ K => f45i N f45c7 .n σ K) f45l2 M σ K
theorem f45t6L {ρ : Type} (N : Nat) (K : KT ρ) : ∀ (M : Nat) (v0 : List Int) (v1 v5 : Int), f45w6 N M (f45s2 v0 v1 v5) K =
  laws_markIntS.Z6L N (fun io100000 v1 => K (.exit 0) (f45s3 io100000 v1)) M v0 v1 v5
  | 0, _, _, _ => rfl
  | M + 1, v0, v1, v5 => viaRound (fun k => laws_markIntS.Z7 N v0 v1 v5 k (fun io100000 v1 => K (.exit 0) (f45s3 io100000 v1))) (f45t7 N v0 v1 v5 (seqK (fun σ => f45w6 N M σ K) K)) (funext fun v0 => funext fun v1 => funext fun v5 => f45t6L N K M v0 v1 v5) (by kernel_rfl) (by kernel_rfl)
theorem f45t6 {ρ : Type} (N : Nat) (v0 : List Int) (v1 v5 : Int) (K : KT ρ) : f45i N f45c6 f45p6 (f45s2 v0 v1 v5) (joinK (some f45l3) K) =
  laws_markIntS.Z6 N v0 v1 v5 (fun io100000 v1 => K (.exit 0) (f45s3 io100000 v1)) :=
  viaLoop (by kernel_rfl) (by kernel_rfl) (σ' := f45s2 v0 v1 v5) (by kernel_rfl) (f45t6L N (joinK (some f45l3) K) N v0 v1 v5) (by kernel_rfl)
noncomputable def f45c5 := codeAt (bodyOf Try.f45) [1,0,1]
noncomputable def f45p5 : Plan := .mk (some f45l3) none f45p6 .n
theorem f45t5 {ρ : Type} (N : Nat) (v0 : List Int) (v1 v5 : Int) (K : KT ρ) : f45i N f45c5 f45p5 (f45s2 v0 v1 v5) (joinK (some f45l3) K) =
  laws_markIntS.Z5 N v0 v1 v5 (fun io100000 v1 => K .nrm (f45s3 io100000 v1)) :=
  viaBlock (by kernel_rfl) (by kernel_rfl) (f45t6 N v0 v1 v5 (blockK 0 (joinK (some f45l3) K))) (by kernel_rfl)
noncomputable def f45c3 := codeAt (bodyOf Try.f45) [1,0]
noncomputable def f45p3 : Plan := .mk (some f45l2) none .n f45p5
theorem f45t3 {ρ : Type} (N : Nat) (v0 : List Int) (v1 : Int) (K : KT ρ) : f45i N f45c3 f45p3 (f45s1 v0 v1) (joinK (some f45l3) K) =
  laws_markIntS.Z3 N v0 v1 (fun io100000 v1 => K .nrm (f45s3 io100000 v1)) :=
  viaSeq (fun k => laws_markIntS.Z4 N v0 v1 k) (by kernel_rfl) (by kernel_rfl) (f45t4 N v0 v1 (seqK (fun σ => f45i N f45c5 f45p5 σ (joinK (some f45l3) K)) (joinK (some f45l3) K))) (funext fun v0 => funext fun v1 => funext fun v5 => f45t5 N v0 v1 v5 K) (by kernel_rfl) (by kernel_rfl)
noncomputable def f45c8 := codeAt (bodyOf Try.f45) [1,1]
theorem f45t8 {ρ : Type} (N : Nat) (io100000 : List Int) (v1 : Int) (K : KT ρ) : f45i N f45c8 .n (f45s3 io100000 v1) (joinK (some f45lE) K) =
  laws_markIntS.Z8 N io100000 v1 (fun io100000 v4 => K .ret (f45s4 io100000 v4)) := by kernel_rfl
noncomputable def f45c2 := codeAt (bodyOf Try.f45) [1]
noncomputable def f45p2 : Plan := .mk (some f45l3) none f45p3 .n
theorem f45t2 {ρ : Type} (N : Nat) (v0 : List Int) (v1 : Int) (K : KT ρ) : f45i N f45c2 f45p2 (f45s1 v0 v1) (joinK (some f45lE) K) =
  laws_markIntS.Z2 N v0 v1 (fun io100000 v4 => K .ret (f45s4 io100000 v4)) :=
  viaSeq (fun k => laws_markIntS.Z3 N v0 v1 k) (by kernel_rfl) (by kernel_rfl) (f45t3 N v0 v1 (seqK (fun σ => f45i N f45c8 .n σ (joinK (some f45lE) K)) (joinK (some f45lE) K))) (funext fun io100000 => funext fun v1 => f45t8 N io100000 v1 K) (by kernel_rfl) (by kernel_rfl)
noncomputable def f45c0 := codeAt (bodyOf Try.f45) []
noncomputable def f45p0 : Plan := .mk (some f45l1) none .n f45p2
theorem f45t0 {ρ : Type} (N : Nat) (v0 : List Int) (v1 : Int) (K : KT ρ) : f45i N f45c0 f45p0 (f45s0 v0 v1) (joinK (some f45lE) K) =
  laws_markIntS.Z0 N v0 v1 (fun io100000 v4 => K .ret (f45s4 io100000 v4)) :=
  viaSeq (fun k => laws_markIntS.Z1 N v0 v1 k) (by kernel_rfl) (by kernel_rfl) (f45t1 N v0 v1 (seqK (fun σ => f45i N f45c2 f45p2 σ (joinK (some f45lE) K)) (joinK (some f45lE) K))) (funext fun v0 => funext fun v1 => f45t2 N v0 v1 K) (by kernel_rfl) (by kernel_rfl)
theorem f45m (N : Nat) (v0 : List Int) (v1 : Int) : f45i N f45c0 f45p0 (f45s0 v0 v1) (joinK (some f45lE) (finK tab f45sig Try.f45.results.toList)) = laws_markIntS.Z0 N v0 v1 (fun io100000 v4 => some (io100000, (v4, ()))) :=
  (f45t0 N v0 v1 (finK tab f45sig Try.f45.results.toList)).trans (by kernel_rfl)
theorem f45ok (h : laws_markIntS.Spec) : EntryOk Try.prog 45 e45 :=
  entry_of_code (sig := f45sig) (c := f45c0) (pl := f45p0) (je := (some f45lE)) (B := f45B) Try.func45 (by kernel_rfl) (by kernel_rfl) (by kernel_rfl) tabOk f45GOk (by kernel_rfl) (by kernel_rfl) (by kernel_rfl) (by kernel_rfl) fun X hb hp => by
    obtain ⟨v0, v1, _⟩ := X
    obtain ⟨N, h⟩ := h v0 v1 hb.1
    exact ⟨N, (f45m N v0 v1).trans (h N (Nat.le_refl N))⟩
theorem e45ok : EntryOk Try.prog 45 e45 := f45ok laws_markIntS.ok
end Go.Fw
set_option linter.unusedVariables false
set_option linter.unusedSimpArgs false
set_option maxRecDepth 100000
namespace Go.Fw
open Go.Proofs
/-! ### loop.example/g03115/laws.markMatrix -/
noncomputable def f32sig : Sig := ⟨[⟨.pair (.int .i64) (.pair (.int .i64) (.sl 3 (.int .i64))), true, true⟩, ⟨.int .i64, false, false⟩], [⟨.int .i64, false, false⟩]⟩
noncomputable def e32 : Entry := ⟨f32sig, none, fun X => ((laws_markMatrix.g X.1 X.2.1).1, ((laws_markMatrix.g X.1 X.2.1).2, ()))⟩
noncomputable def f32G : Nat → Option Entry := addG (fun _ => none) 45 e45
theorem f32GOk : GOk Try.prog f32G := (GOk.nil).add e45ok (by kernel_rfl)
noncomputable def f32lE : Clean := ⟨[], [], [], [], []⟩
noncomputable def f32s0 (v0 : Int × Int × List Int) (v1 : Int) : St := initSt f32sig.ps (v0, (v1, ()))
noncomputable def f32s1 (io100000_2 : List Int) (v4 io100000_0 io100000_1 : Int) : St := stOf [(4, .c (.int .i64 v4)), (100000, .agg [.int .i64 io100000_0, .int .i64 io100000_1, .own 7400002])] [] [(7400002, (⟨3, .int .i64, io100000_2, true, false⟩ : Row))]
noncomputable def f32l1 : Clean := ⟨[4, 100000], [], [], [], [(⟨false, 100000, 2⟩, 7400002)]⟩
noncomputable def f32B : Nat → Option Clean := lookL [(1000000, f32l1)]
noncomputable abbrev f32i {ρ : Type} (N : Nat) (c : Code) (p : Plan) (σ : St) (K : KT ρ) : Option ρ := iCode f32G tab f32B N c p σ K
noncomputable def f32c0 := codeAt (bodyOf Try.f32) []
theorem f32t0 {ρ : Type} (N : Nat) (v0 : Int × Int × List Int) (v1 : Int) (K : KT ρ) : f32i N f32c0 .n (f32s0 v0 v1) (joinK (some f32lE) K) =
  laws_markMatrix.Z0 N v0 v1 (fun io100000_2 v4 io100000_0 io100000_1 => K .ret (f32s1 io100000_2 v4 io100000_0 io100000_1)) := by kernel_rfl
theorem f32m (N : Nat) (v0 : Int × Int × List Int) (v1 : Int) : f32i N f32c0 .n (f32s0 v0 v1) (joinK (some f32lE) (finK tab f32sig Try.f32.results.toList)) = laws_markMatrix.Z0 N v0 v1 (fun io100000_2 v4 io100000_0 io100000_1 => some ((io100000_0, (io100000_1, io100000_2)), (v4, ()))) :=
  (f32t0 N v0 v1 (finK tab f32sig Try.f32.results.toList)).trans (by kernel_rfl)
theorem f32ok (h : laws_markMatrix.Spec) : EntryOk Try.prog 32 e32 :=
  entry_of_code (sig := f32sig) (c := f32c0) (pl := .n) (je := (some f32lE)) (B := f32B) Try.func32 (by kernel_rfl) (by kernel_rfl) (by kernel_rfl) tabOk f32GOk (by kernel_rfl) (by kernel_rfl) (by kernel_rfl) (by kernel_rfl) fun X hb hp => by
    obtain ⟨v0, v1, _⟩ := X
    obtain ⟨N, h⟩ := h v0 v1 hb.1
    exact ⟨N, (f32m N v0 v1).trans (h N (Nat.le_refl N))⟩
theorem e32ok : EntryOk Try.prog 32 e32 := f32ok laws_markMatrix.ok
end Go.Fw
set_option linter.unusedVariables false
set_option linter.unusedSimpArgs false
set_option maxRecDepth 100000
namespace Go.Fw
open Go.Proofs
/-! ### loop.example/g03115/laws.markIntSS -/
noncomputable def f37sig : Sig := ⟨[⟨.sl 24 (.sl 3 (.int .i64)), false, true⟩, ⟨.int .i64, false, false⟩], [⟨.int .i64, false, false⟩]⟩
noncomputable def e37 : Entry := ⟨f37sig, none, fun X => ((laws_markIntSS.g X.1 X.2.1).1, ((laws_markIntSS.g X.1 X.2.1).2, ()))⟩
noncomputable def f37G : Nat → Option Entry := addG (fun _ => none) 45 e45
theorem f37GOk : GOk Try.prog f37G := (GOk.nil).add e45ok (by kernel_rfl)
noncomputable def f37lE : Clean := ⟨[], [], [], [], []⟩
noncomputable def f37s0 (v0 : List (List Int)) (v1 : Int) : St := initSt f37sig.ps (v0, (v1, ()))
noncomputable def f37s1 (v0 : List (List Int)) (v1 : Int) : St := stOf [(0, .c (.own 1000000)), (1, .c (.int .i64 v1)), (100000, .c (.own 1000000))] [] [(1000000, (⟨24, .sl 3 (.int .i64), v0, true, false⟩ : Row))]
noncomputable def f37l1 : Clean := ⟨[0, 1, 100000], [], [], [], [(⟨false, 0, 0⟩, 1000000)]⟩
noncomputable def f37s2 (v0 : List (List Int)) (v1 v5 : Int) : St := stOf [(0, .c (.own 1000000)), (1, .c (.int .i64 v1)), (5, .c (.int .i64 v5)), (100000, .c (.own 1000000))] [] [(1000000, (⟨24, .sl 3 (.int .i64), v0, true, false⟩ : Row))]
noncomputable def f37l2 : Clean := ⟨[0, 1, 5, 100000], [], [], [], [(⟨false, 0, 0⟩, 1000000)]⟩
noncomputable def f37s3 (io100000 : List (List Int)) (v1 : Int) : St := stOf [(1, .c (.int .i64 v1)), (100000, .c (.own 7400000))] [] [(7400000, (⟨24, .sl 3 (.int .i64), io100000, true, false⟩ : Row))]
noncomputable def f37l3 : Clean := ⟨[1, 100000], [], [], [], [(⟨false, 100000, 0⟩, 7400000)]⟩
noncomputable def f37s4 (io100000 : List (List Int)) (v4 : Int) : St := stOf [(4, .c (.int .i64 v4)), (100000, .c (.own 7400000))] [] [(7400000, (⟨24, .sl 3 (.int .i64), io100000, true, false⟩ : Row))]
noncomputable def f37l4 : Clean := ⟨[4, 100000], [], [], [], [(⟨false, 100000, 0⟩, 7400000)]⟩
noncomputable def f37B : Nat → Option Clean := lookL [(0, f37l3), (1000000, f37l4)]
noncomputable abbrev f37i {ρ : Type} (N : Nat) (c : Code) (p : Plan) (σ : St) (K : KT ρ) : Option ρ := iCode f37G tab f37B N c p σ K
noncomputable def f37c1 := codeAt (bodyOf Try.f37) [0]
theorem f37t1 {ρ : Type} (N : Nat) (v0 : List (List Int)) (v1 : Int) (K : KT ρ) : f37i N f37c1 .n (f37s0 v0 v1) (joinK (some f37l1) K) =
  laws_markIntSS.Z1 N v0 v1 (fun v0 v1 => K .nrm (f37s1 v0 v1)) := by kernel_rfl
noncomputable def f37c4 := codeAt (bodyOf Try.f37) [1,0,0]
theorem f37t4 {ρ : Type} (N : Nat) (v0 : List (List Int)) (v1 : Int) (K : KT ρ) : f37i N f37c4 .n (f37s1 v0 v1) (joinK (some f37l2) K) =
  laws_markIntSS.Z4 N v0 v1 (fun v0 v1 v5 => K .nrm (f37s2 v0 v1 v5)) := by kernel_rfl
noncomputable def f37c7 := codeAt (bodyOf Try.f37) [1,0,1,0,0]
theorem f37t7 {ρ : Type} (N : Nat) (v0 : List (List Int)) (v1 v5 : Int) (K : KT ρ) : f37i N f37c7 .n (f37s2 v0 v1 v5) (joinK (some f37l2) K) =
  laws_markIntSS.Z7 N v0 v1 v5 (fun v0 v1 v5 => K .nrm (f37s2 v0 v1 v5)) (fun io100000 v1 => K (.exit 0) (f37s3 io100000 v1)) := by kernel_rfl
noncomputable def f37c6 := codeAt (bodyOf Try.f37) [1,0,1,0]
noncomputable def f37p6 : Plan := .mk none (some f37l2) .n .n
noncomputable abbrev f37w6 {ρ : Type} (N M : Nat) (σ : St) (K : KT ρ) : Option ρ := loopC (fun σ K => f37i N f37c7 .n σ K) f37l2 M σ K
theorem f37t6L {ρ : Type} (N : Nat) (K : KT ρ) : ∀ (M : Nat) (v0 : List (List Int)) (v1 v5 : Int), f37w6 N M (f37s2 v0 v1 v5) K =
  laws_markIntSS.Z6L N (fun io100000 v1 => K (.exit 0) (f37s3 io100000 v1)) M v0 v1 v5
  | 0, _, _, _ => rfl
  | M + 1, v0, v1, v5 => viaRound (fun k => laws_markIntSS.Z7 N v0 v1 v5 k (fun io100000 v1 => K (.exit 0) (f37s3 io100000 v1))) (f37t7 N v0 v1 v5 (seqK (fun σ => f37w6 N M σ K) K)) (funext fun v0 => funext fun v1 => funext fun v5 => f37t6L N K M v0 v1 v5) (by kernel_rfl) (by kernel_rfl)
theorem f37t6 {ρ : Type} (N : Nat) (v0 : List (List Int)) (v1 v5 : Int) (K : KT ρ) : f37i N f37c6 f37p6 (f37s2 v0 v1 v5) (joinK (some f37l3) K) =
  laws_markIntSS.Z6 N v0 v1 v5 (fun io100000 v1 => K (.exit 0) (f37s3 io100000 v1)) :=
  viaLoop (by kernel_rfl) (by kernel_rfl) (σ' := f37s2 v0 v1 v5) (by kernel_rfl) (f37t6L N (joinK (some f37l3) K) N v0 v1 v5) (by kernel_rfl)
noncomputable def f37c5 := codeAt (bodyOf Try.f37) [1,0,1]
noncomputable def f37p5 : Plan := .mk (some f37l3) none f37p6 .n
theorem f37t5 {ρ : Type} (N : Nat) (v0 : List (List Int)) (v1 v5 : Int) (K : KT ρ) : f37i N f37c5 f37p5 (f37s2 v0 v1 v5) (joinK (some f37l3) K) =
  laws_markIntSS.Z5 N v0 v1 v5 (fun io100000 v1 => K .nrm (f37s3 io100000 v1)) :=
  viaBlock (by kernel_rfl) (by kernel_rfl) (f37t6 N v0 v1 v5 (blockK 0 (joinK (some f37l3) K))) (by kernel_rfl)
noncomputable def f37c3 := codeAt (bodyOf Try.f37) [1,0]
noncomputable def f37p3 : Plan := .mk (some f37l2) none .n f37p5
theorem f37t3 {ρ : Type} (N : Nat) (v0 : List (List Int)) (v1 : Int) (K : KT ρ) : f37i N f37c3 f37p3 (f37s1 v0 v1) (joinK (some f37l3) K) =
  laws_markIntSS.Z3 N v0 v1 (fun io100000 v1 => K .nrm (f37s3 io100000 v1)) :=
  viaSeq (fun k => laws_markIntSS.Z4 N v0 v1 k) (by kernel_rfl) (by kernel_rfl) (f37t4 N v0 v1 (seqK (fun σ => f37i N f37c5 f37p5 σ (joinK (some f37l3) K)) (joinK (some f37l3) K))) (funext fun v0 => funext fun v1 => funext fun v5 => f37t5 N v0 v1 v5 K) (by kernel_rfl) (by kernel_rfl)
noncomputable def f37c8 := codeAt (bodyOf Try.f37) [1,1]
theorem f37t8 {ρ : Type} (N : Nat) (io100000 : List (List Int)) (v1 : Int) (K : KT ρ) : f37i N f37c8 .n (f37s3 io100000 v1) (joinK (some f37lE) K) =
  laws_markIntSS.Z8 N io100000 v1 (fun io100000 v4 => K .ret (f37s4 io100000 v4)) := by kernel_rfl
noncomputable def f37c2 := codeAt (bodyOf Try.f37) [1]
noncomputable def f37p2 : Plan := .mk (some f37l3) none f37p3 .n
theorem f37t2 {ρ : Type} (N : Nat) (v0 : List (List Int)) (v1 : Int) (K : KT ρ) : f37i N f37c2 f37p2 (f37s1 v0 v1) (joinK (some f37lE) K) =
  laws_markIntSS.Z2 N v0 v1 (fun io100000 v4 => K .ret (f37s4 io100000 v4)) :=
  viaSeq (fun k => laws_markIntSS.Z3 N v0 v1 k) (by kernel_rfl) (by kernel_rfl) (f37t3 N v0 v1 (seqK (fun σ => f37i N f37c8 .n σ (joinK (some f37lE) K)) (joinK (some f37lE) K))) (funext fun io100000 => funext fun v1 => f37t8 N io100000 v1 K) (by kernel_rfl) (by kernel_rfl)
noncomputable def f37c0 := codeAt (bodyOf Try.f37) []
noncomputable def f37p0 : Plan := .mk (some f37l1) none .n f37p2
theorem f37t0 {ρ : Type} (N : Nat) (v0 : List (List Int)) (v1 : Int) (K : KT ρ) : f37i N f37c0 f37p0 (f37s0 v0 v1) (joinK (some f37lE) K) =
  laws_markIntSS.Z0 N v0 v1 (fun io100000 v4 => K .ret (f37s4 io100000 v4)) :=
  viaSeq (fun k => laws_markIntSS.Z1 N v0 v1 k) (by kernel_rfl) (by kernel_rfl) (f37t1 N v0 v1 (seqK (fun σ => f37i N f37c2 f37p2 σ (joinK (some f37lE) K)) (joinK (some f37lE) K))) (funext fun v0 => funext fun v1 => f37t2 N v0 v1 K) (by kernel_rfl) (by kernel_rfl)
theorem f37m (N : Nat) (v0 : List (List Int)) (v1 : Int) : f37i N f37c0 f37p0 (f37s0 v0 v1) (joinK (some f37lE) (finK tab f37sig Try.f37.results.toList)) = laws_markIntSS.Z0 N v0 v1 (fun io100000 v4 => some (io100000, (v4, ()))) :=
  (f37t0 N v0 v1 (finK tab f37sig Try.f37.results.toList)).trans (by kernel_rfl)
theorem f37ok (h : laws_markIntSS.Spec) : EntryOk Try.prog 37 e37 :=
  entry_of_code (sig := f37sig) (c := f37c0) (pl := f37p0) (je := (some f37lE)) (B := f37B) Try.func37 (by kernel_rfl) (by kernel_rfl) (by kernel_rfl) tabOk f37GOk (by kernel_rfl) (by kernel_rfl) (by kernel_rfl) (by kernel_rfl) fun X hb hp => by
    obtain ⟨v0, v1, _⟩ := X
    obtain ⟨N, h⟩ := h v0 v1 hb.1
    exact ⟨N, (f37m N v0 v1).trans (h N (Nat.le_refl N))⟩
theorem e37ok : EntryOk Try.prog 37 e37 := f37ok laws_markIntSS.ok
end Go.Fw
set_option linter.unusedVariables false
set_option linter.unusedSimpArgs false
set_option maxRecDepth 100000
namespace Go.Fw
open Go.Proofs
/-! ### loop.example/g03115/laws.heldIntS -/
noncomputable def f73sig : Sig := ⟨[⟨.sl 3 (.int .i64), false, false⟩, ⟨.int .i64, false, false⟩], [⟨.int .i64, false, false⟩]⟩
noncomputable def e73 : Entry := ⟨f73sig, none, fun X => ((), ((laws_heldIntS.g X.1 X.2.1), ()))⟩
noncomputable def f73G : Nat → Option Entry := (fun _ => none)
theorem f73GOk : GOk Try.prog f73G := GOk.nil
noncomputable def f73lE : Clean := ⟨[], [], [], [], []⟩
noncomputable def f73s0 (v0 : List Int) (v1 : Int) : St := initSt f73sig.ps (v0, (v1, ()))
noncomputable def f73s1 (v0 : List Int) (v1 : Int) : St := stOf [(0, .c (.sn 3 (.int .i64) v0 none)), (1, .c (.int .i64 v1))] [] []
noncomputable def f73l1 : Clean := ⟨[0, 1], [], [], [], []⟩
noncomputable def f73s2 (v0 : List Int) (v1 v5 : Int) : St := stOf [(0, .c (.sn 3 (.int .i64) v0 none)), (1, .c (.int .i64 v1)), (5, .c (.int .i64 v5))] [] []
noncomputable def f73l2 : Clean := ⟨[0, 1, 5], [], [], [], []⟩
noncomputable def f73s3 (v1 : Int) : St := stOf [(1, .c (.int .i64 v1))] [] []
noncomputable def f73l3 : Clean := ⟨[1], [], [], [], []⟩
noncomputable def f73s4 (v4 : Int) : St := stOf [(4, .c (.int .i64 v4))] [] []
noncomputable def f73l4 : Clean := ⟨[4], [], [], [], []⟩
noncomputable def f73B : Nat → Option Clean := lookL [(0, f73l3), (1000000, f73l4)]
noncomputable abbrev f73i {ρ : Type} (N : Nat) (c : Code) (p : Plan) (σ : St) (K : KT ρ) : Option ρ := iCode f73G tab f73B N c p σ K
noncomputable def f73c1 := codeAt (bodyOf Try.f73) [0]
theorem f73t1 {ρ : Type} (N : Nat) (v0 : List Int) (v1 : Int) (K : KT ρ) : f73i N f73c1 .n (f73s0 v0 v1) (joinK (some f73l1) K) =
  laws_heldIntS.Z1 N v0 v1 (fun v0 v1 => K .nrm (f73s1 v0 v1)) := by kernel_rfl
noncomputable def f73c4 := codeAt (bodyOf Try.f73) [1,0,0]
theorem f73t4 {ρ : Type} (N : Nat) (v0 : List Int) (v1 : Int) (K : KT ρ) : f73i N f73c4 .n (f73s1 v0 v1) (joinK (some f73l2) K) =
  laws_heldIntS.Z4 N v0 v1 (fun v0 v1 v5 => K .nrm (f73s2 v0 v1 v5)) := by kernel_rfl
noncomputable def f73c7 := codeAt (bodyOf Try.f73) [1,0,1,0,0]
theorem f73t7 {ρ : Type} (N : Nat) (v0 : List Int) (v1 v5 : Int) (K : KT ρ) : f73i N f73c7 .n (f73s2 v0 v1 v5) (joinK (some f73l2) K) =
  laws_heldIntS.Z7 N v0 v1 v5 (fun v0 v1 v5 => K .nrm (f73s2 v0 v1 v5)) (fun v1 => K (.exit 0) (f73s3 v1)) (fun v4 => K .ret (f73s4 v4)) := by kernel_rfl
noncomputable def f73c6 := codeAt (bodyOf Try.f73) [1,0,1,0]
noncomputable def f73p6 : Plan := .mk none (some f73l2) .n .n
noncomputable abbrev f73w6 {ρ : Type} (N M : Nat) (σ : St) (K : KT ρ) : Option ρ := loopC (fun σ K => f73i N f73c7 .n σ K) f73l2 M σ K
theorem f73t6L {ρ : Type} (N : Nat) (K : KT ρ) : ∀ (M : Nat) (v0 : List Int) (v1 v5 : Int), f73w6 N M (f73s2 v0 v1 v5) K =
  laws_heldIntS.Z6L N (fun v1 => K (.exit 0) (f73s3 v1)) (fun v4 => K .ret (f73s4 v4)) M v0 v1 v5
  | 0, _, _, _ => rfl
  | M + 1, v0, v1, v5 => viaRound (fun k => laws_heldIntS.Z7 N v0 v1 v5 k (fun v1 => K (.exit 0) (f73s3 v1)) (fun v4 => K .ret (f73s4 v4))) (f73t7 N v0 v1 v5 (seqK (fun σ => f73w6 N M σ K) K)) (funext fun v0 => funext fun v1 => funext fun v5 => f73t6L N K M v0 v1 v5) (by kernel_rfl) (by kernel_rfl)
theorem f73t6 {ρ : Type} (N : Nat) (v0 : List Int) (v1 v5 : Int) (K : KT ρ) : f73i N f73c6 f73p6 (f73s2 v0 v1 v5) (joinK (some f73l3) K) =
  laws_heldIntS.Z6 N v0 v1 v5 (fun v1 => K (.exit 0) (f73s3 v1)) (fun v4 => K .ret (f73s4 v4)) :=
  viaLoop (by kernel_rfl) (by kernel_rfl) (σ' := f73s2 v0 v1 v5) (by kernel_rfl) (f73t6L N (joinK (some f73l3) K) N v0 v1 v5) (by kernel_rfl)
noncomputable def f73c5 := codeAt (bodyOf Try.f73) [1,0,1]
noncomputable def f73p5 : Plan := .mk (some f73l3) none f73p6 .n
theorem f73t5 {ρ : Type} (N : Nat) (v0 : List Int) (v1 v5 : Int) (K : KT ρ) : f73i N f73c5 f73p5 (f73s2 v0 v1 v5) (joinK (some f73l3) K) =
  laws_heldIntS.Z5 N v0 v1 v5 (fun v1 => K .nrm (f73s3 v1)) (fun v4 => K .ret (f73s4 v4)) :=
  viaBlock (by kernel_rfl) (by kernel_rfl) (f73t6 N v0 v1 v5 (blockK 0 (joinK (some f73l3) K))) (by kernel_rfl)
noncomputable def f73c3 := codeAt (bodyOf Try.f73) [1,0]
noncomputable def f73p3 : Plan := .mk (some f73l2) none .n f73p5
theorem f73t3 {ρ : Type} (N : Nat) (v0 : List Int) (v1 : Int) (K : KT ρ) : f73i N f73c3 f73p3 (f73s1 v0 v1) (joinK (some f73l3) K) =
  laws_heldIntS.Z3 N v0 v1 (fun v1 => K .nrm (f73s3 v1)) (fun v4 => K .ret (f73s4 v4)) :=
  viaSeq (fun k => laws_heldIntS.Z4 N v0 v1 k) (by kernel_rfl) (by kernel_rfl) (f73t4 N v0 v1 (seqK (fun σ => f73i N f73c5 f73p5 σ (joinK (some f73l3) K)) (joinK (some f73l3) K))) (funext fun v0 => funext fun v1 => funext fun v5 => f73t5 N v0 v1 v5 K) (by kernel_rfl) (by kernel_rfl)
noncomputable def f73c8 := codeAt (bodyOf Try.f73) [1,1]
theorem f73t8 {ρ : Type} (N : Nat) (v1 : Int) (K : KT ρ) : f73i N f73c8 .n (f73s3 v1) (joinK (some f73lE) K) =
  laws_heldIntS.Z8 N v1 (fun v4 => K .ret (f73s4 v4)) := by kernel_rfl
noncomputable def f73c2 := codeAt (bodyOf Try.f73) [1]
noncomputable def f73p2 : Plan := .mk (some f73l3) none f73p3 .n
theorem f73t2 {ρ : Type} (N : Nat) (v0 : List Int) (v1 : Int) (K : KT ρ) : f73i N f73c2 f73p2 (f73s1 v0 v1) (joinK (some f73lE) K) =
  laws_heldIntS.Z2 N v0 v1 (fun v4 => K .ret (f73s4 v4)) :=
  viaSeq (fun k => laws_heldIntS.Z3 N v0 v1 k (fun v4 => K .ret (f73s4 v4))) (by kernel_rfl) (by kernel_rfl) (f73t3 N v0 v1 (seqK (fun σ => f73i N f73c8 .n σ (joinK (some f73lE) K)) (joinK (some f73lE) K))) (funext fun v1 => f73t8 N v1 K) (by kernel_rfl) (by kernel_rfl)
noncomputable def f73c0 := codeAt (bodyOf Try.f73) []
noncomputable def f73p0 : Plan := .mk (some f73l1) none .n f73p2
theorem f73t0 {ρ : Type} (N : Nat) (v0 : List Int) (v1 : Int) (K : KT ρ) : f73i N f73c0 f73p0 (f73s0 v0 v1) (joinK (some f73lE) K) =
  laws_heldIntS.Z0 N v0 v1 (fun v4 => K .ret (f73s4 v4)) :=
  viaSeq (fun k => laws_heldIntS.Z1 N v0 v1 k) (by kernel_rfl) (by kernel_rfl) (f73t1 N v0 v1 (seqK (fun σ => f73i N f73c2 f73p2 σ (joinK (some f73lE) K)) (joinK (some f73lE) K))) (funext fun v0 => funext fun v1 => f73t2 N v0 v1 K) (by kernel_rfl) (by kernel_rfl)
theorem f73m (N : Nat) (v0 : List Int) (v1 : Int) : f73i N f73c0 f73p0 (f73s0 v0 v1) (joinK (some f73lE) (finK tab f73sig Try.f73.results.toList)) = laws_heldIntS.Z0 N v0 v1 (fun v4 => some ((), (v4, ()))) :=
  (f73t0 N v0 v1 (finK tab f73sig Try.f73.results.toList)).trans (by kernel_rfl)
theorem f73ok (h : laws_heldIntS.Spec) : EntryOk Try.prog 73 e73 :=
  entry_of_code (sig := f73sig) (c := f73c0) (pl := f73p0) (je := (some f73lE)) (B := f73B) Try.func73 (by kernel_rfl) (by kernel_rfl) (by kernel_rfl) tabOk f73GOk (by kernel_rfl) (by kernel_rfl) (by kernel_rfl) (by kernel_rfl) fun X hb hp => by
    obtain ⟨v0, v1, _⟩ := X
    obtain ⟨N, h⟩ := h v0 v1 hb.1
    exact ⟨N, (f73m N v0 v1).trans (h N (Nat.le_refl N))⟩
theorem e73ok : EntryOk Try.prog 73 e73 := f73ok laws_heldIntS.ok
end Go.Fw
set_option linter.unusedVariables false
set_option linter.unusedSimpArgs false
set_option maxRecDepth 100000
namespace Go.Fw
open Go.Proofs
/-! ### loop.example/g03115/laws.heldIntSS -/
noncomputable def f38sig : Sig := ⟨[⟨.sl 24 (.sl 3 (.int .i64)), false, false⟩, ⟨.int .i64, false, false⟩], [⟨.int .i64, false, false⟩]⟩
noncomputable def e38 : Entry := ⟨f38sig, none, fun X => ((), ((laws_heldIntSS.g X.1 X.2.1), ()))⟩
noncomputable def f38G : Nat → Option Entry := addG (fun _ => none) 73 e73
theorem f38GOk : GOk Try.prog f38G := (GOk.nil).add e73ok (by kernel_rfl)
noncomputable def f38lE : Clean := ⟨[], [], [], [], []⟩
noncomputable def f38s0 (v0 : List (List Int)) (v1 : Int) : St := initSt f38sig.ps (v0, (v1, ()))
noncomputable def f38s1 (v0 : List (List Int)) (v1 : Int) : St := stOf [(0, .c (.sn 24 (.sl 3 (.int .i64)) v0 none)), (1, .c (.int .i64 v1))] [] []
noncomputable def f38l1 : Clean := ⟨[0, 1], [], [], [], []⟩
noncomputable def f38s2 (v0 : List (List Int)) (v1 v5 : Int) : St := stOf [(0, .c (.sn 24 (.sl 3 (.int .i64)) v0 none)), (1, .c (.int .i64 v1)), (5, .c (.int .i64 v5))] [] []
noncomputable def f38l2 : Clean := ⟨[0, 1, 5], [], [], [], []⟩
noncomputable def f38s3 (v1 : Int) : St := stOf [(1, .c (.int .i64 v1))] [] []
noncomputable def f38l3 : Clean := ⟨[1], [], [], [], []⟩
noncomputable def f38s4 (v4 : Int) : St := stOf [(4, .c (.int .i64 v4))] [] []
noncomputable def f38l4 : Clean := ⟨[4], [], [], [], []⟩
noncomputable def f38B : Nat → Option Clean := lookL [(0, f38l3), (1000000, f38l4)]
noncomputable abbrev f38i {ρ : Type} (N : Nat) (c : Code) (p : Plan) (σ : St) (K : KT ρ) : Option ρ := iCode f38G tab f38B N c p σ K
noncomputable def f38c1 := codeAt (bodyOf Try.f38) [0]
theorem f38t1 {ρ : Type} (N : Nat) (v0 : List (List Int)) (v1 : Int) (K : KT ρ) : f38i N f38c1 .n (f38s0 v0 v1) (joinK (some f38l1) K) =
  laws_heldIntSS.Z1 N v0 v1 (fun v0 v1 => K .nrm (f38s1 v0 v1)) := by kernel_rfl
noncomputable def f38c4 := codeAt (bodyOf Try.f38) [1,0,0]
theorem f38t4 {ρ : Type} (N : Nat) (v0 : List (List Int)) (v1 : Int) (K : KT ρ) : f38i N f38c4 .n (f38s1 v0 v1) (joinK (some f38l2) K) =
  laws_heldIntSS.Z4 N v0 v1 (fun v0 v1 v5 => K .nrm (f38s2 v0 v1 v5)) := by kernel_rfl
noncomputable def f38c7 := codeAt (bodyOf Try.f38) [1,0,1,0,0]
theorem f38t7 {ρ : Type} (N : Nat) (v0 : List (List Int)) (v1 v5 : Int) (K : KT ρ) : f38i N f38c7 .n (f38s2 v0 v1 v5) (joinK (some f38l2) K) =
  laws_heldIntSS.Z7 N v0 v1 v5 (fun v0 v1 v5 => K .nrm (f38s2 v0 v1 v5)) (fun v1 => K (.exit 0) (f38s3 v1)) (fun v4 => K .ret (f38s4 v4)) := by kernel_rfl
noncomputable def f38c6 := codeAt (bodyOf Try.f38) [1,0,1,0]
noncomputable def f38p6 : Plan := .mk none (some f38l2) .n .n
noncomputable abbrev f38w6 {ρ : Type} (N M : Nat) (σ : St) (K : KT ρ) : Option ρ := loopC (fun σ K => f38i N f38c7 .n σ K) f38l2 M σ K
theorem f38t6L {ρ : Type} (N : Nat) (K : KT ρ) : ∀ (M : Nat) (v0 : List (List Int)) (v1 v5 : Int), f38w6 N M (f38s2 v0 v1 v5) K =
  laws_heldIntSS.Z6L N (fun v1 => K (.exit 0) (f38s3 v1)) (fun v4 => K .ret (f38s4 v4)) M v0 v1 v5
  | 0, _, _, _ => rfl
  | M + 1, v0, v1, v5 => viaRound (fun k => laws_heldIntSS.Z7 N v0 v1 v5 k (fun v1 => K (.exit 0) (f38s3 v1)) (fun v4 => K .ret (f38s4 v4))) (f38t7 N v0 v1 v5 (seqK (fun σ => f38w6 N M σ K) K)) (funext fun v0 => funext fun v1 => funext fun v5 => f38t6L N K M v0 v1 v5) (by kernel_rfl) (by kernel_rfl)
theorem f38t6 {ρ : Type} (N : Nat) (v0 : List (List Int)) (v1 v5 : Int) (K : KT ρ) : f38i N f38c6 f38p6 (f38s2 v0 v1 v5) (joinK (some f38l3) K) =
  laws_heldIntSS.Z6 N v0 v1 v5 (fun v1 => K (.exit 0) (f38s3 v1)) (fun v4 => K .ret (f38s4 v4)) :=
  viaLoop (by kernel_rfl) (by kernel_rfl) (σ' := f38s2 v0 v1 v5) (by kernel_rfl) (f38t6L N (joinK (some f38l3) K) N v0 v1 v5) (by kernel_rfl)
noncomputable def f38c5 := codeAt (bodyOf Try.f38) [1,0,1]
noncomputable def f38p5 : Plan := .mk (some f38l3) none f38p6 .n
theorem f38t5 {ρ : Type} (N : Nat) (v0 : List (List Int)) (v1 v5 : Int) (K : KT ρ) : f38i N f38c5 f38p5 (f38s2 v0 v1 v5) (joinK (some f38l3) K) =
  laws_heldIntSS.Z5 N v0 v1 v5 (fun v1 => K .nrm (f38s3 v1)) (fun v4 => K .ret (f38s4 v4)) :=
  viaBlock (by kernel_rfl) (by kernel_rfl) (f38t6 N v0 v1 v5 (blockK 0 (joinK (some f38l3) K))) (by kernel_rfl)
noncomputable def f38c3 := codeAt (bodyOf Try.f38) [1,0]
noncomputable def f38p3 : Plan := .mk (some f38l2) none .n f38p5
theorem f38t3 {ρ : Type} (N : Nat) (v0 : List (List Int)) (v1 : Int) (K : KT ρ) : f38i N f38c3 f38p3 (f38s1 v0 v1) (joinK (some f38l3) K) =
  laws_heldIntSS.Z3 N v0 v1 (fun v1 => K .nrm (f38s3 v1)) (fun v4 => K .ret (f38s4 v4)) :=
  viaSeq (fun k => laws_heldIntSS.Z4 N v0 v1 k) (by kernel_rfl) (by kernel_rfl) (f38t4 N v0 v1 (seqK (fun σ => f38i N f38c5 f38p5 σ (joinK (some f38l3) K)) (joinK (some f38l3) K))) (funext fun v0 => funext fun v1 => funext fun v5 => f38t5 N v0 v1 v5 K) (by kernel_rfl) (by kernel_rfl)
noncomputable def f38c8 := codeAt (bodyOf Try.f38) [1,1]
theorem f38t8 {ρ : Type} (N : Nat) (v1 : Int) (K : KT ρ) : f38i N f38c8 .n (f38s3 v1) (joinK (some f38lE) K) =
  laws_heldIntSS.Z8 N v1 (fun v4 => K .ret (f38s4 v4)) := by kernel_rfl
noncomputable def f38c2 := codeAt (bodyOf Try.f38) [1]
noncomputable def f38p2 : Plan := .mk (some f38l3) none f38p3 .n
theorem f38t2 {ρ : Type} (N : Nat) (v0 : List (List Int)) (v1 : Int) (K : KT ρ) : f38i N f38c2 f38p2 (f38s1 v0 v1) (joinK (some f38lE) K) =
  laws_heldIntSS.Z2 N v0 v1 (fun v4 => K .ret (f38s4 v4)) :=
  viaSeq (fun k => laws_heldIntSS.Z3 N v0 v1 k (fun v4 => K .ret (f38s4 v4))) (by kernel_rfl) (by kernel_rfl) (f38t3 N v0 v1 (seqK (fun σ => f38i N f38c8 .n σ (joinK (some f38lE) K)) (joinK (some f38lE) K))) (funext fun v1 => f38t8 N v1 K) (by kernel_rfl) (by kernel_rfl)
noncomputable def f38c0 := codeAt (bodyOf Try.f38) []
noncomputable def f38p0 : Plan := .mk (some f38l1) none .n f38p2
theorem f38t0 {ρ : Type} (N : Nat) (v0 : List (List Int)) (v1 : Int) (K : KT ρ) : f38i N f38c0 f38p0 (f38s0 v0 v1) (joinK (some f38lE) K) =
  laws_heldIntSS.Z0 N v0 v1 (fun v4 => K .ret (f38s4 v4)) :=
  viaSeq (fun k => laws_heldIntSS.Z1 N v0 v1 k) (by kernel_rfl) (by kernel_rfl) (f38t1 N v0 v1 (seqK (fun σ => f38i N f38c2 f38p2 σ (joinK (some f38lE) K)) (joinK (some f38lE) K))) (funext fun v0 => funext fun v1 => f38t2 N v0 v1 K) (by kernel_rfl) (by kernel_rfl)
theorem f38m (N : Nat) (v0 : List (List Int)) (v1 : Int) : f38i N f38c0 f38p0 (f38s0 v0 v1) (joinK (some f38lE) (finK tab f38sig Try.f38.results.toList)) = laws_heldIntSS.Z0 N v0 v1 (fun v4 => some ((), (v4, ()))) :=
  (f38t0 N v0 v1 (finK tab f38sig Try.f38.results.toList)).trans (by kernel_rfl)
theorem f38ok (h : laws_heldIntSS.Spec) : EntryOk Try.prog 38 e38 :=
  entry_of_code (sig := f38sig) (c := f38c0) (pl := f38p0) (je := (some f38lE)) (B := f38B) Try.func38 (by kernel_rfl) (by kernel_rfl) (by kernel_rfl) tabOk f38GOk (by kernel_rfl) (by kernel_rfl) (by kernel_rfl) (by kernel_rfl) fun X hb hp => by
    obtain ⟨v0, v1, _⟩ := X
    obtain ⟨N, h⟩ := h v0 v1 hb.1
    exact ⟨N, (f38m N v0 v1).trans (h N (Nat.le_refl N))⟩
theorem e38ok : EntryOk Try.prog 38 e38 := f38ok laws_heldIntSS.ok
end Go.Fw
