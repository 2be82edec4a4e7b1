/- The ties: the program's text comes to the plain functions. Nothing is assumed. -/
import Derived.Test.YtillpdbmnjkjiaaPuFnExactGVectorsOfa
import Derived.Test.YtillpdbmnjkjiaaTiFnExactGVectorsOfa
import Derived.Test.YtillpdbmnjkjiaaPuFnExactGVectorsOfb
set_option linter.unusedVariables false
set_option linter.unusedSimpArgs false
set_option maxRecDepth 100000
namespace Go.Fw
variable {ρ : Type}
open Go.Proofs
noncomputable def f76sig : Sig := ⟨[⟨.pair (.int .i64) (.pair (.int .i64) (.sl 3 (.int .i64))), true, false⟩], [⟨.sl 3 (.int .i64), false, true⟩]⟩
noncomputable def e76 : Entry := ⟨f76sig, (some fun X => impl_factors.P X.1), fun X => ((), ((impl_factors.g X.1), ()))⟩
noncomputable def f76G : Nat → Option Entry := addG (addG (fun _ => none) 83 e83) 110 e110
theorem f76GOk : GOk Try.prog f76G := ((GOk.nil).add e83ok (by kernel_rfl)).add e110ok (by kernel_rfl)
noncomputable def f76lE : Clean := ⟨[], [], [], [], []⟩
noncomputable def f76s0 (v0 : MT) : St := initSt f76sig.ps (v0, ())
noncomputable def f76s1 (v1_0 v1_1 : Int) (v1_2 : LI) : St := stOf [(1, xb 1)] [(1, (30, [yi v1_0, yi v1_1, .sn 3 tI v1_2 none]))] []
noncomputable def f76l1 : Clean := ⟨[1], [1], [], [], []⟩
noncomputable def f76s2 (v3 v4 : LI) (v1_0 v1_1 : Int) (v1_2 : LI) : St := stOf [(1, xb 1), (3, xo 1000192), (4, xo 1000256)] [(1, (30, [yi v1_0, yi v1_1, .sn 3 tI v1_2 none]))] [(1000192, (⟨3, .int .i64, v3, true, false⟩ : Row)), (1000256, (⟨3, .int .i64, v4, true, false⟩ : Row))]
noncomputable def f76l2 : Clean := ⟨[1, 3, 4], [1], [], [], [(⟨false, 3, 0⟩, 1000192), (⟨false, 4, 0⟩, 1000256)]⟩
noncomputable def f76s3 (v3 v4 v5 : LI) (v1_0 v1_1 : Int) (v1_2 : LI) : St := stOf [(1, xb 1), (3, xo 1000192), (4, xo 1000256), (5, xo 1000320)] [(1, (30, [yi v1_0, yi v1_1, .sn 3 tI v1_2 none]))] [(1000192, (⟨3, .int .i64, v3, true, false⟩ : Row)), (1000256, (⟨3, .int .i64, v4, true, false⟩ : Row)), (1000320, (⟨3, .int .i64, v5, true, false⟩ : Row))]
noncomputable def f76l3 : Clean := ⟨[1, 3, 4, 5], [1], [], [], [(⟨false, 3, 0⟩, 1000192), (⟨false, 4, 0⟩, 1000256), (⟨false, 5, 0⟩, 1000320)]⟩
noncomputable def f76s4 (v3 v4 v5 : LI) (v34 v35 v1_0 v1_1 : Int) (v1_2 : LI) : St := stOf [(1, xb 1), (3, xo 1000192), (4, xo 1000256), (5, xo 1000320), (34, xi v34), (35, xi v35)] [(1, (30, [yi v1_0, yi v1_1, .sn 3 tI v1_2 none]))] [(1000192, (⟨3, .int .i64, v3, true, false⟩ : Row)), (1000256, (⟨3, .int .i64, v4, true, false⟩ : Row)), (1000320, (⟨3, .int .i64, v5, true, false⟩ : Row))]
noncomputable def f76l4 : Clean := ⟨[1, 3, 4, 5, 34, 35], [1], [], [], [(⟨false, 3, 0⟩, 1000192), (⟨false, 4, 0⟩, 1000256), (⟨false, 5, 0⟩, 1000320)]⟩
noncomputable def f76s5 (v3 v4 v5 : LI) (v34 v35 : Int) (v36 : Bool) (v1_0 v1_1 : Int) (v1_2 : LI) : St := stOf [(1, xb 1), (3, xo 1000192), (4, xo 1000256), (5, xo 1000320), (34, xi v34), (35, xi v35), (36, xB v36)] [(1, (30, [yi v1_0, yi v1_1, .sn 3 tI v1_2 none]))] [(1000192, (⟨3, .int .i64, v3, true, false⟩ : Row)), (1000256, (⟨3, .int .i64, v4, true, false⟩ : Row)), (1000320, (⟨3, .int .i64, v5, true, false⟩ : Row))]
noncomputable def f76l5 : Clean := ⟨[1, 3, 4, 5, 34, 35, 36], [1], [], [], [(⟨false, 3, 0⟩, 1000192), (⟨false, 4, 0⟩, 1000256), (⟨false, 5, 0⟩, 1000320)]⟩
noncomputable def f76s6 (v3 v4 v5 : LI) (v6 v34 v35 v1_0 v1_1 : Int) (v1_2 : LI) : St := stOf [(1, xb 1), (3, xo 1000192), (4, xo 1000256), (5, xo 1000320), (6, xi v6), (34, xi v34), (35, xi v35)] [(1, (30, [yi v1_0, yi v1_1, .sn 3 tI v1_2 none]))] [(1000192, (⟨3, .int .i64, v3, true, false⟩ : Row)), (1000256, (⟨3, .int .i64, v4, true, false⟩ : Row)), (1000320, (⟨3, .int .i64, v5, true, false⟩ : Row))]
noncomputable def f76l6 : Clean := ⟨[1, 3, 4, 5, 6, 34, 35], [1], [], [], [(⟨false, 3, 0⟩, 1000192), (⟨false, 4, 0⟩, 1000256), (⟨false, 5, 0⟩, 1000320)]⟩
noncomputable def f76s7 (v3 v4 v5 v7 : LI) (v34 v35 v1_0 v1_1 : Int) (v1_2 : LI) : St := stOf [(1, xb 1), (3, xo 1000192), (4, xo 1000256), (5, xo 1000320), (7, xo 1000448), (34, xi v34), (35, xi v35)] [(1, (30, [yi v1_0, yi v1_1, .sn 3 tI v1_2 none]))] [(1000192, (⟨3, .int .i64, v3, true, false⟩ : Row)), (1000256, (⟨3, .int .i64, v4, true, false⟩ : Row)), (1000320, (⟨3, .int .i64, v5, true, false⟩ : Row)), (1000448, (⟨3, .int .i64, v7, true, false⟩ : Row))]
noncomputable def f76l7 : Clean := ⟨[1, 3, 4, 5, 7, 34, 35], [1], [], [], [(⟨false, 3, 0⟩, 1000192), (⟨false, 4, 0⟩, 1000256), (⟨false, 5, 0⟩, 1000320), (⟨false, 7, 0⟩, 1000448)]⟩
noncomputable def f76s8 (v3 v4 v5 v7 : LI) (v8 v34 v35 v1_0 v1_1 : Int) (v1_2 : LI) : St := stOf [(1, xb 1), (3, xo 1000192), (4, xo 1000256), (5, xo 1000320), (7, xo 1000448), (8, xi v8), (34, xi v34), (35, xi v35)] [(1, (30, [yi v1_0, yi v1_1, .sn 3 tI v1_2 none]))] [(1000192, (⟨3, .int .i64, v3, true, false⟩ : Row)), (1000256, (⟨3, .int .i64, v4, true, false⟩ : Row)), (1000320, (⟨3, .int .i64, v5, true, false⟩ : Row)), (1000448, (⟨3, .int .i64, v7, true, false⟩ : Row))]
noncomputable def f76l8 : Clean := ⟨[1, 3, 4, 5, 7, 8, 34, 35], [1], [], [], [(⟨false, 3, 0⟩, 1000192), (⟨false, 4, 0⟩, 1000256), (⟨false, 5, 0⟩, 1000320), (⟨false, 7, 0⟩, 1000448)]⟩
noncomputable def f76s9 (v3 v4 v5 v7 : LI) (v8 v9 v34 v35 v1_0 v1_1 : Int) (v1_2 : LI) : St := stOf [(1, xb 1), (3, xo 1000192), (4, xo 1000256), (5, xo 1000320), (7, xo 1000448), (8, xi v8), (9, xi v9), (34, xi v34), (35, xi v35)] [(1, (30, [yi v1_0, yi v1_1, .sn 3 tI v1_2 none]))] [(1000192, (⟨3, .int .i64, v3, true, false⟩ : Row)), (1000256, (⟨3, .int .i64, v4, true, false⟩ : Row)), (1000320, (⟨3, .int .i64, v5, true, false⟩ : Row)), (1000448, (⟨3, .int .i64, v7, true, false⟩ : Row))]
noncomputable def f76l9 : Clean := ⟨[1, 3, 4, 5, 7, 8, 9, 34, 35], [1], [], [], [(⟨false, 3, 0⟩, 1000192), (⟨false, 4, 0⟩, 1000256), (⟨false, 5, 0⟩, 1000320), (⟨false, 7, 0⟩, 1000448)]⟩
noncomputable def f76s10 (v3 v4 v5 v7 : LI) (v8 v9 v34 v35 v62 v63 v1_0 v1_1 : Int) (v1_2 : LI) : St := stOf [(1, xb 1), (3, xo 1000192), (4, xo 1000256), (5, xo 1000320), (7, xo 1000448), (8, xi v8), (9, xi v9), (34, xi v34), (35, xi v35), (62, xi v62), (63, xi v63)] [(1, (30, [yi v1_0, yi v1_1, .sn 3 tI v1_2 none]))] [(1000192, (⟨3, .int .i64, v3, true, false⟩ : Row)), (1000256, (⟨3, .int .i64, v4, true, false⟩ : Row)), (1000320, (⟨3, .int .i64, v5, true, false⟩ : Row)), (1000448, (⟨3, .int .i64, v7, true, false⟩ : Row))]
noncomputable def f76l10 : Clean := ⟨[1, 3, 4, 5, 7, 8, 9, 34, 35, 62, 63], [1], [], [], [(⟨false, 3, 0⟩, 1000192), (⟨false, 4, 0⟩, 1000256), (⟨false, 5, 0⟩, 1000320), (⟨false, 7, 0⟩, 1000448)]⟩
noncomputable def f76s11 (v3 v4 v5 v7 : LI) (v8 v9 v34 v35 v62 v63 : Int) (v64 : Bool) (v1_0 v1_1 : Int) (v1_2 : LI) : St := stOf [(1, xb 1), (3, xo 1000192), (4, xo 1000256), (5, xo 1000320), (7, xo 1000448), (8, xi v8), (9, xi v9), (34, xi v34), (35, xi v35), (62, xi v62), (63, xi v63), (64, xB v64)] [(1, (30, [yi v1_0, yi v1_1, .sn 3 tI v1_2 none]))] [(1000192, (⟨3, .int .i64, v3, true, false⟩ : Row)), (1000256, (⟨3, .int .i64, v4, true, false⟩ : Row)), (1000320, (⟨3, .int .i64, v5, true, false⟩ : Row)), (1000448, (⟨3, .int .i64, v7, true, false⟩ : Row))]
noncomputable def f76l11 : Clean := ⟨[1, 3, 4, 5, 7, 8, 9, 34, 35, 62, 63, 64], [1], [], [], [(⟨false, 3, 0⟩, 1000192), (⟨false, 4, 0⟩, 1000256), (⟨false, 5, 0⟩, 1000320), (⟨false, 7, 0⟩, 1000448)]⟩
noncomputable def f76s12 (v3 v4 v5 v7 : LI) (v8 v9 v10 v34 v35 v62 v63 v1_0 v1_1 : Int) (v1_2 : LI) : St := stOf [(1, xb 1), (3, xo 1000192), (4, xo 1000256), (5, xo 1000320), (7, xo 1000448), (8, xi v8), (9, xi v9), (10, xi v10), (34, xi v34), (35, xi v35), (62, xi v62), (63, xi v63)] [(1, (30, [yi v1_0, yi v1_1, .sn 3 tI v1_2 none]))] [(1000192, (⟨3, .int .i64, v3, true, false⟩ : Row)), (1000256, (⟨3, .int .i64, v4, true, false⟩ : Row)), (1000320, (⟨3, .int .i64, v5, true, false⟩ : Row)), (1000448, (⟨3, .int .i64, v7, true, false⟩ : Row))]
noncomputable def f76l12 : Clean := ⟨[1, 3, 4, 5, 7, 8, 9, 10, 34, 35, 62, 63], [1], [], [], [(⟨false, 3, 0⟩, 1000192), (⟨false, 4, 0⟩, 1000256), (⟨false, 5, 0⟩, 1000320), (⟨false, 7, 0⟩, 1000448)]⟩
noncomputable def f76s13 (v3 v4 v5 v7 : LI) (v8 v9 v10 v11 v12 v34 v35 v62 v63 v1_0 v1_1 : Int) (v1_2 : LI) : St := stOf [(1, xb 1), (3, xo 1000192), (4, xo 1000256), (5, xo 1000320), (7, xo 1000448), (8, xi v8), (9, xi v9), (10, xi v10), (11, xi v11), (12, xi v12), (34, xi v34), (35, xi v35), (62, xi v62), (63, xi v63)] [(1, (30, [yi v1_0, yi v1_1, .sn 3 tI v1_2 none]))] [(1000192, (⟨3, .int .i64, v3, true, false⟩ : Row)), (1000256, (⟨3, .int .i64, v4, true, false⟩ : Row)), (1000320, (⟨3, .int .i64, v5, true, false⟩ : Row)), (1000448, (⟨3, .int .i64, v7, true, false⟩ : Row))]
noncomputable def f76l13 : Clean := ⟨[1, 3, 4, 5, 7, 8, 9, 10, 11, 12, 34, 35, 62, 63], [1], [], [], [(⟨false, 3, 0⟩, 1000192), (⟨false, 4, 0⟩, 1000256), (⟨false, 5, 0⟩, 1000320), (⟨false, 7, 0⟩, 1000448)]⟩
noncomputable def f76s14 (v3 v4 v5 v7 : LI) (v16 v34 v35 v1_0 v1_1 : Int) (v1_2 : LI) : St := stOf [(1, xb 1), (3, xo 1000192), (4, xo 1000256), (5, xo 1000320), (7, xo 1000448), (16, xi v16), (34, xi v34), (35, xi v35)] [(1, (30, [yi v1_0, yi v1_1, .sn 3 tI v1_2 none]))] [(1000192, (⟨3, .int .i64, v3, true, false⟩ : Row)), (1000256, (⟨3, .int .i64, v4, true, false⟩ : Row)), (1000320, (⟨3, .int .i64, v5, true, false⟩ : Row)), (1000448, (⟨3, .int .i64, v7, true, false⟩ : Row))]
noncomputable def f76l14 : Clean := ⟨[1, 3, 4, 5, 7, 16, 34, 35], [1], [], [], [(⟨false, 3, 0⟩, 1000192), (⟨false, 4, 0⟩, 1000256), (⟨false, 5, 0⟩, 1000320), (⟨false, 7, 0⟩, 1000448)]⟩
noncomputable def f76s15 (v3 v4 v5 v7 : LI) (v16 v34 v35 v159 v160 v1_0 v1_1 : Int) (v1_2 : LI) : St := stOf [(1, xb 1), (3, xo 1000192), (4, xo 1000256), (5, xo 1000320), (7, xo 1000448), (16, xi v16), (34, xi v34), (35, xi v35), (158, xo 1000448), (159, xi v159), (160, xi v160)] [(1, (30, [yi v1_0, yi v1_1, .sn 3 tI v1_2 none]))] [(1000192, (⟨3, .int .i64, v3, true, false⟩ : Row)), (1000256, (⟨3, .int .i64, v4, true, false⟩ : Row)), (1000320, (⟨3, .int .i64, v5, true, false⟩ : Row)), (1000448, (⟨3, .int .i64, v7, true, false⟩ : Row))]
noncomputable def f76l15 : Clean := ⟨[1, 3, 4, 5, 7, 16, 34, 35, 158, 159, 160], [1], [], [], [(⟨false, 3, 0⟩, 1000192), (⟨false, 4, 0⟩, 1000256), (⟨false, 5, 0⟩, 1000320), (⟨false, 7, 0⟩, 1000448)]⟩
noncomputable def f76s16 (v3 v4 v5 v7 : LI) (v16 v19 v34 v35 v1_0 v1_1 : Int) (v1_2 : LI) : St := stOf [(1, xb 1), (3, xo 1000192), (4, xo 1000256), (5, xo 1000320), (7, xo 1000448), (16, xi v16), (19, xi v19), (34, xi v34), (35, xi v35)] [(1, (30, [yi v1_0, yi v1_1, .sn 3 tI v1_2 none]))] [(1000192, (⟨3, .int .i64, v3, true, false⟩ : Row)), (1000256, (⟨3, .int .i64, v4, true, false⟩ : Row)), (1000320, (⟨3, .int .i64, v5, true, false⟩ : Row)), (1000448, (⟨3, .int .i64, v7, true, false⟩ : Row))]
noncomputable def f76l16 : Clean := ⟨[1, 3, 4, 5, 7, 16, 19, 34, 35], [1], [], [], [(⟨false, 3, 0⟩, 1000192), (⟨false, 4, 0⟩, 1000256), (⟨false, 5, 0⟩, 1000320), (⟨false, 7, 0⟩, 1000448)]⟩
noncomputable def f76s17 (v3 v4 v5 v7 : LI) (v16 v19 v34 v35 v179 v180 v1_0 v1_1 : Int) (v1_2 : LI) : St := stOf [(1, xb 1), (3, xo 1000192), (4, xo 1000256), (5, xo 1000320), (7, xo 1000448), (16, xi v16), (19, xi v19), (34, xi v34), (35, xi v35), (178, xo 1000448), (179, xi v179), (180, xi v180)] [(1, (30, [yi v1_0, yi v1_1, .sn 3 tI v1_2 none]))] [(1000192, (⟨3, .int .i64, v3, true, false⟩ : Row)), (1000256, (⟨3, .int .i64, v4, true, false⟩ : Row)), (1000320, (⟨3, .int .i64, v5, true, false⟩ : Row)), (1000448, (⟨3, .int .i64, v7, true, false⟩ : Row))]
noncomputable def f76l17 : Clean := ⟨[1, 3, 4, 5, 7, 16, 19, 34, 35, 178, 179, 180], [1], [], [], [(⟨false, 3, 0⟩, 1000192), (⟨false, 4, 0⟩, 1000256), (⟨false, 5, 0⟩, 1000320), (⟨false, 7, 0⟩, 1000448)]⟩
noncomputable def f76s18 (v3 v4 v5 v7 : LI) (v19 v34 v35 v1_0 v1_1 : Int) (v1_2 : LI) : St := stOf [(1, xb 1), (3, xo 1000192), (4, xo 1000256), (5, xo 1000320), (7, xo 1000448), (19, xi v19), (34, xi v34), (35, xi v35)] [(1, (30, [yi v1_0, yi v1_1, .sn 3 tI v1_2 none]))] [(1000192, (⟨3, .int .i64, v3, true, false⟩ : Row)), (1000256, (⟨3, .int .i64, v4, true, false⟩ : Row)), (1000320, (⟨3, .int .i64, v5, true, false⟩ : Row)), (1000448, (⟨3, .int .i64, v7, true, false⟩ : Row))]
noncomputable def f76l18 : Clean := ⟨[1, 3, 4, 5, 7, 19, 34, 35], [1], [], [], [(⟨false, 3, 0⟩, 1000192), (⟨false, 4, 0⟩, 1000256), (⟨false, 5, 0⟩, 1000320), (⟨false, 7, 0⟩, 1000448)]⟩
noncomputable def f76s19 (v3 v4 v5 v205 : LI) (v19 v34 v35 v206 v207 v1_0 v1_1 : Int) (v1_2 : LI) : St := stOf [(1, xb 1), (3, xo 1000192), (4, xo 1000256), (5, xo 1000320), (19, xi v19), (34, xi v34), (35, xi v35), (205, xo 1013120), (206, xi v206), (207, xi v207)] [(1, (30, [yi v1_0, yi v1_1, .sn 3 tI v1_2 none]))] [(1000192, (⟨3, .int .i64, v3, true, false⟩ : Row)), (1000256, (⟨3, .int .i64, v4, true, false⟩ : Row)), (1000320, (⟨3, .int .i64, v5, true, false⟩ : Row)), (1013120, (⟨3, .int .i64, v205, true, false⟩ : Row))]
noncomputable def f76l19 : Clean := ⟨[1, 3, 4, 5, 19, 34, 35, 205, 206, 207], [1], [], [], [(⟨false, 3, 0⟩, 1000192), (⟨false, 4, 0⟩, 1000256), (⟨false, 5, 0⟩, 1000320), (⟨false, 205, 0⟩, 1013120)]⟩
noncomputable def f76s20 (v5 : LI) : St := stOf [(5, xo 1000320)] [] [(1000320, (⟨3, .int .i64, v5, true, false⟩ : Row))]
noncomputable def f76l20 : Clean := ⟨[5], [], [], [], [(⟨false, 5, 0⟩, 1000320)]⟩
noncomputable def f76s21 (v2 : LI) : St := stOf [(2, xo 1001000128)] [] [(1001000128, (⟨3, .int .i64, v2, true, true⟩ : Row))]
noncomputable def f76l21 : Clean := ⟨[2], [], [⟨⟨false, 2, 0⟩, 30000000, 3, .int .i64, true⟩], [], [(⟨false, 2, 0⟩, 1001000128)]⟩
noncomputable def f76B : Nat → Option Clean := lookL [(5, f76l10), (4, f76l8), (3, f76l8), (2, f76l7), (6, f76l14), (8, f76l18), (10, f76l4), (1, f76l4), (0, f76l20), (1000000, f76l21)]
noncomputable abbrev f76i {ρ : Type} (N : Nat) (c : Code) (p : Plan) (σ : St) (K : KT ρ) : Option ρ := iCode f76G tab f76B N c p σ K
noncomputable def f76c (n : Nat) : Code := codeN 99 (bodyOf Try.f76) n
theorem f76t1 N v0 (K : KT ρ) : f76i N (f76c 2) .n (f76s0 v0) (joinK (some f76l1) K) =
  impl_factors.Z1 N v0 (fun v1_0 v1_1 v1_2 => K .nrm (f76s1 v1_0 v1_1 v1_2)) := by kernel_rfl
theorem f76t3 N v1_0 v1_1 v1_2 (K : KT ρ) : f76i N (f76c 5) .n (f76s1 v1_0 v1_1 v1_2) (joinK (some f76l2) K) =
  impl_factors.Z3 N v1_0 v1_1 v1_2 (fun v3 v4 v1_0 v1_1 v1_2 => K .nrm (f76s2 v3 v4 v1_0 v1_1 v1_2)) := by kernel_rfl
theorem f76t5 N v3 v4 v1_0 v1_1 v1_2 (K : KT ρ) : f76i N (f76c 11) .n (f76s2 v3 v4 v1_0 v1_1 v1_2) (joinK (some f76l3) K) =
  impl_factors.Z5 N v3 v4 v1_0 v1_1 v1_2 (fun v3 v4 v5 v1_0 v1_1 v1_2 => K .nrm (f76s3 v3 v4 v5 v1_0 v1_1 v1_2)) := by kernel_rfl
theorem f76t8 N v3 v4 v5 v1_0 v1_1 v1_2 (K : KT ρ) : f76i N (f76c 39) .n (f76s3 v3 v4 v5 v1_0 v1_1 v1_2) (joinK (some f76l4) K) =
  impl_factors.Z8 N v3 v4 v5 v1_0 v1_1 v1_2 (fun v3 v4 v5 v34 v35 v1_0 v1_1 v1_2 => K .nrm (f76s4 v3 v4 v5 v34 v35 v1_0 v1_1 v1_2)) := by kernel_rfl
theorem f76t12 N v3 v4 v5 v34 v35 v1_0 v1_1 v1_2 (K : KT ρ) : f76i N (f76c 279) .n (f76s4 v3 v4 v5 v34 v35 v1_0 v1_1 v1_2) (joinK (some f76l5) K) =
  impl_factors.Z12 N v3 v4 v5 v34 v35 v1_0 v1_1 v1_2 (fun v3 v4 v5 v34 v35 v36 v1_0 v1_1 v1_2 => K .nrm (f76s5 v3 v4 v5 v34 v35 v36 v1_0 v1_1 v1_2)) := by kernel_rfl
theorem f76t14 N v3 v4 v5 v34 v35 v36 v1_0 v1_1 v1_2 (K : KT ρ) : f76i N (f76c 663) .n (f76s5 v3 v4 v5 v34 v35 v36 v1_0 v1_1 v1_2) (joinK (some f76l4) K) =
  impl_factors.Z14 N v3 v4 v5 v34 v35 v36 v1_0 v1_1 v1_2 (fun v3 v4 v5 v34 v35 v1_0 v1_1 v1_2 => K .nrm (f76s4 v3 v4 v5 v34 v35 v1_0 v1_1 v1_2)) (fun v5 => K (.exit 0) (f76s20 v5)) := by kernel_rfl
theorem f76t18 N v3 v4 v5 v34 v35 v1_0 v1_1 v1_2 (K : KT ρ) : f76i N (f76c 4503) .n (f76s4 v3 v4 v5 v34 v35 v1_0 v1_1 v1_2) (joinK (some f76l6) K) =
  impl_factors.Z18 N v3 v4 v5 v34 v35 v1_0 v1_1 v1_2 (fun v3 v4 v5 v6 v34 v35 v1_0 v1_1 v1_2 => K .nrm (f76s6 v3 v4 v5 v6 v34 v35 v1_0 v1_1 v1_2)) := by kernel_rfl
theorem f76t20 N v3 v4 v5 v6 v34 v35 v1_0 v1_1 v1_2 (K : KT ρ) : f76i N (f76c 10647) .n (f76s6 v3 v4 v5 v6 v34 v35 v1_0 v1_1 v1_2) (joinK (some f76l6) K) =
  impl_factors.Z20 N v3 v4 v5 v6 v34 v35 v1_0 v1_1 v1_2 (fun v3 v4 v5 v6 v34 v35 v1_0 v1_1 v1_2 => K .nrm (f76s6 v3 v4 v5 v6 v34 v35 v1_0 v1_1 v1_2)) (fun v3 v4 v5 v34 v35 v1_0 v1_1 v1_2 => K (.exit 1) (f76s4 v3 v4 v5 v34 v35 v1_0 v1_1 v1_2)) := by kernel_rfl
theorem f76t22 N v3 v4 v5 v6 v34 v35 v1_0 v1_1 v1_2 (K : KT ρ) : f76i N (f76c 22935) .n (f76s6 v3 v4 v5 v6 v34 v35 v1_0 v1_1 v1_2) (joinK (some f76l6) K) =
  impl_factors.Z22 N v3 v4 v5 v6 v34 v35 v1_0 v1_1 v1_2 (fun v3 v4 v5 v6 v34 v35 v1_0 v1_1 v1_2 => K .nrm (f76s6 v3 v4 v5 v6 v34 v35 v1_0 v1_1 v1_2)) := by kernel_rfl
theorem f76t24 N v3 v4 v5 v6 v34 v35 v1_0 v1_1 v1_2 (K : KT ρ) : f76i N (f76c 47511) .n (f76s6 v3 v4 v5 v6 v34 v35 v1_0 v1_1 v1_2) (joinK (some f76l7) K) =
  impl_factors.Z24 N v3 v4 v5 v6 v34 v35 v1_0 v1_1 v1_2 (fun v3 v4 v5 v7 v34 v35 v1_0 v1_1 v1_2 => K .nrm (f76s7 v3 v4 v5 v7 v34 v35 v1_0 v1_1 v1_2)) := by kernel_rfl
theorem f76t27 N v3 v4 v5 v7 v34 v35 v1_0 v1_1 v1_2 (K : KT ρ) : f76i N (f76c 162199) .n (f76s7 v3 v4 v5 v7 v34 v35 v1_0 v1_1 v1_2) (joinK (some f76l8) K) =
  impl_factors.Z27 N v3 v4 v5 v7 v34 v35 v1_0 v1_1 v1_2 (fun v3 v4 v5 v7 v8 v34 v35 v1_0 v1_1 v1_2 => K .nrm (f76s8 v3 v4 v5 v7 v8 v34 v35 v1_0 v1_1 v1_2)) := by kernel_rfl
theorem f76t31 N v3 v4 v5 v7 v8 v34 v35 v1_0 v1_1 v1_2 (K : KT ρ) : f76i N (f76c 1145239) .n (f76s8 v3 v4 v5 v7 v8 v34 v35 v1_0 v1_1 v1_2) (joinK (some f76l8) K) =
  impl_factors.Z31 N v3 v4 v5 v7 v8 v34 v35 v1_0 v1_1 v1_2 (fun v3 v4 v5 v7 v8 v34 v35 v1_0 v1_1 v1_2 => K .nrm (f76s8 v3 v4 v5 v7 v8 v34 v35 v1_0 v1_1 v1_2)) (fun v3 v4 v5 v7 v34 v35 v1_0 v1_1 v1_2 => K (.exit 2) (f76s7 v3 v4 v5 v7 v34 v35 v1_0 v1_1 v1_2)) := by kernel_rfl
theorem f76t35 N v3 v4 v5 v7 v8 v34 v35 v1_0 v1_1 v1_2 (K : KT ρ) : f76i N (f76c 9009559) .n (f76s8 v3 v4 v5 v7 v8 v34 v35 v1_0 v1_1 v1_2) (joinK (some f76l9) K) =
  impl_factors.Z35 N v3 v4 v5 v7 v8 v34 v35 v1_0 v1_1 v1_2 (fun v3 v4 v5 v7 v8 v9 v34 v35 v1_0 v1_1 v1_2 => K .nrm (f76s9 v3 v4 v5 v7 v8 v9 v34 v35 v1_0 v1_1 v1_2)) := by kernel_rfl
theorem f76t37 N v3 v4 v5 v7 v8 v9 v34 v35 v1_0 v1_1 v1_2 (K : KT ρ) : f76i N (f76c 21592471) .n (f76s9 v3 v4 v5 v7 v8 v9 v34 v35 v1_0 v1_1 v1_2) (joinK (some f76l10) K) =
  impl_factors.Z37 N v3 v4 v5 v7 v8 v9 v34 v35 v1_0 v1_1 v1_2 (fun v3 v4 v5 v7 v8 v9 v34 v35 v62 v63 v1_0 v1_1 v1_2 => K .nrm (f76s10 v3 v4 v5 v7 v8 v9 v34 v35 v62 v63 v1_0 v1_1 v1_2)) := by kernel_rfl
theorem f76t41 N v3 v4 v5 v7 v8 v9 v34 v35 v62 v63 v1_0 v1_1 v1_2 (K : KT ρ) : f76i N (f76c 147421591) .n (f76s10 v3 v4 v5 v7 v8 v9 v34 v35 v62 v63 v1_0 v1_1 v1_2) (joinK (some f76l11) K) =
  impl_factors.Z41 N v3 v4 v5 v7 v8 v9 v34 v35 v62 v63 v1_0 v1_1 v1_2 (fun v3 v4 v5 v7 v8 v9 v34 v35 v62 v63 v64 v1_0 v1_1 v1_2 => K .nrm (f76s11 v3 v4 v5 v7 v8 v9 v34 v35 v62 v63 v64 v1_0 v1_1 v1_2)) := by kernel_rfl
theorem f76t43 N v3 v4 v5 v7 v8 v9 v34 v35 v62 v63 v64 v1_0 v1_1 v1_2 (K : KT ρ) : f76i N (f76c 348748183) .n (f76s11 v3 v4 v5 v7 v8 v9 v34 v35 v62 v63 v64 v1_0 v1_1 v1_2) (joinK (some f76l10) K) =
  impl_factors.Z43 N v3 v4 v5 v7 v8 v9 v34 v35 v62 v63 v64 v1_0 v1_1 v1_2 (fun v3 v4 v5 v7 v8 v9 v34 v35 v62 v63 v1_0 v1_1 v1_2 => K .nrm (f76s10 v3 v4 v5 v7 v8 v9 v34 v35 v62 v63 v1_0 v1_1 v1_2)) (fun v3 v4 v5 v7 v8 v34 v35 v1_0 v1_1 v1_2 => K (.exit 4) (f76s8 v3 v4 v5 v7 v8 v34 v35 v1_0 v1_1 v1_2)) := by kernel_rfl
theorem f76t47 N v3 v4 v5 v7 v8 v9 v34 v35 v62 v63 v1_0 v1_1 v1_2 (K : KT ρ) : f76i N (f76c 2362014103) .n (f76s10 v3 v4 v5 v7 v8 v9 v34 v35 v62 v63 v1_0 v1_1 v1_2) (joinK (some f76l12) K) =
  impl_factors.Z47 N v3 v4 v5 v7 v8 v9 v34 v35 v62 v63 v1_0 v1_1 v1_2 (fun v3 v4 v5 v7 v8 v9 v10 v34 v35 v62 v63 v1_0 v1_1 v1_2 => K .nrm (f76s12 v3 v4 v5 v7 v8 v9 v10 v34 v35 v62 v63 v1_0 v1_1 v1_2)) := by kernel_rfl
theorem f76t49 N v3 v4 v5 v7 v8 v9 v10 v34 v35 v62 v63 v1_0 v1_1 v1_2 (K : KT ρ) : f76i N (f76c 5583239575) .n (f76s12 v3 v4 v5 v7 v8 v9 v10 v34 v35 v62 v63 v1_0 v1_1 v1_2) (joinK (some f76l13) K) =
  impl_factors.Z49 N v3 v4 v5 v7 v8 v9 v10 v34 v35 v62 v63 v1_0 v1_1 v1_2 (fun v3 v4 v5 v7 v8 v9 v10 v11 v12 v34 v35 v62 v63 v1_0 v1_1 v1_2 => K .nrm (f76s13 v3 v4 v5 v7 v8 v9 v10 v11 v12 v34 v35 v62 v63 v1_0 v1_1 v1_2)) := by kernel_rfl
theorem f76t51 N v3 v4 v5 v7 v8 v9 v10 v11 v12 v34 v35 v62 v63 v1_0 v1_1 v1_2 (K : KT ρ) : f76i N (f76c 12025690519) .n (f76s13 v3 v4 v5 v7 v8 v9 v10 v11 v12 v34 v35 v62 v63 v1_0 v1_1 v1_2) (joinK (some f76l13) K) =
  impl_factors.Z51 N v3 v4 v5 v7 v8 v9 v10 v11 v12 v34 v35 v62 v63 v1_0 v1_1 v1_2 (fun v3 v4 v5 v7 v8 v9 v10 v11 v12 v34 v35 v62 v63 v1_0 v1_1 v1_2 => K .nrm (f76s13 v3 v4 v5 v7 v8 v9 v10 v11 v12 v34 v35 v62 v63 v1_0 v1_1 v1_2)) (fun v3 v4 v5 v7 v8 v9 v34 v35 v62 v63 v1_0 v1_1 v1_2 => K (.exit 5) (f76s10 v3 v4 v5 v7 v8 v9 v34 v35 v62 v63 v1_0 v1_1 v1_2)) := by kernel_rfl
theorem f76t52 N v3 v4 v5 v7 v8 v9 v10 v11 v12 v34 v35 v62 v63 v1_0 v1_1 v1_2 (K : KT ρ) : f76i N (f76c 16320657815) .n (f76s13 v3 v4 v5 v7 v8 v9 v10 v11 v12 v34 v35 v62 v63 v1_0 v1_1 v1_2) (joinK (some f76l10) K) =
  impl_factors.Z52 N v3 v4 v5 v7 v8 v9 v10 v11 v12 v34 v35 v62 v63 v1_0 v1_1 v1_2 (fun v3 v4 v5 v7 v8 v9 v34 v35 v62 v63 v1_0 v1_1 v1_2 => K .nrm (f76s10 v3 v4 v5 v7 v8 v9 v34 v35 v62 v63 v1_0 v1_1 v1_2)) (fun v2 => K .ret (f76s21 v2)) := by kernel_rfl
noncomputable def f76p50 : Plan := .mk (some f76l13) none .n .n
theorem f76t50 N v3 v4 v5 v7 v8 v9 v10 v11 v12 v34 v35 v62 v63 v1_0 v1_1 v1_2 (K : KT ρ) : f76i N (f76c 7730723223) f76p50 (f76s13 v3 v4 v5 v7 v8 v9 v10 v11 v12 v34 v35 v62 v63 v1_0 v1_1 v1_2) (joinK (some f76l10) K) =
  impl_factors.Z50 N v3 v4 v5 v7 v8 v9 v10 v11 v12 v34 v35 v62 v63 v1_0 v1_1 v1_2 (fun v3 v4 v5 v7 v8 v9 v34 v35 v62 v63 v1_0 v1_1 v1_2 => K .nrm (f76s10 v3 v4 v5 v7 v8 v9 v34 v35 v62 v63 v1_0 v1_1 v1_2)) (fun v3 v4 v5 v7 v8 v9 v34 v35 v62 v63 v1_0 v1_1 v1_2 => K (.exit 5) (f76s10 v3 v4 v5 v7 v8 v9 v34 v35 v62 v63 v1_0 v1_1 v1_2)) (fun v2 => K .ret (f76s21 v2)) :=
 viaSeqS (fun k => impl_factors.Z51 N v3 v4 v5 v7 v8 v9 v10 v11 v12 v34 v35 v62 v63 v1_0 v1_1 v1_2 k (fun v3 v4 v5 v7 v8 v9 v34 v35 v62 v63 v1_0 v1_1 v1_2 => K (.exit 5) (f76s10 v3 v4 v5 v7 v8 v9 v34 v35 v62 v63 v1_0 v1_1 v1_2))) (by kernel_rfl) (f76t51 N (K := seqK (fun σ => f76i N (f76c 16320657815) .n σ (joinK (some f76l10) K)) (joinK (some f76l10) K)) ..) (fx16 fun v3 v4 v5 v7 v8 v9 v10 v11 v12 v34 v35 v62 v63 v1_0 v1_1 v1_2 => f76t52 N v3 v4 v5 v7 v8 v9 v10 v11 v12 v34 v35 v62 v63 v1_0 v1_1 v1_2 K) (by kernel_rfl)
noncomputable def f76p48 : Plan := .mk (some f76l13) none .n f76p50
theorem f76t48 N v3 v4 v5 v7 v8 v9 v10 v34 v35 v62 v63 v1_0 v1_1 v1_2 (K : KT ρ) : f76i N (f76c 3435755927) f76p48 (f76s12 v3 v4 v5 v7 v8 v9 v10 v34 v35 v62 v63 v1_0 v1_1 v1_2) (joinK (some f76l10) K) =
  impl_factors.Z48 N v3 v4 v5 v7 v8 v9 v10 v34 v35 v62 v63 v1_0 v1_1 v1_2 (fun v3 v4 v5 v7 v8 v9 v34 v35 v62 v63 v1_0 v1_1 v1_2 => K .nrm (f76s10 v3 v4 v5 v7 v8 v9 v34 v35 v62 v63 v1_0 v1_1 v1_2)) (fun v3 v4 v5 v7 v8 v9 v34 v35 v62 v63 v1_0 v1_1 v1_2 => K (.exit 5) (f76s10 v3 v4 v5 v7 v8 v9 v34 v35 v62 v63 v1_0 v1_1 v1_2)) (fun v2 => K .ret (f76s21 v2)) :=
 viaSeqS (fun k => impl_factors.Z49 N v3 v4 v5 v7 v8 v9 v10 v34 v35 v62 v63 v1_0 v1_1 v1_2 k) (by kernel_rfl) (f76t49 N (K := seqK (fun σ => f76i N (f76c 7730723223) f76p50 σ (joinK (some f76l10) K)) (joinK (some f76l10) K)) ..) (fx16 fun v3 v4 v5 v7 v8 v9 v10 v11 v12 v34 v35 v62 v63 v1_0 v1_1 v1_2 => f76t50 N v3 v4 v5 v7 v8 v9 v10 v11 v12 v34 v35 v62 v63 v1_0 v1_1 v1_2 K) (by kernel_rfl)
noncomputable def f76p46 : Plan := .mk (some f76l12) none .n f76p48
theorem f76t46 N v3 v4 v5 v7 v8 v9 v34 v35 v62 v63 v1_0 v1_1 v1_2 (K : KT ρ) : f76i N (f76c 1288272279) f76p46 (f76s10 v3 v4 v5 v7 v8 v9 v34 v35 v62 v63 v1_0 v1_1 v1_2) (joinK (some f76l10) K) =
  impl_factors.Z46 N v3 v4 v5 v7 v8 v9 v34 v35 v62 v63 v1_0 v1_1 v1_2 (fun v3 v4 v5 v7 v8 v9 v34 v35 v62 v63 v1_0 v1_1 v1_2 => K .nrm (f76s10 v3 v4 v5 v7 v8 v9 v34 v35 v62 v63 v1_0 v1_1 v1_2)) (fun v3 v4 v5 v7 v8 v9 v34 v35 v62 v63 v1_0 v1_1 v1_2 => K (.exit 5) (f76s10 v3 v4 v5 v7 v8 v9 v34 v35 v62 v63 v1_0 v1_1 v1_2)) (fun v2 => K .ret (f76s21 v2)) :=
 viaSeqS (fun k => impl_factors.Z47 N v3 v4 v5 v7 v8 v9 v34 v35 v62 v63 v1_0 v1_1 v1_2 k) (by kernel_rfl) (f76t47 N (K := seqK (fun σ => f76i N (f76c 3435755927) f76p48 σ (joinK (some f76l10) K)) (joinK (some f76l10) K)) ..) (fx14 fun v3 v4 v5 v7 v8 v9 v10 v34 v35 v62 v63 v1_0 v1_1 v1_2 => f76t48 N v3 v4 v5 v7 v8 v9 v10 v34 v35 v62 v63 v1_0 v1_1 v1_2 K) (by kernel_rfl)
noncomputable def f76p45 : Plan := .mk (some f76l10) none f76p46 .n
theorem f76t45 N v3 v4 v5 v7 v8 v9 v34 v35 v62 v63 v1_0 v1_1 v1_2 (K : KT ρ) : f76i N (f76c 751401367) f76p45 (f76s10 v3 v4 v5 v7 v8 v9 v34 v35 v62 v63 v1_0 v1_1 v1_2) (joinK (some f76l10) K) =
  impl_factors.Z45 N v3 v4 v5 v7 v8 v9 v34 v35 v62 v63 v1_0 v1_1 v1_2 (fun v3 v4 v5 v7 v8 v9 v34 v35 v62 v63 v1_0 v1_1 v1_2 => K .nrm (f76s10 v3 v4 v5 v7 v8 v9 v34 v35 v62 v63 v1_0 v1_1 v1_2)) (fun v2 => K .ret (f76s21 v2)) :=
 viaBlockS (by kernel_rfl) (f76t46 N (K := blockK 5 (joinK (some f76l10) K)) ..) (by kernel_rfl)
theorem f76t53 N v3 v4 v5 v7 v8 v9 v34 v35 v62 v63 v1_0 v1_1 v1_2 (K : KT ρ) : f76i N (f76c 1019836823) .n (f76s10 v3 v4 v5 v7 v8 v9 v34 v35 v62 v63 v1_0 v1_1 v1_2) (joinK (some f76l10) K) =
  impl_factors.Z53 N v3 v4 v5 v7 v8 v9 v34 v35 v62 v63 v1_0 v1_1 v1_2 (fun v3 v4 v5 v7 v8 v9 v34 v35 v62 v63 v1_0 v1_1 v1_2 => K .nrm (f76s10 v3 v4 v5 v7 v8 v9 v34 v35 v62 v63 v1_0 v1_1 v1_2)) := by kernel_rfl
noncomputable def f76p44 : Plan := .mk (some f76l10) none f76p45 .n
theorem f76t44 N v3 v4 v5 v7 v8 v9 v34 v35 v62 v63 v1_0 v1_1 v1_2 (K : KT ρ) : f76i N (f76c 482965911) f76p44 (f76s10 v3 v4 v5 v7 v8 v9 v34 v35 v62 v63 v1_0 v1_1 v1_2) (joinK (some f76l10) K) =
  impl_factors.Z44 N v3 v4 v5 v7 v8 v9 v34 v35 v62 v63 v1_0 v1_1 v1_2 (fun v3 v4 v5 v7 v8 v9 v34 v35 v62 v63 v1_0 v1_1 v1_2 => K .nrm (f76s10 v3 v4 v5 v7 v8 v9 v34 v35 v62 v63 v1_0 v1_1 v1_2)) (fun v2 => K .ret (f76s21 v2)) :=
 viaSeqS (fun k => impl_factors.Z45 N v3 v4 v5 v7 v8 v9 v34 v35 v62 v63 v1_0 v1_1 v1_2 k (fun v2 => K .ret (f76s21 v2))) (by kernel_rfl) (f76t45 N (K := seqK (fun σ => f76i N (f76c 1019836823) .n σ (joinK (some f76l10) K)) (joinK (some f76l10) K)) ..) (fx13 fun v3 v4 v5 v7 v8 v9 v34 v35 v62 v63 v1_0 v1_1 v1_2 => f76t53 N v3 v4 v5 v7 v8 v9 v34 v35 v62 v63 v1_0 v1_1 v1_2 K) (by kernel_rfl)
noncomputable def f76p42 : Plan := .mk (some f76l10) none .n f76p44
theorem f76t42 N v3 v4 v5 v7 v8 v9 v34 v35 v62 v63 v64 v1_0 v1_1 v1_2 (K : KT ρ) : f76i N (f76c 214530455) f76p42 (f76s11 v3 v4 v5 v7 v8 v9 v34 v35 v62 v63 v64 v1_0 v1_1 v1_2) (joinK (some f76l10) K) =
  impl_factors.Z42 N v3 v4 v5 v7 v8 v9 v34 v35 v62 v63 v64 v1_0 v1_1 v1_2 (fun v3 v4 v5 v7 v8 v9 v34 v35 v62 v63 v1_0 v1_1 v1_2 => K .nrm (f76s10 v3 v4 v5 v7 v8 v9 v34 v35 v62 v63 v1_0 v1_1 v1_2)) (fun v3 v4 v5 v7 v8 v34 v35 v1_0 v1_1 v1_2 => K (.exit 4) (f76s8 v3 v4 v5 v7 v8 v34 v35 v1_0 v1_1 v1_2)) (fun v2 => K .ret (f76s21 v2)) :=
 viaSeqS (fun k => impl_factors.Z43 N v3 v4 v5 v7 v8 v9 v34 v35 v62 v63 v64 v1_0 v1_1 v1_2 k (fun v3 v4 v5 v7 v8 v34 v35 v1_0 v1_1 v1_2 => K (.exit 4) (f76s8 v3 v4 v5 v7 v8 v34 v35 v1_0 v1_1 v1_2))) (by kernel_rfl) (f76t43 N (K := seqK (fun σ => f76i N (f76c 482965911) f76p44 σ (joinK (some f76l10) K)) (joinK (some f76l10) K)) ..) (fx13 fun v3 v4 v5 v7 v8 v9 v34 v35 v62 v63 v1_0 v1_1 v1_2 => f76t44 N v3 v4 v5 v7 v8 v9 v34 v35 v62 v63 v1_0 v1_1 v1_2 K) (by kernel_rfl)
noncomputable def f76p40 : Plan := .mk (some f76l11) none .n f76p42
theorem f76t40 N v3 v4 v5 v7 v8 v9 v34 v35 v62 v63 v1_0 v1_1 v1_2 (K : KT ρ) : f76i N (f76c 80312727) f76p40 (f76s10 v3 v4 v5 v7 v8 v9 v34 v35 v62 v63 v1_0 v1_1 v1_2) (joinK (some f76l10) K) =
  impl_factors.Z40 N v3 v4 v5 v7 v8 v9 v34 v35 v62 v63 v1_0 v1_1 v1_2 (fun v3 v4 v5 v7 v8 v9 v34 v35 v62 v63 v1_0 v1_1 v1_2 => K .nrm (f76s10 v3 v4 v5 v7 v8 v9 v34 v35 v62 v63 v1_0 v1_1 v1_2)) (fun v3 v4 v5 v7 v8 v34 v35 v1_0 v1_1 v1_2 => K (.exit 4) (f76s8 v3 v4 v5 v7 v8 v34 v35 v1_0 v1_1 v1_2)) (fun v2 => K .ret (f76s21 v2)) :=
 viaSeqS (fun k => impl_factors.Z41 N v3 v4 v5 v7 v8 v9 v34 v35 v62 v63 v1_0 v1_1 v1_2 k) (by kernel_rfl) (f76t41 N (K := seqK (fun σ => f76i N (f76c 214530455) f76p42 σ (joinK (some f76l10) K)) (joinK (some f76l10) K)) ..) (fx14 fun v3 v4 v5 v7 v8 v9 v34 v35 v62 v63 v64 v1_0 v1_1 v1_2 => f76t42 N v3 v4 v5 v7 v8 v9 v34 v35 v62 v63 v64 v1_0 v1_1 v1_2 K) (by kernel_rfl)
noncomputable def f76p39 : Plan := .mk none (some f76l10) f76p40 .n
noncomputable abbrev f76w39 {ρ : Type} (N M : Nat) (σ : St) (K : KT ρ) : Option ρ := loopC (fun σ K => f76i N (f76c 80312727) f76p40 σ K) f76l10 M σ K
theorem f76t39L {ρ : Type} (N : Nat) (K : KT ρ) : ∀ (M : Nat) (v3 v4 v5 v7 : LI) (v8 v9 v34 v35 v62 v63 v1_0 v1_1 : Int) (v1_2 : LI), f76w39 N M (f76s10 v3 v4 v5 v7 v8 v9 v34 v35 v62 v63 v1_0 v1_1 v1_2) K =
  impl_factors.Z39L N (fun v3 v4 v5 v7 v8 v34 v35 v1_0 v1_1 v1_2 => K (.exit 4) (f76s8 v3 v4 v5 v7 v8 v34 v35 v1_0 v1_1 v1_2)) (fun v2 => K .ret (f76s21 v2)) M v3 v4 v5 v7 v8 v9 v34 v35 v62 v63 v1_0 v1_1 v1_2
  | 0, _, _, _, _, _, _, _, _, _, _, _, _, _ => rfl
  | M + 1, v3, v4, v5, v7, v8, v9, v34, v35, v62, v63, v1_0, v1_1, v1_2 => viaRoundS (fun k => impl_factors.Z40 N v3 v4 v5 v7 v8 v9 v34 v35 v62 v63 v1_0 v1_1 v1_2 k (fun v3 v4 v5 v7 v8 v34 v35 v1_0 v1_1 v1_2 => K (.exit 4) (f76s8 v3 v4 v5 v7 v8 v34 v35 v1_0 v1_1 v1_2)) (fun v2 => K .ret (f76s21 v2))) (f76t40 N (K := seqK (fun σ => f76w39 N M σ K) K) ..) (fx13 fun v3 v4 v5 v7 v8 v9 v34 v35 v62 v63 v1_0 v1_1 v1_2 => f76t39L N K M v3 v4 v5 v7 v8 v9 v34 v35 v62 v63 v1_0 v1_1 v1_2) (by kernel_rfl)
theorem f76t39 N v3 v4 v5 v7 v8 v9 v34 v35 v62 v63 v1_0 v1_1 v1_2 (K : KT ρ) : f76i N (f76c 46758295) f76p39 (f76s10 v3 v4 v5 v7 v8 v9 v34 v35 v62 v63 v1_0 v1_1 v1_2) (joinK (some f76l8) K) =
  impl_factors.Z39 N v3 v4 v5 v7 v8 v9 v34 v35 v62 v63 v1_0 v1_1 v1_2 (fun v3 v4 v5 v7 v8 v34 v35 v1_0 v1_1 v1_2 => K (.exit 4) (f76s8 v3 v4 v5 v7 v8 v34 v35 v1_0 v1_1 v1_2)) (fun v2 => K .ret (f76s21 v2)) :=
 viaLoopS (by kernel_rfl) (f76t39L N (joinK (some f76l8) K) N v3 v4 v5 v7 v8 v9 v34 v35 v62 v63 v1_0 v1_1 v1_2) (by kernel_rfl)
noncomputable def f76p38 : Plan := .mk (some f76l8) none f76p39 .n
theorem f76t38 N v3 v4 v5 v7 v8 v9 v34 v35 v62 v63 v1_0 v1_1 v1_2 (K : KT ρ) : f76i N (f76c 29981079) f76p38 (f76s10 v3 v4 v5 v7 v8 v9 v34 v35 v62 v63 v1_0 v1_1 v1_2) (joinK (some f76l8) K) =
  impl_factors.Z38 N v3 v4 v5 v7 v8 v9 v34 v35 v62 v63 v1_0 v1_1 v1_2 (fun v3 v4 v5 v7 v8 v34 v35 v1_0 v1_1 v1_2 => K .nrm (f76s8 v3 v4 v5 v7 v8 v34 v35 v1_0 v1_1 v1_2)) (fun v2 => K .ret (f76s21 v2)) :=
 viaBlockS (by kernel_rfl) (f76t39 N (K := blockK 4 (joinK (some f76l8) K)) ..) (by kernel_rfl)
noncomputable def f76p36 : Plan := .mk (some f76l10) none .n f76p38
theorem f76t36 N v3 v4 v5 v7 v8 v9 v34 v35 v1_0 v1_1 v1_2 (K : KT ρ) : f76i N (f76c 13203863) f76p36 (f76s9 v3 v4 v5 v7 v8 v9 v34 v35 v1_0 v1_1 v1_2) (joinK (some f76l8) K) =
  impl_factors.Z36 N v3 v4 v5 v7 v8 v9 v34 v35 v1_0 v1_1 v1_2 (fun v3 v4 v5 v7 v8 v34 v35 v1_0 v1_1 v1_2 => K .nrm (f76s8 v3 v4 v5 v7 v8 v34 v35 v1_0 v1_1 v1_2)) (fun v2 => K .ret (f76s21 v2)) :=
 viaSeqS (fun k => impl_factors.Z37 N v3 v4 v5 v7 v8 v9 v34 v35 v1_0 v1_1 v1_2 k) (by kernel_rfl) (f76t37 N (K := seqK (fun σ => f76i N (f76c 29981079) f76p38 σ (joinK (some f76l8) K)) (joinK (some f76l8) K)) ..) (fx13 fun v3 v4 v5 v7 v8 v9 v34 v35 v62 v63 v1_0 v1_1 v1_2 => f76t38 N v3 v4 v5 v7 v8 v9 v34 v35 v62 v63 v1_0 v1_1 v1_2 K) (by kernel_rfl)
noncomputable def f76p34 : Plan := .mk (some f76l9) none .n f76p36
theorem f76t34 N v3 v4 v5 v7 v8 v34 v35 v1_0 v1_1 v1_2 (K : KT ρ) : f76i N (f76c 4815255) f76p34 (f76s8 v3 v4 v5 v7 v8 v34 v35 v1_0 v1_1 v1_2) (joinK (some f76l8) K) =
  impl_factors.Z34 N v3 v4 v5 v7 v8 v34 v35 v1_0 v1_1 v1_2 (fun v3 v4 v5 v7 v8 v34 v35 v1_0 v1_1 v1_2 => K .nrm (f76s8 v3 v4 v5 v7 v8 v34 v35 v1_0 v1_1 v1_2)) (fun v2 => K .ret (f76s21 v2)) :=
 viaSeqS (fun k => impl_factors.Z35 N v3 v4 v5 v7 v8 v34 v35 v1_0 v1_1 v1_2 k) (by kernel_rfl) (f76t35 N (K := seqK (fun σ => f76i N (f76c 13203863) f76p36 σ (joinK (some f76l8) K)) (joinK (some f76l8) K)) ..) (fx11 fun v3 v4 v5 v7 v8 v9 v34 v35 v1_0 v1_1 v1_2 => f76t36 N v3 v4 v5 v7 v8 v9 v34 v35 v1_0 v1_1 v1_2 K) (by kernel_rfl)
noncomputable def f76p33 : Plan := .mk (some f76l8) none f76p34 .n
theorem f76t33 N v3 v4 v5 v7 v8 v34 v35 v1_0 v1_1 v1_2 (K : KT ρ) : f76i N (f76c 2718103) f76p33 (f76s8 v3 v4 v5 v7 v8 v34 v35 v1_0 v1_1 v1_2) (joinK (some f76l8) K) =
  impl_factors.Z33 N v3 v4 v5 v7 v8 v34 v35 v1_0 v1_1 v1_2 (fun v3 v4 v5 v7 v8 v34 v35 v1_0 v1_1 v1_2 => K .nrm (f76s8 v3 v4 v5 v7 v8 v34 v35 v1_0 v1_1 v1_2)) (fun v2 => K .ret (f76s21 v2)) :=
 viaBlockS (by kernel_rfl) (f76t34 N (K := blockK 3 (joinK (some f76l8) K)) ..) (by kernel_rfl)
theorem f76t54 N v3 v4 v5 v7 v8 v34 v35 v1_0 v1_1 v1_2 (K : KT ρ) : f76i N (f76c 3766679) .n (f76s8 v3 v4 v5 v7 v8 v34 v35 v1_0 v1_1 v1_2) (joinK (some f76l8) K) =
  impl_factors.Z54 N v3 v4 v5 v7 v8 v34 v35 v1_0 v1_1 v1_2 (fun v3 v4 v5 v7 v8 v34 v35 v1_0 v1_1 v1_2 => K .nrm (f76s8 v3 v4 v5 v7 v8 v34 v35 v1_0 v1_1 v1_2)) := by kernel_rfl
noncomputable def f76p32 : Plan := .mk (some f76l8) none f76p33 .n
theorem f76t32 N v3 v4 v5 v7 v8 v34 v35 v1_0 v1_1 v1_2 (K : KT ρ) : f76i N (f76c 1669527) f76p32 (f76s8 v3 v4 v5 v7 v8 v34 v35 v1_0 v1_1 v1_2) (joinK (some f76l8) K) =
  impl_factors.Z32 N v3 v4 v5 v7 v8 v34 v35 v1_0 v1_1 v1_2 (fun v3 v4 v5 v7 v8 v34 v35 v1_0 v1_1 v1_2 => K .nrm (f76s8 v3 v4 v5 v7 v8 v34 v35 v1_0 v1_1 v1_2)) (fun v2 => K .ret (f76s21 v2)) :=
 viaSeqS (fun k => impl_factors.Z33 N v3 v4 v5 v7 v8 v34 v35 v1_0 v1_1 v1_2 k (fun v2 => K .ret (f76s21 v2))) (by kernel_rfl) (f76t33 N (K := seqK (fun σ => f76i N (f76c 3766679) .n σ (joinK (some f76l8) K)) (joinK (some f76l8) K)) ..) (fx10 fun v3 v4 v5 v7 v8 v34 v35 v1_0 v1_1 v1_2 => f76t54 N v3 v4 v5 v7 v8 v34 v35 v1_0 v1_1 v1_2 K) (by kernel_rfl)
noncomputable def f76p30 : Plan := .mk (some f76l8) none .n f76p32
theorem f76t30 N v3 v4 v5 v7 v8 v34 v35 v1_0 v1_1 v1_2 (K : KT ρ) : f76i N (f76c 620951) f76p30 (f76s8 v3 v4 v5 v7 v8 v34 v35 v1_0 v1_1 v1_2) (joinK (some f76l8) K) =
  impl_factors.Z30 N v3 v4 v5 v7 v8 v34 v35 v1_0 v1_1 v1_2 (fun v3 v4 v5 v7 v8 v34 v35 v1_0 v1_1 v1_2 => K .nrm (f76s8 v3 v4 v5 v7 v8 v34 v35 v1_0 v1_1 v1_2)) (fun v3 v4 v5 v7 v34 v35 v1_0 v1_1 v1_2 => K (.exit 2) (f76s7 v3 v4 v5 v7 v34 v35 v1_0 v1_1 v1_2)) (fun v2 => K .ret (f76s21 v2)) :=
 viaSeqS (fun k => impl_factors.Z31 N v3 v4 v5 v7 v8 v34 v35 v1_0 v1_1 v1_2 k (fun v3 v4 v5 v7 v34 v35 v1_0 v1_1 v1_2 => K (.exit 2) (f76s7 v3 v4 v5 v7 v34 v35 v1_0 v1_1 v1_2))) (by kernel_rfl) (f76t31 N (K := seqK (fun σ => f76i N (f76c 1669527) f76p32 σ (joinK (some f76l8) K)) (joinK (some f76l8) K)) ..) (fx10 fun v3 v4 v5 v7 v8 v34 v35 v1_0 v1_1 v1_2 => f76t32 N v3 v4 v5 v7 v8 v34 v35 v1_0 v1_1 v1_2 K) (by kernel_rfl)
noncomputable def f76p29 : Plan := .mk none (some f76l8) f76p30 .n
noncomputable abbrev f76w29 {ρ : Type} (N M : Nat) (σ : St) (K : KT ρ) : Option ρ := loopC (fun σ K => f76i N (f76c 620951) f76p30 σ K) f76l8 M σ K
theorem f76t29L {ρ : Type} (N : Nat) (K : KT ρ) : ∀ (M : Nat) (v3 v4 v5 v7 : LI) (v8 v34 v35 v1_0 v1_1 : Int) (v1_2 : LI), f76w29 N M (f76s8 v3 v4 v5 v7 v8 v34 v35 v1_0 v1_1 v1_2) K =
  impl_factors.Z29L N (fun v3 v4 v5 v7 v34 v35 v1_0 v1_1 v1_2 => K (.exit 2) (f76s7 v3 v4 v5 v7 v34 v35 v1_0 v1_1 v1_2)) (fun v2 => K .ret (f76s21 v2)) M v3 v4 v5 v7 v8 v34 v35 v1_0 v1_1 v1_2
  | 0, _, _, _, _, _, _, _, _, _, _ => rfl
  | M + 1, v3, v4, v5, v7, v8, v34, v35, v1_0, v1_1, v1_2 => viaRoundS (fun k => impl_factors.Z30 N v3 v4 v5 v7 v8 v34 v35 v1_0 v1_1 v1_2 k (fun v3 v4 v5 v7 v34 v35 v1_0 v1_1 v1_2 => K (.exit 2) (f76s7 v3 v4 v5 v7 v34 v35 v1_0 v1_1 v1_2)) (fun v2 => K .ret (f76s21 v2))) (f76t30 N (K := seqK (fun σ => f76w29 N M σ K) K) ..) (fx10 fun v3 v4 v5 v7 v8 v34 v35 v1_0 v1_1 v1_2 => f76t29L N K M v3 v4 v5 v7 v8 v34 v35 v1_0 v1_1 v1_2) (by kernel_rfl)
theorem f76t29 N v3 v4 v5 v7 v8 v34 v35 v1_0 v1_1 v1_2 (K : KT ρ) : f76i N (f76c 358807) f76p29 (f76s8 v3 v4 v5 v7 v8 v34 v35 v1_0 v1_1 v1_2) (joinK (some f76l7) K) =
  impl_factors.Z29 N v3 v4 v5 v7 v8 v34 v35 v1_0 v1_1 v1_2 (fun v3 v4 v5 v7 v34 v35 v1_0 v1_1 v1_2 => K (.exit 2) (f76s7 v3 v4 v5 v7 v34 v35 v1_0 v1_1 v1_2)) (fun v2 => K .ret (f76s21 v2)) :=
 viaLoopS (by kernel_rfl) (f76t29L N (joinK (some f76l7) K) N v3 v4 v5 v7 v8 v34 v35 v1_0 v1_1 v1_2) (by kernel_rfl)
noncomputable def f76p28 : Plan := .mk (some f76l7) none f76p29 .n
theorem f76t28 N v3 v4 v5 v7 v8 v34 v35 v1_0 v1_1 v1_2 (K : KT ρ) : f76i N (f76c 227735) f76p28 (f76s8 v3 v4 v5 v7 v8 v34 v35 v1_0 v1_1 v1_2) (joinK (some f76l7) K) =
  impl_factors.Z28 N v3 v4 v5 v7 v8 v34 v35 v1_0 v1_1 v1_2 (fun v3 v4 v5 v7 v34 v35 v1_0 v1_1 v1_2 => K .nrm (f76s7 v3 v4 v5 v7 v34 v35 v1_0 v1_1 v1_2)) (fun v2 => K .ret (f76s21 v2)) :=
 viaBlockS (by kernel_rfl) (f76t29 N (K := blockK 2 (joinK (some f76l7) K)) ..) (by kernel_rfl)
noncomputable def f76p26 : Plan := .mk (some f76l8) none .n f76p28
theorem f76t26 N v3 v4 v5 v7 v34 v35 v1_0 v1_1 v1_2 (K : KT ρ) : f76i N (f76c 96663) f76p26 (f76s7 v3 v4 v5 v7 v34 v35 v1_0 v1_1 v1_2) (joinK (some f76l7) K) =
  impl_factors.Z26 N v3 v4 v5 v7 v34 v35 v1_0 v1_1 v1_2 (fun v3 v4 v5 v7 v34 v35 v1_0 v1_1 v1_2 => K .nrm (f76s7 v3 v4 v5 v7 v34 v35 v1_0 v1_1 v1_2)) (fun v2 => K .ret (f76s21 v2)) :=
 viaSeqS (fun k => impl_factors.Z27 N v3 v4 v5 v7 v34 v35 v1_0 v1_1 v1_2 k) (by kernel_rfl) (f76t27 N (K := seqK (fun σ => f76i N (f76c 227735) f76p28 σ (joinK (some f76l7) K)) (joinK (some f76l7) K)) ..) (fx10 fun v3 v4 v5 v7 v8 v34 v35 v1_0 v1_1 v1_2 => f76t28 N v3 v4 v5 v7 v8 v34 v35 v1_0 v1_1 v1_2 K) (by kernel_rfl)
theorem f76t56 N v3 v4 v5 v7 v34 v35 v1_0 v1_1 v1_2 (K : KT ρ) : f76i N (f76c 194967) .n (f76s7 v3 v4 v5 v7 v34 v35 v1_0 v1_1 v1_2) (joinK (some f76l14) K) =
  impl_factors.Z56 N v3 v4 v5 v7 v34 v35 v1_0 v1_1 v1_2 (fun v3 v4 v5 v7 v16 v34 v35 v1_0 v1_1 v1_2 => K .nrm (f76s14 v3 v4 v5 v7 v16 v34 v35 v1_0 v1_1 v1_2)) := by kernel_rfl
theorem f76t59 N v3 v4 v5 v7 v16 v34 v35 v1_0 v1_1 v1_2 (K : KT ρ) : f76i N (f76c 653719) .n (f76s14 v3 v4 v5 v7 v16 v34 v35 v1_0 v1_1 v1_2) (joinK (some f76l15) K) =
  impl_factors.Z59 N v3 v4 v5 v7 v16 v34 v35 v1_0 v1_1 v1_2 (fun v3 v4 v5 v7 v16 v34 v35 v159 v160 v1_0 v1_1 v1_2 => K .nrm (f76s15 v3 v4 v5 v7 v16 v34 v35 v159 v160 v1_0 v1_1 v1_2)) := by kernel_rfl
theorem f76t62 N v3 v4 v5 v7 v16 v34 v35 v159 v160 v1_0 v1_1 v1_2 (K : KT ρ) : f76i N (f76c 2488727) .n (f76s15 v3 v4 v5 v7 v16 v34 v35 v159 v160 v1_0 v1_1 v1_2) (joinK (some f76l15) K) =
  impl_factors.Z62 N v3 v4 v5 v7 v16 v34 v35 v159 v160 v1_0 v1_1 v1_2 (fun v3 v4 v5 v7 v16 v34 v35 v159 v160 v1_0 v1_1 v1_2 => K .nrm (f76s15 v3 v4 v5 v7 v16 v34 v35 v159 v160 v1_0 v1_1 v1_2)) (fun v3 v4 v5 v7 v16 v34 v35 v1_0 v1_1 v1_2 => K (.exit 6) (f76s14 v3 v4 v5 v7 v16 v34 v35 v1_0 v1_1 v1_2)) := by kernel_rfl
noncomputable def f76p61 : Plan := .mk none (some f76l15) .n .n
noncomputable abbrev f76w61 {ρ : Type} (N M : Nat) (σ : St) (K : KT ρ) : Option ρ := loopC (fun σ K => f76i N (f76c 2488727) .n σ K) f76l15 M σ K
theorem f76t61L {ρ : Type} (N : Nat) (K : KT ρ) : ∀ (M : Nat) (v3 v4 v5 v7 : LI) (v16 v34 v35 v159 v160 v1_0 v1_1 : Int) (v1_2 : LI), f76w61 N M (f76s15 v3 v4 v5 v7 v16 v34 v35 v159 v160 v1_0 v1_1 v1_2) K =
  impl_factors.Z61L N (fun v3 v4 v5 v7 v16 v34 v35 v1_0 v1_1 v1_2 => K (.exit 6) (f76s14 v3 v4 v5 v7 v16 v34 v35 v1_0 v1_1 v1_2)) M v3 v4 v5 v7 v16 v34 v35 v159 v160 v1_0 v1_1 v1_2
  | 0, _, _, _, _, _, _, _, _, _, _, _, _ => rfl
  | M + 1, v3, v4, v5, v7, v16, v34, v35, v159, v160, v1_0, v1_1, v1_2 => viaRoundS (fun k => impl_factors.Z62 N v3 v4 v5 v7 v16 v34 v35 v159 v160 v1_0 v1_1 v1_2 k (fun v3 v4 v5 v7 v16 v34 v35 v1_0 v1_1 v1_2 => K (.exit 6) (f76s14 v3 v4 v5 v7 v16 v34 v35 v1_0 v1_1 v1_2))) (f76t62 N (K := seqK (fun σ => f76w61 N M σ K) K) ..) (fx12 fun v3 v4 v5 v7 v16 v34 v35 v159 v160 v1_0 v1_1 v1_2 => f76t61L N K M v3 v4 v5 v7 v16 v34 v35 v159 v160 v1_0 v1_1 v1_2) (by kernel_rfl)
theorem f76t61 N v3 v4 v5 v7 v16 v34 v35 v159 v160 v1_0 v1_1 v1_2 (K : KT ρ) : f76i N (f76c 1440151) f76p61 (f76s15 v3 v4 v5 v7 v16 v34 v35 v159 v160 v1_0 v1_1 v1_2) (joinK (some f76l14) K) =
  impl_factors.Z61 N v3 v4 v5 v7 v16 v34 v35 v159 v160 v1_0 v1_1 v1_2 (fun v3 v4 v5 v7 v16 v34 v35 v1_0 v1_1 v1_2 => K (.exit 6) (f76s14 v3 v4 v5 v7 v16 v34 v35 v1_0 v1_1 v1_2)) :=
 viaLoopS (by kernel_rfl) (f76t61L N (joinK (some f76l14) K) N v3 v4 v5 v7 v16 v34 v35 v159 v160 v1_0 v1_1 v1_2) (by kernel_rfl)
noncomputable def f76p60 : Plan := .mk (some f76l14) none f76p61 .n
theorem f76t60 N v3 v4 v5 v7 v16 v34 v35 v159 v160 v1_0 v1_1 v1_2 (K : KT ρ) : f76i N (f76c 915863) f76p60 (f76s15 v3 v4 v5 v7 v16 v34 v35 v159 v160 v1_0 v1_1 v1_2) (joinK (some f76l14) K) =
  impl_factors.Z60 N v3 v4 v5 v7 v16 v34 v35 v159 v160 v1_0 v1_1 v1_2 (fun v3 v4 v5 v7 v16 v34 v35 v1_0 v1_1 v1_2 => K .nrm (f76s14 v3 v4 v5 v7 v16 v34 v35 v1_0 v1_1 v1_2)) :=
 viaBlockS (by kernel_rfl) (f76t61 N (K := blockK 6 (joinK (some f76l14) K)) ..) (by kernel_rfl)
noncomputable def f76p58 : Plan := .mk (some f76l15) none .n f76p60
theorem f76t58 N v3 v4 v5 v7 v16 v34 v35 v1_0 v1_1 v1_2 (K : KT ρ) : f76i N (f76c 391575) f76p58 (f76s14 v3 v4 v5 v7 v16 v34 v35 v1_0 v1_1 v1_2) (joinK (some f76l14) K) =
  impl_factors.Z58 N v3 v4 v5 v7 v16 v34 v35 v1_0 v1_1 v1_2 (fun v3 v4 v5 v7 v16 v34 v35 v1_0 v1_1 v1_2 => K .nrm (f76s14 v3 v4 v5 v7 v16 v34 v35 v1_0 v1_1 v1_2)) :=
 viaSeqS (fun k => impl_factors.Z59 N v3 v4 v5 v7 v16 v34 v35 v1_0 v1_1 v1_2 k) (by kernel_rfl) (f76t59 N (K := seqK (fun σ => f76i N (f76c 915863) f76p60 σ (joinK (some f76l14) K)) (joinK (some f76l14) K)) ..) (fx12 fun v3 v4 v5 v7 v16 v34 v35 v159 v160 v1_0 v1_1 v1_2 => f76t60 N v3 v4 v5 v7 v16 v34 v35 v159 v160 v1_0 v1_1 v1_2 K) (by kernel_rfl)
theorem f76t64 N v3 v4 v5 v7 v16 v34 v35 v1_0 v1_1 v1_2 (K : KT ρ) : f76i N (f76c 784791) .n (f76s14 v3 v4 v5 v7 v16 v34 v35 v1_0 v1_1 v1_2) (joinK (some f76l16) K) =
  impl_factors.Z64 N v3 v4 v5 v7 v16 v34 v35 v1_0 v1_1 v1_2 (fun v3 v4 v5 v7 v16 v19 v34 v35 v1_0 v1_1 v1_2 => K .nrm (f76s16 v3 v4 v5 v7 v16 v19 v34 v35 v1_0 v1_1 v1_2)) := by kernel_rfl
theorem f76t67 N v3 v4 v5 v7 v16 v19 v34 v35 v1_0 v1_1 v1_2 (K : KT ρ) : f76i N (f76c 2619799) .n (f76s16 v3 v4 v5 v7 v16 v19 v34 v35 v1_0 v1_1 v1_2) (joinK (some f76l17) K) =
  impl_factors.Z67 N v3 v4 v5 v7 v16 v19 v34 v35 v1_0 v1_1 v1_2 (fun v3 v4 v5 v7 v16 v19 v34 v35 v179 v180 v1_0 v1_1 v1_2 => K .nrm (f76s17 v3 v4 v5 v7 v16 v19 v34 v35 v179 v180 v1_0 v1_1 v1_2)) := by kernel_rfl
theorem f76t70 N v3 v4 v5 v7 v16 v19 v34 v35 v179 v180 v1_0 v1_1 v1_2 (K : KT ρ) : f76i N (f76c 9959831) .n (f76s17 v3 v4 v5 v7 v16 v19 v34 v35 v179 v180 v1_0 v1_1 v1_2) (joinK (some f76l17) K) =
  impl_factors.Z70 N v3 v4 v5 v7 v16 v19 v34 v35 v179 v180 v1_0 v1_1 v1_2 (fun v3 v4 v5 v7 v16 v19 v34 v35 v179 v180 v1_0 v1_1 v1_2 => K .nrm (f76s17 v3 v4 v5 v7 v16 v19 v34 v35 v179 v180 v1_0 v1_1 v1_2)) (fun v3 v4 v5 v7 v19 v34 v35 v1_0 v1_1 v1_2 => K (.exit 8) (f76s18 v3 v4 v5 v7 v19 v34 v35 v1_0 v1_1 v1_2)) := by kernel_rfl
noncomputable def f76p69 : Plan := .mk none (some f76l17) .n .n
noncomputable abbrev f76w69 {ρ : Type} (N M : Nat) (σ : St) (K : KT ρ) : Option ρ := loopC (fun σ K => f76i N (f76c 9959831) .n σ K) f76l17 M σ K
theorem f76t69L {ρ : Type} (N : Nat) (K : KT ρ) : ∀ (M : Nat) (v3 v4 v5 v7 : LI) (v16 v19 v34 v35 v179 v180 v1_0 v1_1 : Int) (v1_2 : LI), f76w69 N M (f76s17 v3 v4 v5 v7 v16 v19 v34 v35 v179 v180 v1_0 v1_1 v1_2) K =
  impl_factors.Z69L N (fun v3 v4 v5 v7 v19 v34 v35 v1_0 v1_1 v1_2 => K (.exit 8) (f76s18 v3 v4 v5 v7 v19 v34 v35 v1_0 v1_1 v1_2)) M v3 v4 v5 v7 v16 v19 v34 v35 v179 v180 v1_0 v1_1 v1_2
  | 0, _, _, _, _, _, _, _, _, _, _, _, _, _ => rfl
  | M + 1, v3, v4, v5, v7, v16, v19, v34, v35, v179, v180, v1_0, v1_1, v1_2 => viaRoundS (fun k => impl_factors.Z70 N v3 v4 v5 v7 v16 v19 v34 v35 v179 v180 v1_0 v1_1 v1_2 k (fun v3 v4 v5 v7 v19 v34 v35 v1_0 v1_1 v1_2 => K (.exit 8) (f76s18 v3 v4 v5 v7 v19 v34 v35 v1_0 v1_1 v1_2))) (f76t70 N (K := seqK (fun σ => f76w69 N M σ K) K) ..) (fx13 fun v3 v4 v5 v7 v16 v19 v34 v35 v179 v180 v1_0 v1_1 v1_2 => f76t69L N K M v3 v4 v5 v7 v16 v19 v34 v35 v179 v180 v1_0 v1_1 v1_2) (by kernel_rfl)
theorem f76t69 N v3 v4 v5 v7 v16 v19 v34 v35 v179 v180 v1_0 v1_1 v1_2 (K : KT ρ) : f76i N (f76c 5765527) f76p69 (f76s17 v3 v4 v5 v7 v16 v19 v34 v35 v179 v180 v1_0 v1_1 v1_2) (joinK (some f76l18) K) =
  impl_factors.Z69 N v3 v4 v5 v7 v16 v19 v34 v35 v179 v180 v1_0 v1_1 v1_2 (fun v3 v4 v5 v7 v19 v34 v35 v1_0 v1_1 v1_2 => K (.exit 8) (f76s18 v3 v4 v5 v7 v19 v34 v35 v1_0 v1_1 v1_2)) :=
 viaLoopS (by kernel_rfl) (f76t69L N (joinK (some f76l18) K) N v3 v4 v5 v7 v16 v19 v34 v35 v179 v180 v1_0 v1_1 v1_2) (by kernel_rfl)
noncomputable def f76p68 : Plan := .mk (some f76l18) none f76p69 .n
theorem f76t68 N v3 v4 v5 v7 v16 v19 v34 v35 v179 v180 v1_0 v1_1 v1_2 (K : KT ρ) : f76i N (f76c 3668375) f76p68 (f76s17 v3 v4 v5 v7 v16 v19 v34 v35 v179 v180 v1_0 v1_1 v1_2) (joinK (some f76l18) K) =
  impl_factors.Z68 N v3 v4 v5 v7 v16 v19 v34 v35 v179 v180 v1_0 v1_1 v1_2 (fun v3 v4 v5 v7 v19 v34 v35 v1_0 v1_1 v1_2 => K .nrm (f76s18 v3 v4 v5 v7 v19 v34 v35 v1_0 v1_1 v1_2)) :=
 viaBlockS (by kernel_rfl) (f76t69 N (K := blockK 8 (joinK (some f76l18) K)) ..) (by kernel_rfl)
noncomputable def f76p66 : Plan := .mk (some f76l17) none .n f76p68
theorem f76t66 N v3 v4 v5 v7 v16 v19 v34 v35 v1_0 v1_1 v1_2 (K : KT ρ) : f76i N (f76c 1571223) f76p66 (f76s16 v3 v4 v5 v7 v16 v19 v34 v35 v1_0 v1_1 v1_2) (joinK (some f76l18) K) =
  impl_factors.Z66 N v3 v4 v5 v7 v16 v19 v34 v35 v1_0 v1_1 v1_2 (fun v3 v4 v5 v7 v19 v34 v35 v1_0 v1_1 v1_2 => K .nrm (f76s18 v3 v4 v5 v7 v19 v34 v35 v1_0 v1_1 v1_2)) :=
 viaSeqS (fun k => impl_factors.Z67 N v3 v4 v5 v7 v16 v19 v34 v35 v1_0 v1_1 v1_2 k) (by kernel_rfl) (f76t67 N (K := seqK (fun σ => f76i N (f76c 3668375) f76p68 σ (joinK (some f76l18) K)) (joinK (some f76l18) K)) ..) (fx13 fun v3 v4 v5 v7 v16 v19 v34 v35 v179 v180 v1_0 v1_1 v1_2 => f76t68 N v3 v4 v5 v7 v16 v19 v34 v35 v179 v180 v1_0 v1_1 v1_2 K) (by kernel_rfl)
theorem f76t72 N v3 v4 v5 v7 v19 v34 v35 v1_0 v1_1 v1_2 (K : KT ρ) : f76i N (f76c 3144087) .n (f76s18 v3 v4 v5 v7 v19 v34 v35 v1_0 v1_1 v1_2) (joinK (some f76l19) K) =
  impl_factors.Z72 N v3 v4 v5 v7 v19 v34 v35 v1_0 v1_1 v1_2 (fun v3 v4 v5 v205 v19 v34 v35 v206 v207 v1_0 v1_1 v1_2 => K .nrm (f76s19 v3 v4 v5 v205 v19 v34 v35 v206 v207 v1_0 v1_1 v1_2)) := by kernel_rfl
theorem f76t75 N v3 v4 v5 v205 v19 v34 v35 v206 v207 v1_0 v1_1 v1_2 (K : KT ρ) : f76i N (f76c 10484119) .n (f76s19 v3 v4 v5 v205 v19 v34 v35 v206 v207 v1_0 v1_1 v1_2) (joinK (some f76l19) K) =
  impl_factors.Z75 N v3 v4 v5 v205 v19 v34 v35 v206 v207 v1_0 v1_1 v1_2 (fun v3 v4 v5 v205 v19 v34 v35 v206 v207 v1_0 v1_1 v1_2 => K .nrm (f76s19 v3 v4 v5 v205 v19 v34 v35 v206 v207 v1_0 v1_1 v1_2)) (fun v3 v4 v5 v34 v35 v1_0 v1_1 v1_2 => K (.exit 10) (f76s4 v3 v4 v5 v34 v35 v1_0 v1_1 v1_2)) := by kernel_rfl
noncomputable def f76p74 : Plan := .mk none (some f76l19) .n .n
noncomputable abbrev f76w74 {ρ : Type} (N M : Nat) (σ : St) (K : KT ρ) : Option ρ := loopC (fun σ K => f76i N (f76c 10484119) .n σ K) f76l19 M σ K
theorem f76t74L {ρ : Type} (N : Nat) (K : KT ρ) : ∀ (M : Nat) (v3 v4 v5 v205 : LI) (v19 v34 v35 v206 v207 v1_0 v1_1 : Int) (v1_2 : LI), f76w74 N M (f76s19 v3 v4 v5 v205 v19 v34 v35 v206 v207 v1_0 v1_1 v1_2) K =
  impl_factors.Z74L N (fun v3 v4 v5 v34 v35 v1_0 v1_1 v1_2 => K (.exit 10) (f76s4 v3 v4 v5 v34 v35 v1_0 v1_1 v1_2)) M v3 v4 v5 v205 v19 v34 v35 v206 v207 v1_0 v1_1 v1_2
  | 0, _, _, _, _, _, _, _, _, _, _, _, _ => rfl
  | M + 1, v3, v4, v5, v205, v19, v34, v35, v206, v207, v1_0, v1_1, v1_2 => viaRoundS (fun k => impl_factors.Z75 N v3 v4 v5 v205 v19 v34 v35 v206 v207 v1_0 v1_1 v1_2 k (fun v3 v4 v5 v34 v35 v1_0 v1_1 v1_2 => K (.exit 10) (f76s4 v3 v4 v5 v34 v35 v1_0 v1_1 v1_2))) (f76t75 N (K := seqK (fun σ => f76w74 N M σ K) K) ..) (fx12 fun v3 v4 v5 v205 v19 v34 v35 v206 v207 v1_0 v1_1 v1_2 => f76t74L N K M v3 v4 v5 v205 v19 v34 v35 v206 v207 v1_0 v1_1 v1_2) (by kernel_rfl)
theorem f76t74 N v3 v4 v5 v205 v19 v34 v35 v206 v207 v1_0 v1_1 v1_2 (K : KT ρ) : f76i N (f76c 6289815) f76p74 (f76s19 v3 v4 v5 v205 v19 v34 v35 v206 v207 v1_0 v1_1 v1_2) (joinK (some f76l4) K) =
  impl_factors.Z74 N v3 v4 v5 v205 v19 v34 v35 v206 v207 v1_0 v1_1 v1_2 (fun v3 v4 v5 v34 v35 v1_0 v1_1 v1_2 => K (.exit 10) (f76s4 v3 v4 v5 v34 v35 v1_0 v1_1 v1_2)) :=
 viaLoopS (by kernel_rfl) (f76t74L N (joinK (some f76l4) K) N v3 v4 v5 v205 v19 v34 v35 v206 v207 v1_0 v1_1 v1_2) (by kernel_rfl)
noncomputable def f76p73 : Plan := .mk (some f76l4) none f76p74 .n
theorem f76t73 N v3 v4 v5 v205 v19 v34 v35 v206 v207 v1_0 v1_1 v1_2 (K : KT ρ) : f76i N (f76c 4192663) f76p73 (f76s19 v3 v4 v5 v205 v19 v34 v35 v206 v207 v1_0 v1_1 v1_2) (joinK (some f76l4) K) =
  impl_factors.Z73 N v3 v4 v5 v205 v19 v34 v35 v206 v207 v1_0 v1_1 v1_2 (fun v3 v4 v5 v34 v35 v1_0 v1_1 v1_2 => K .nrm (f76s4 v3 v4 v5 v34 v35 v1_0 v1_1 v1_2)) :=
 viaBlockS (by kernel_rfl) (f76t74 N (K := blockK 10 (joinK (some f76l4) K)) ..) (by kernel_rfl)
noncomputable def f76p71 : Plan := .mk (some f76l19) none .n f76p73
theorem f76t71 N v3 v4 v5 v7 v19 v34 v35 v1_0 v1_1 v1_2 (K : KT ρ) : f76i N (f76c 2095511) f76p71 (f76s18 v3 v4 v5 v7 v19 v34 v35 v1_0 v1_1 v1_2) (joinK (some f76l4) K) =
  impl_factors.Z71 N v3 v4 v5 v7 v19 v34 v35 v1_0 v1_1 v1_2 (fun v3 v4 v5 v34 v35 v1_0 v1_1 v1_2 => K .nrm (f76s4 v3 v4 v5 v34 v35 v1_0 v1_1 v1_2)) :=
 viaSeqS (fun k => impl_factors.Z72 N v3 v4 v5 v7 v19 v34 v35 v1_0 v1_1 v1_2 k) (by kernel_rfl) (f76t72 N (K := seqK (fun σ => f76i N (f76c 4192663) f76p73 σ (joinK (some f76l4) K)) (joinK (some f76l4) K)) ..) (fx12 fun v3 v4 v5 v205 v19 v34 v35 v206 v207 v1_0 v1_1 v1_2 => f76t73 N v3 v4 v5 v205 v19 v34 v35 v206 v207 v1_0 v1_1 v1_2 K) (by kernel_rfl)
noncomputable def f76p65 : Plan := .mk (some f76l18) none f76p66 f76p71
theorem f76t65 N v3 v4 v5 v7 v16 v19 v34 v35 v1_0 v1_1 v1_2 (K : KT ρ) : f76i N (f76c 1046935) f76p65 (f76s16 v3 v4 v5 v7 v16 v19 v34 v35 v1_0 v1_1 v1_2) (joinK (some f76l4) K) =
  impl_factors.Z65 N v3 v4 v5 v7 v16 v19 v34 v35 v1_0 v1_1 v1_2 (fun v3 v4 v5 v34 v35 v1_0 v1_1 v1_2 => K .nrm (f76s4 v3 v4 v5 v34 v35 v1_0 v1_1 v1_2)) :=
 viaSeqS (fun k => impl_factors.Z66 N v3 v4 v5 v7 v16 v19 v34 v35 v1_0 v1_1 v1_2 k) (by kernel_rfl) (f76t66 N (K := seqK (fun σ => f76i N (f76c 2095511) f76p71 σ (joinK (some f76l4) K)) (joinK (some f76l4) K)) ..) (fx10 fun v3 v4 v5 v7 v19 v34 v35 v1_0 v1_1 v1_2 => f76t71 N v3 v4 v5 v7 v19 v34 v35 v1_0 v1_1 v1_2 K) (by kernel_rfl)
noncomputable def f76p63 : Plan := .mk (some f76l16) none .n f76p65
theorem f76t63 N v3 v4 v5 v7 v16 v34 v35 v1_0 v1_1 v1_2 (K : KT ρ) : f76i N (f76c 522647) f76p63 (f76s14 v3 v4 v5 v7 v16 v34 v35 v1_0 v1_1 v1_2) (joinK (some f76l4) K) =
  impl_factors.Z63 N v3 v4 v5 v7 v16 v34 v35 v1_0 v1_1 v1_2 (fun v3 v4 v5 v34 v35 v1_0 v1_1 v1_2 => K .nrm (f76s4 v3 v4 v5 v34 v35 v1_0 v1_1 v1_2)) :=
 viaSeqS (fun k => impl_factors.Z64 N v3 v4 v5 v7 v16 v34 v35 v1_0 v1_1 v1_2 k) (by kernel_rfl) (f76t64 N (K := seqK (fun σ => f76i N (f76c 1046935) f76p65 σ (joinK (some f76l4) K)) (joinK (some f76l4) K)) ..) (fx11 fun v3 v4 v5 v7 v16 v19 v34 v35 v1_0 v1_1 v1_2 => f76t65 N v3 v4 v5 v7 v16 v19 v34 v35 v1_0 v1_1 v1_2 K) (by kernel_rfl)
noncomputable def f76p57 : Plan := .mk (some f76l14) none f76p58 f76p63
theorem f76t57 N v3 v4 v5 v7 v16 v34 v35 v1_0 v1_1 v1_2 (K : KT ρ) : f76i N (f76c 260503) f76p57 (f76s14 v3 v4 v5 v7 v16 v34 v35 v1_0 v1_1 v1_2) (joinK (some f76l4) K) =
  impl_factors.Z57 N v3 v4 v5 v7 v16 v34 v35 v1_0 v1_1 v1_2 (fun v3 v4 v5 v34 v35 v1_0 v1_1 v1_2 => K .nrm (f76s4 v3 v4 v5 v34 v35 v1_0 v1_1 v1_2)) :=
 viaSeqS (fun k => impl_factors.Z58 N v3 v4 v5 v7 v16 v34 v35 v1_0 v1_1 v1_2 k) (by kernel_rfl) (f76t58 N (K := seqK (fun σ => f76i N (f76c 522647) f76p63 σ (joinK (some f76l4) K)) (joinK (some f76l4) K)) ..) (fx10 fun v3 v4 v5 v7 v16 v34 v35 v1_0 v1_1 v1_2 => f76t63 N v3 v4 v5 v7 v16 v34 v35 v1_0 v1_1 v1_2 K) (by kernel_rfl)
noncomputable def f76p55 : Plan := .mk (some f76l14) none .n f76p57
theorem f76t55 N v3 v4 v5 v7 v34 v35 v1_0 v1_1 v1_2 (K : KT ρ) : f76i N (f76c 129431) f76p55 (f76s7 v3 v4 v5 v7 v34 v35 v1_0 v1_1 v1_2) (joinK (some f76l4) K) =
  impl_factors.Z55 N v3 v4 v5 v7 v34 v35 v1_0 v1_1 v1_2 (fun v3 v4 v5 v34 v35 v1_0 v1_1 v1_2 => K .nrm (f76s4 v3 v4 v5 v34 v35 v1_0 v1_1 v1_2)) :=
 viaSeqS (fun k => impl_factors.Z56 N v3 v4 v5 v7 v34 v35 v1_0 v1_1 v1_2 k) (by kernel_rfl) (f76t56 N (K := seqK (fun σ => f76i N (f76c 260503) f76p57 σ (joinK (some f76l4) K)) (joinK (some f76l4) K)) ..) (fx10 fun v3 v4 v5 v7 v16 v34 v35 v1_0 v1_1 v1_2 => f76t57 N v3 v4 v5 v7 v16 v34 v35 v1_0 v1_1 v1_2 K) (by kernel_rfl)
noncomputable def f76p25 : Plan := .mk (some f76l7) none f76p26 f76p55
theorem f76t25 N v3 v4 v5 v7 v34 v35 v1_0 v1_1 v1_2 (K : KT ρ) : f76i N (f76c 63895) f76p25 (f76s7 v3 v4 v5 v7 v34 v35 v1_0 v1_1 v1_2) (joinK (some f76l4) K) =
  impl_factors.Z25 N v3 v4 v5 v7 v34 v35 v1_0 v1_1 v1_2 (fun v3 v4 v5 v34 v35 v1_0 v1_1 v1_2 => K .nrm (f76s4 v3 v4 v5 v34 v35 v1_0 v1_1 v1_2)) (fun v2 => K .ret (f76s21 v2)) :=
 viaSeqS (fun k => impl_factors.Z26 N v3 v4 v5 v7 v34 v35 v1_0 v1_1 v1_2 k (fun v2 => K .ret (f76s21 v2))) (by kernel_rfl) (f76t26 N (K := seqK (fun σ => f76i N (f76c 129431) f76p55 σ (joinK (some f76l4) K)) (joinK (some f76l4) K)) ..) (fx9 fun v3 v4 v5 v7 v34 v35 v1_0 v1_1 v1_2 => f76t55 N v3 v4 v5 v7 v34 v35 v1_0 v1_1 v1_2 K) (by kernel_rfl)
noncomputable def f76p23 : Plan := .mk (some f76l7) none .n f76p25
theorem f76t23 N v3 v4 v5 v6 v34 v35 v1_0 v1_1 v1_2 (K : KT ρ) : f76i N (f76c 31127) f76p23 (f76s6 v3 v4 v5 v6 v34 v35 v1_0 v1_1 v1_2) (joinK (some f76l4) K) =
  impl_factors.Z23 N v3 v4 v5 v6 v34 v35 v1_0 v1_1 v1_2 (fun v3 v4 v5 v34 v35 v1_0 v1_1 v1_2 => K .nrm (f76s4 v3 v4 v5 v34 v35 v1_0 v1_1 v1_2)) (fun v2 => K .ret (f76s21 v2)) :=
 viaSeqS (fun k => impl_factors.Z24 N v3 v4 v5 v6 v34 v35 v1_0 v1_1 v1_2 k) (by kernel_rfl) (f76t24 N (K := seqK (fun σ => f76i N (f76c 63895) f76p25 σ (joinK (some f76l4) K)) (joinK (some f76l4) K)) ..) (fx9 fun v3 v4 v5 v7 v34 v35 v1_0 v1_1 v1_2 => f76t25 N v3 v4 v5 v7 v34 v35 v1_0 v1_1 v1_2 K) (by kernel_rfl)
noncomputable def f76p21 : Plan := .mk (some f76l6) none .n f76p23
theorem f76t21 N v3 v4 v5 v6 v34 v35 v1_0 v1_1 v1_2 (K : KT ρ) : f76i N (f76c 14743) f76p21 (f76s6 v3 v4 v5 v6 v34 v35 v1_0 v1_1 v1_2) (joinK (some f76l4) K) =
  impl_factors.Z21 N v3 v4 v5 v6 v34 v35 v1_0 v1_1 v1_2 (fun v3 v4 v5 v34 v35 v1_0 v1_1 v1_2 => K .nrm (f76s4 v3 v4 v5 v34 v35 v1_0 v1_1 v1_2)) (fun v2 => K .ret (f76s21 v2)) :=
 viaSeqS (fun k => impl_factors.Z22 N v3 v4 v5 v6 v34 v35 v1_0 v1_1 v1_2 k) (by kernel_rfl) (f76t22 N (K := seqK (fun σ => f76i N (f76c 31127) f76p23 σ (joinK (some f76l4) K)) (joinK (some f76l4) K)) ..) (fx9 fun v3 v4 v5 v6 v34 v35 v1_0 v1_1 v1_2 => f76t23 N v3 v4 v5 v6 v34 v35 v1_0 v1_1 v1_2 K) (by kernel_rfl)
noncomputable def f76p19 : Plan := .mk (some f76l6) none .n f76p21
theorem f76t19 N v3 v4 v5 v6 v34 v35 v1_0 v1_1 v1_2 (K : KT ρ) : f76i N (f76c 6551) f76p19 (f76s6 v3 v4 v5 v6 v34 v35 v1_0 v1_1 v1_2) (joinK (some f76l4) K) =
  impl_factors.Z19 N v3 v4 v5 v6 v34 v35 v1_0 v1_1 v1_2 (fun v3 v4 v5 v34 v35 v1_0 v1_1 v1_2 => K .nrm (f76s4 v3 v4 v5 v34 v35 v1_0 v1_1 v1_2)) (fun v3 v4 v5 v34 v35 v1_0 v1_1 v1_2 => K (.exit 1) (f76s4 v3 v4 v5 v34 v35 v1_0 v1_1 v1_2)) (fun v2 => K .ret (f76s21 v2)) :=
 viaSeqS (fun k => impl_factors.Z20 N v3 v4 v5 v6 v34 v35 v1_0 v1_1 v1_2 k (fun v3 v4 v5 v34 v35 v1_0 v1_1 v1_2 => K (.exit 1) (f76s4 v3 v4 v5 v34 v35 v1_0 v1_1 v1_2))) (by kernel_rfl) (f76t20 N (K := seqK (fun σ => f76i N (f76c 14743) f76p21 σ (joinK (some f76l4) K)) (joinK (some f76l4) K)) ..) (fx9 fun v3 v4 v5 v6 v34 v35 v1_0 v1_1 v1_2 => f76t21 N v3 v4 v5 v6 v34 v35 v1_0 v1_1 v1_2 K) (by kernel_rfl)
noncomputable def f76p17 : Plan := .mk (some f76l6) none .n f76p19
theorem f76t17 N v3 v4 v5 v34 v35 v1_0 v1_1 v1_2 (K : KT ρ) : f76i N (f76c 2455) f76p17 (f76s4 v3 v4 v5 v34 v35 v1_0 v1_1 v1_2) (joinK (some f76l4) K) =
  impl_factors.Z17 N v3 v4 v5 v34 v35 v1_0 v1_1 v1_2 (fun v3 v4 v5 v34 v35 v1_0 v1_1 v1_2 => K .nrm (f76s4 v3 v4 v5 v34 v35 v1_0 v1_1 v1_2)) (fun v3 v4 v5 v34 v35 v1_0 v1_1 v1_2 => K (.exit 1) (f76s4 v3 v4 v5 v34 v35 v1_0 v1_1 v1_2)) (fun v2 => K .ret (f76s21 v2)) :=
 viaSeqS (fun k => impl_factors.Z18 N v3 v4 v5 v34 v35 v1_0 v1_1 v1_2 k) (by kernel_rfl) (f76t18 N (K := seqK (fun σ => f76i N (f76c 6551) f76p19 σ (joinK (some f76l4) K)) (joinK (some f76l4) K)) ..) (fx9 fun v3 v4 v5 v6 v34 v35 v1_0 v1_1 v1_2 => f76t19 N v3 v4 v5 v6 v34 v35 v1_0 v1_1 v1_2 K) (by kernel_rfl)
noncomputable def f76p16 : Plan := .mk (some f76l4) none f76p17 .n
theorem f76t16 N v3 v4 v5 v34 v35 v1_0 v1_1 v1_2 (K : KT ρ) : f76i N (f76c 1431) f76p16 (f76s4 v3 v4 v5 v34 v35 v1_0 v1_1 v1_2) (joinK (some f76l4) K) =
  impl_factors.Z16 N v3 v4 v5 v34 v35 v1_0 v1_1 v1_2 (fun v3 v4 v5 v34 v35 v1_0 v1_1 v1_2 => K .nrm (f76s4 v3 v4 v5 v34 v35 v1_0 v1_1 v1_2)) (fun v2 => K .ret (f76s21 v2)) :=
 viaBlockS (by kernel_rfl) (f76t17 N (K := blockK 1 (joinK (some f76l4) K)) ..) (by kernel_rfl)
theorem f76t76 N v3 v4 v5 v34 v35 v1_0 v1_1 v1_2 (K : KT ρ) : f76i N (f76c 1943) .n (f76s4 v3 v4 v5 v34 v35 v1_0 v1_1 v1_2) (joinK (some f76l4) K) =
  impl_factors.Z76 N v3 v4 v5 v34 v35 v1_0 v1_1 v1_2 (fun v3 v4 v5 v34 v35 v1_0 v1_1 v1_2 => K .nrm (f76s4 v3 v4 v5 v34 v35 v1_0 v1_1 v1_2)) := by kernel_rfl
noncomputable def f76p15 : Plan := .mk (some f76l4) none f76p16 .n
theorem f76t15 N v3 v4 v5 v34 v35 v1_0 v1_1 v1_2 (K : KT ρ) : f76i N (f76c 919) f76p15 (f76s4 v3 v4 v5 v34 v35 v1_0 v1_1 v1_2) (joinK (some f76l4) K) =
  impl_factors.Z15 N v3 v4 v5 v34 v35 v1_0 v1_1 v1_2 (fun v3 v4 v5 v34 v35 v1_0 v1_1 v1_2 => K .nrm (f76s4 v3 v4 v5 v34 v35 v1_0 v1_1 v1_2)) (fun v2 => K .ret (f76s21 v2)) :=
 viaSeqS (fun k => impl_factors.Z16 N v3 v4 v5 v34 v35 v1_0 v1_1 v1_2 k (fun v2 => K .ret (f76s21 v2))) (by kernel_rfl) (f76t16 N (K := seqK (fun σ => f76i N (f76c 1943) .n σ (joinK (some f76l4) K)) (joinK (some f76l4) K)) ..) (fx8 fun v3 v4 v5 v34 v35 v1_0 v1_1 v1_2 => f76t76 N v3 v4 v5 v34 v35 v1_0 v1_1 v1_2 K) (by kernel_rfl)
noncomputable def f76p13 : Plan := .mk (some f76l4) none .n f76p15
theorem f76t13 N v3 v4 v5 v34 v35 v36 v1_0 v1_1 v1_2 (K : KT ρ) : f76i N (f76c 407) f76p13 (f76s5 v3 v4 v5 v34 v35 v36 v1_0 v1_1 v1_2) (joinK (some f76l4) K) =
  impl_factors.Z13 N v3 v4 v5 v34 v35 v36 v1_0 v1_1 v1_2 (fun v3 v4 v5 v34 v35 v1_0 v1_1 v1_2 => K .nrm (f76s4 v3 v4 v5 v34 v35 v1_0 v1_1 v1_2)) (fun v5 => K (.exit 0) (f76s20 v5)) (fun v2 => K .ret (f76s21 v2)) :=
 viaSeqS (fun k => impl_factors.Z14 N v3 v4 v5 v34 v35 v36 v1_0 v1_1 v1_2 k (fun v5 => K (.exit 0) (f76s20 v5))) (by kernel_rfl) (f76t14 N (K := seqK (fun σ => f76i N (f76c 919) f76p15 σ (joinK (some f76l4) K)) (joinK (some f76l4) K)) ..) (fx8 fun v3 v4 v5 v34 v35 v1_0 v1_1 v1_2 => f76t15 N v3 v4 v5 v34 v35 v1_0 v1_1 v1_2 K) (by kernel_rfl)
noncomputable def f76p11 : Plan := .mk (some f76l5) none .n f76p13
theorem f76t11 N v3 v4 v5 v34 v35 v1_0 v1_1 v1_2 (K : KT ρ) : f76i N (f76c 151) f76p11 (f76s4 v3 v4 v5 v34 v35 v1_0 v1_1 v1_2) (joinK (some f76l4) K) =
  impl_factors.Z11 N v3 v4 v5 v34 v35 v1_0 v1_1 v1_2 (fun v3 v4 v5 v34 v35 v1_0 v1_1 v1_2 => K .nrm (f76s4 v3 v4 v5 v34 v35 v1_0 v1_1 v1_2)) (fun v5 => K (.exit 0) (f76s20 v5)) (fun v2 => K .ret (f76s21 v2)) :=
 viaSeqS (fun k => impl_factors.Z12 N v3 v4 v5 v34 v35 v1_0 v1_1 v1_2 k) (by kernel_rfl) (f76t12 N (K := seqK (fun σ => f76i N (f76c 407) f76p13 σ (joinK (some f76l4) K)) (joinK (some f76l4) K)) ..) (fx9 fun v3 v4 v5 v34 v35 v36 v1_0 v1_1 v1_2 => f76t13 N v3 v4 v5 v34 v35 v36 v1_0 v1_1 v1_2 K) (by kernel_rfl)
noncomputable def f76p10 : Plan := .mk none (some f76l4) f76p11 .n
noncomputable abbrev f76w10 {ρ : Type} (N M : Nat) (σ : St) (K : KT ρ) : Option ρ := loopC (fun σ K => f76i N (f76c 151) f76p11 σ K) f76l4 M σ K
theorem f76t10L {ρ : Type} (N : Nat) (K : KT ρ) : ∀ (M : Nat) (v3 v4 v5 : LI) (v34 v35 v1_0 v1_1 : Int) (v1_2 : LI), f76w10 N M (f76s4 v3 v4 v5 v34 v35 v1_0 v1_1 v1_2) K =
  impl_factors.Z10L N (fun v5 => K (.exit 0) (f76s20 v5)) (fun v2 => K .ret (f76s21 v2)) M v3 v4 v5 v34 v35 v1_0 v1_1 v1_2
  | 0, _, _, _, _, _, _, _, _ => rfl
  | M + 1, v3, v4, v5, v34, v35, v1_0, v1_1, v1_2 => viaRoundS (fun k => impl_factors.Z11 N v3 v4 v5 v34 v35 v1_0 v1_1 v1_2 k (fun v5 => K (.exit 0) (f76s20 v5)) (fun v2 => K .ret (f76s21 v2))) (f76t11 N (K := seqK (fun σ => f76w10 N M σ K) K) ..) (fx8 fun v3 v4 v5 v34 v35 v1_0 v1_1 v1_2 => f76t10L N K M v3 v4 v5 v34 v35 v1_0 v1_1 v1_2) (by kernel_rfl)
theorem f76t10 N v3 v4 v5 v34 v35 v1_0 v1_1 v1_2 (K : KT ρ) : f76i N (f76c 87) f76p10 (f76s4 v3 v4 v5 v34 v35 v1_0 v1_1 v1_2) (joinK (some f76l20) K) =
  impl_factors.Z10 N v3 v4 v5 v34 v35 v1_0 v1_1 v1_2 (fun v5 => K (.exit 0) (f76s20 v5)) (fun v2 => K .ret (f76s21 v2)) :=
 viaLoopS (by kernel_rfl) (f76t10L N (joinK (some f76l20) K) N v3 v4 v5 v34 v35 v1_0 v1_1 v1_2) (by kernel_rfl)
noncomputable def f76p9 : Plan := .mk (some f76l20) none f76p10 .n
theorem f76t9 N v3 v4 v5 v34 v35 v1_0 v1_1 v1_2 (K : KT ρ) : f76i N (f76c 55) f76p9 (f76s4 v3 v4 v5 v34 v35 v1_0 v1_1 v1_2) (joinK (some f76l20) K) =
  impl_factors.Z9 N v3 v4 v5 v34 v35 v1_0 v1_1 v1_2 (fun v5 => K .nrm (f76s20 v5)) (fun v2 => K .ret (f76s21 v2)) :=
 viaBlockS (by kernel_rfl) (f76t10 N (K := blockK 0 (joinK (some f76l20) K)) ..) (by kernel_rfl)
noncomputable def f76p7 : Plan := .mk (some f76l4) none .n f76p9
theorem f76t7 N v3 v4 v5 v1_0 v1_1 v1_2 (K : KT ρ) : f76i N (f76c 23) f76p7 (f76s3 v3 v4 v5 v1_0 v1_1 v1_2) (joinK (some f76l20) K) =
  impl_factors.Z7 N v3 v4 v5 v1_0 v1_1 v1_2 (fun v5 => K .nrm (f76s20 v5)) (fun v2 => K .ret (f76s21 v2)) :=
 viaSeqS (fun k => impl_factors.Z8 N v3 v4 v5 v1_0 v1_1 v1_2 k) (by kernel_rfl) (f76t8 N (K := seqK (fun σ => f76i N (f76c 55) f76p9 σ (joinK (some f76l20) K)) (joinK (some f76l20) K)) ..) (fx8 fun v3 v4 v5 v34 v35 v1_0 v1_1 v1_2 => f76t9 N v3 v4 v5 v34 v35 v1_0 v1_1 v1_2 K) (by kernel_rfl)
theorem f76t77 N v5 (K : KT ρ) : f76i N (f76c 31) .n (f76s20 v5) (joinK (some f76lE) K) =
  impl_factors.Z77 N v5 (fun v2 => K .ret (f76s21 v2)) := by kernel_rfl
noncomputable def f76p6 : Plan := .mk (some f76l20) none f76p7 .n
theorem f76t6 N v3 v4 v5 v1_0 v1_1 v1_2 (K : KT ρ) : f76i N (f76c 15) f76p6 (f76s3 v3 v4 v5 v1_0 v1_1 v1_2) (joinK (some f76lE) K) =
  impl_factors.Z6 N v3 v4 v5 v1_0 v1_1 v1_2 (fun v2 => K .ret (f76s21 v2)) :=
 viaSeqS (fun k => impl_factors.Z7 N v3 v4 v5 v1_0 v1_1 v1_2 k (fun v2 => K .ret (f76s21 v2))) (by kernel_rfl) (f76t7 N (K := seqK (fun σ => f76i N (f76c 31) .n σ (joinK (some f76lE) K)) (joinK (some f76lE) K)) ..) (funext fun v5 => f76t77 N v5 K) (by kernel_rfl)
noncomputable def f76p4 : Plan := .mk (some f76l3) none .n f76p6
theorem f76t4 N v3 v4 v1_0 v1_1 v1_2 (K : KT ρ) : f76i N (f76c 7) f76p4 (f76s2 v3 v4 v1_0 v1_1 v1_2) (joinK (some f76lE) K) =
  impl_factors.Z4 N v3 v4 v1_0 v1_1 v1_2 (fun v2 => K .ret (f76s21 v2)) :=
 viaSeqS (fun k => impl_factors.Z5 N v3 v4 v1_0 v1_1 v1_2 k) (by kernel_rfl) (f76t5 N (K := seqK (fun σ => f76i N (f76c 15) f76p6 σ (joinK (some f76lE) K)) (joinK (some f76lE) K)) ..) (fx6 fun v3 v4 v5 v1_0 v1_1 v1_2 => f76t6 N v3 v4 v5 v1_0 v1_1 v1_2 K) (by kernel_rfl)
noncomputable def f76p2 : Plan := .mk (some f76l2) none .n f76p4
theorem f76t2 N v1_0 v1_1 v1_2 (K : KT ρ) : f76i N (f76c 3) f76p2 (f76s1 v1_0 v1_1 v1_2) (joinK (some f76lE) K) =
  impl_factors.Z2 N v1_0 v1_1 v1_2 (fun v2 => K .ret (f76s21 v2)) :=
 viaSeqS (fun k => impl_factors.Z3 N v1_0 v1_1 v1_2 k) (by kernel_rfl) (f76t3 N (K := seqK (fun σ => f76i N (f76c 7) f76p4 σ (joinK (some f76lE) K)) (joinK (some f76lE) K)) ..) (fx5 fun v3 v4 v1_0 v1_1 v1_2 => f76t4 N v3 v4 v1_0 v1_1 v1_2 K) (by kernel_rfl)
noncomputable def f76p0 : Plan := .mk (some f76l1) none .n f76p2
theorem f76t0 N v0 (K : KT ρ) : f76i N (f76c 1) f76p0 (f76s0 v0) (joinK (some f76lE) K) =
  impl_factors.Z0 N v0 (fun v2 => K .ret (f76s21 v2)) :=
 viaSeqS (fun k => impl_factors.Z1 N v0 k) (by kernel_rfl) (f76t1 N (K := seqK (fun σ => f76i N (f76c 3) f76p2 σ (joinK (some f76lE) K)) (joinK (some f76lE) K)) ..) (fx3 fun v1_0 v1_1 v1_2 => f76t2 N v1_0 v1_1 v1_2 K) (by kernel_rfl)
theorem f76m (N : Nat) (v0 : MT) : f76i N (f76c 1) f76p0 (f76s0 v0) (joinK (some f76lE) (finK tab f76sig Try.f76.results.toList)) = impl_factors.Z0 N v0 (fun v2 => some ((), (v2, ()))) :=
  (f76t0 N v0 (finK tab f76sig Try.f76.results.toList)).trans (by kernel_rfl)
theorem f76ok (h : impl_factors.Spec) : EntryOk Try.prog 76 e76 :=
  entry_of_code (sig := f76sig) (c := (f76c 1)) (pl := f76p0) (je := (some f76lE)) (B := f76B) Try.func76 (by kernel_rfl) (by kernel_rfl) (by kernel_rfl) tabOk f76GOk (by kernel_rfl) (by kernel_rfl) (by kernel_rfl) (by kernel_rfl) fun X hb hp => by
    obtain ⟨v0, _⟩ := X
    obtain ⟨N, h⟩ := h v0 hb.1 hp
    exact ⟨N, (f76m N v0).trans (h N (Nat.le_refl N))⟩
theorem e76ok : EntryOk Try.prog 76 e76 := f76ok impl_factors.ok
end Go.Fw
namespace Go.Fw
variable {ρ : Type}
open Go.Proofs
noncomputable def f31sig : Sig := ⟨[⟨.pair (.int .i64) (.pair (.int .i64) (.sl 3 (.int .i64))), true, false⟩], [⟨.bool, false, false⟩]⟩
noncomputable def e31 : Entry := ⟨f31sig, none, fun X => ((), ((impl_MatrixOk.g X.1), ()))⟩
noncomputable def f31G : Nat → Option Entry := addG (addG (fun _ => none) 75 e75) 76 e76
theorem f31GOk : GOk Try.prog f31G := ((GOk.nil).add e75ok (by kernel_rfl)).add e76ok (by kernel_rfl)
noncomputable def f31lE : Clean := ⟨[], [], [], [], []⟩
noncomputable def f31s0 (v0 : MT) : St := initSt f31sig.ps (v0, ())
noncomputable def f31s1 (v2 : Bool) : St := stOf [(2, xB v2)] [] []
noncomputable def f31l1 : Clean := ⟨[2], [], [], [], []⟩
noncomputable def f31B : Nat → Option Clean := lookL [(1000000, f31l1)]
noncomputable abbrev f31i {ρ : Type} (N : Nat) (c : Code) (p : Plan) (σ : St) (K : KT ρ) : Option ρ := iCode f31G tab f31B N c p σ K
noncomputable def f31c (n : Nat) : Code := codeN 99 (bodyOf Try.f31) n
theorem f31t0 N v0 (K : KT ρ) : f31i N (f31c 1) .n (f31s0 v0) (joinK (some f31lE) K) =
  impl_MatrixOk.Z0 N v0 (fun v2 => K .ret (f31s1 v2)) := by kernel_rfl
theorem f31m (N : Nat) (v0 : MT) : f31i N (f31c 1) .n (f31s0 v0) (joinK (some f31lE) (finK tab f31sig Try.f31.results.toList)) = impl_MatrixOk.Z0 N v0 (fun v2 => some ((), (v2, ()))) :=
  (f31t0 N v0 (finK tab f31sig Try.f31.results.toList)).trans (by kernel_rfl)
theorem f31ok (h : impl_MatrixOk.Spec) : EntryOk Try.prog 31 e31 :=
  entry_of_code (sig := f31sig) (c := (f31c 1)) (pl := .n) (je := (some f31lE)) (B := f31B) Try.func31 (by kernel_rfl) (by kernel_rfl) (by kernel_rfl) tabOk f31GOk (by kernel_rfl) (by kernel_rfl) (by kernel_rfl) (by kernel_rfl) fun X hb hp => by
    obtain ⟨v0, _⟩ := X
    obtain ⟨N, h⟩ := h v0 hb.1
    exact ⟨N, (f31m N v0).trans (h N (Nat.le_refl N))⟩
theorem e31ok : EntryOk Try.prog 31 e31 := f31ok impl_MatrixOk.ok
end Go.Fw
namespace Go.Fw
variable {ρ : Type}
open Go.Proofs
noncomputable def f91sig : Sig := ⟨[⟨.sl 3 (.int .i64), false, false⟩], [⟨.sl 3 (.int .i64), false, false⟩]⟩
noncomputable def e91 : Entry := ⟨f91sig, (some fun X => slices_Clone_int_int.P X.1), fun X => ((), ((slices_Clone_int_int.g X.1), ()))⟩
noncomputable def f91G : Nat → Option Entry := (fun _ => none)
theorem f91GOk : GOk Try.prog f91G := GOk.nil
noncomputable def f91lE : Clean := ⟨[], [], [], [], []⟩
noncomputable def f91s0 (v0 : LI) : St := initSt f91sig.ps (v0, ())
noncomputable def f91s1 (v2 : LI) : St := stOf [(2, xo 1000128)] [] [(1000128, (⟨3, .int .i64, v2, true, false⟩ : Row))]
noncomputable def f91l1 : Clean := ⟨[2], [], [⟨⟨false, 2, 0⟩, 30000000, 3, .int .i64, true⟩], [], [(⟨false, 2, 0⟩, 1000128)]⟩
noncomputable def f91B : Nat → Option Clean := lookL [(1000000, f91l1)]
noncomputable abbrev f91i {ρ : Type} (N : Nat) (c : Code) (p : Plan) (σ : St) (K : KT ρ) : Option ρ := iCode f91G tab f91B N c p σ K
noncomputable def f91c (n : Nat) : Code := codeN 99 (bodyOf Try.f91) n
theorem f91t0 N v0 (K : KT ρ) : f91i N (f91c 1) .n (f91s0 v0) (joinK (some f91lE) K) =
  slices_Clone_int_int.Z0 N v0 (fun v2 => K .ret (f91s1 v2)) := by kernel_rfl
theorem f91m (N : Nat) (v0 : LI) : f91i N (f91c 1) .n (f91s0 v0) (joinK (some f91lE) (finK tab f91sig Try.f91.results.toList)) = slices_Clone_int_int.Z0 N v0 (fun v2 => some ((), (v2, ()))) :=
  (f91t0 N v0 (finK tab f91sig Try.f91.results.toList)).trans (by kernel_rfl)
theorem f91ok (h : slices_Clone_int_int.Spec) : EntryOk Try.prog 91 e91 :=
  entry_of_code (sig := f91sig) (c := (f91c 1)) (pl := .n) (je := (some f91lE)) (B := f91B) Try.func91 (by kernel_rfl) (by kernel_rfl) (by kernel_rfl) tabOk f91GOk (by kernel_rfl) (by kernel_rfl) (by kernel_rfl) (by kernel_rfl) fun X hb hp => by
    obtain ⟨v0, _⟩ := X
    obtain ⟨N, h⟩ := h v0 hb.1 hp
    exact ⟨N, (f91m N v0).trans (h N (Nat.le_refl N))⟩
theorem e91ok : EntryOk Try.prog 91 e91 := f91ok slices_Clone_int_int.ok
end Go.Fw
namespace Go.Fw
variable {ρ : Type}
open Go.Proofs
noncomputable def f62sig : Sig := ⟨[⟨.pair (.int .i64) (.pair (.int .i64) (.sl 3 (.int .i64))), true, false⟩], [⟨.pair (.int .i64) (.pair (.int .i64) (.sl 3 (.int .i64))), true, false⟩, ⟨.bool, false, false⟩]⟩
noncomputable def e62 : Entry := ⟨f62sig, none, fun X => ((), ((impl_PrincipalMatrix.g X.1).1, ((impl_PrincipalMatrix.g X.1).2, ())))⟩
noncomputable def f62G : Nat → Option Entry := addG (addG (fun _ => none) 31 e31) 91 e91
theorem f62GOk : GOk Try.prog f62G := ((GOk.nil).add e31ok (by kernel_rfl)).add e91ok (by kernel_rfl)
noncomputable def f62lE : Clean := ⟨[], [], [], [], []⟩
noncomputable def f62s0 (v0 : MT) : St := initSt f62sig.ps (v0, ())
noncomputable def f62s1 (v1_0 v1_1 : Int) (v1_2 : LI) (v2_0 v2_1 : Int) : St := stOf [(1, xb 1), (2, xb 2)] [(1, (30, [yi v1_0, yi v1_1, .sn 3 tI v1_2 none])), (2, (30, [yi v2_0, yi v2_1, .nil]))] []
noncomputable def f62l1 : Clean := ⟨[1, 2], [1, 2], [], [], []⟩
noncomputable def f62s2 (v4_2 : LI) (v1_0 v1_1 : Int) (v1_2 : LI) (v2_0 v2_1 v4_0 v4_1 : Int) : St := stOf [(1, xb 1), (2, xb 2), (4, xb 4)] [(1, (30, [yi v1_0, yi v1_1, .sn 3 tI v1_2 none])), (2, (30, [yi v2_0, yi v2_1, .nil])), (4, (30, [yi v4_0, yi v4_1, .own 20000258]))] [(20000258, (⟨3, .int .i64, v4_2, true, false⟩ : Row))]
noncomputable def f62l2 : Clean := ⟨[1, 2, 4], [1, 2, 4], [], [], [(⟨true, 4, 2⟩, 20000258)]⟩
noncomputable def f62s3 (v4_2 : LI) (v5 v1_0 v1_1 : Int) (v1_2 : LI) (v2_0 v2_1 v4_0 v4_1 : Int) : St := stOf [(1, xb 1), (2, xb 2), (4, xb 4), (5, xi v5)] [(1, (30, [yi v1_0, yi v1_1, .sn 3 tI v1_2 none])), (2, (30, [yi v2_0, yi v2_1, .nil])), (4, (30, [yi v4_0, yi v4_1, .own 20000258]))] [(20000258, (⟨3, .int .i64, v4_2, true, false⟩ : Row))]
noncomputable def f62l3 : Clean := ⟨[1, 2, 4, 5], [1, 2, 4], [], [], [(⟨true, 4, 2⟩, 20000258)]⟩
noncomputable def f62s4 (v4_2 : LI) (v5 v6 v1_0 v1_1 : Int) (v1_2 : LI) (v2_0 v2_1 v4_0 v4_1 : Int) : St := stOf [(1, xb 1), (2, xb 2), (4, xb 4), (5, xi v5), (6, xi v6)] [(1, (30, [yi v1_0, yi v1_1, .sn 3 tI v1_2 none])), (2, (30, [yi v2_0, yi v2_1, .nil])), (4, (30, [yi v4_0, yi v4_1, .own 20000258]))] [(20000258, (⟨3, .int .i64, v4_2, true, false⟩ : Row))]
noncomputable def f62l4 : Clean := ⟨[1, 2, 4, 5, 6], [1, 2, 4], [], [], [(⟨true, 4, 2⟩, 20000258)]⟩
noncomputable def f62s5 (v4_2 : LI) (v2_0 v2_1 v4_0 v4_1 : Int) : St := stOf [(2, xb 2), (4, xb 4)] [(2, (30, [yi v2_0, yi v2_1, .nil])), (4, (30, [yi v4_0, yi v4_1, .own 20000258]))] [(20000258, (⟨3, .int .i64, v4_2, true, false⟩ : Row))]
noncomputable def f62l5 : Clean := ⟨[2, 4], [2, 4], [], [], [(⟨true, 4, 2⟩, 20000258)]⟩
noncomputable def f62s6 (v2_2 : LI) (v3 : Bool) (v2_0 v2_1 : Int) : St := stOf [(2, xb 2), (3, xB v3)] [(2, (30, [yi v2_0, yi v2_1, .own 20000130]))] [(20000130, (⟨3, .int .i64, v2_2, true, false⟩ : Row))]
noncomputable def f62l6 : Clean := ⟨[2, 3], [2], [⟨⟨true, 2, 2⟩, 30000000, 3, .int .i64, true⟩], [], [(⟨true, 2, 2⟩, 20000130)]⟩
noncomputable def f62B : Nat → Option Clean := lookL [(2, f62l3), (1, f62l3), (0, f62l5), (1000000, f62l6)]
noncomputable abbrev f62i {ρ : Type} (N : Nat) (c : Code) (p : Plan) (σ : St) (K : KT ρ) : Option ρ := iCode f62G tab f62B N c p σ K
noncomputable def f62c (n : Nat) : Code := codeN 99 (bodyOf Try.f62) n
theorem f62t1 N v0 (K : KT ρ) : f62i N (f62c 2) .n (f62s0 v0) (joinK (some f62l1) K) =
  impl_PrincipalMatrix.Z1 N v0 (fun v1_0 v1_1 v1_2 v2_0 v2_1 => K .nrm (f62s1 v1_0 v1_1 v1_2 v2_0 v2_1)) := by kernel_rfl
theorem f62t3 N v1_0 v1_1 v1_2 v2_0 v2_1 (K : KT ρ) : f62i N (f62c 5) .n (f62s1 v1_0 v1_1 v1_2 v2_0 v2_1) (joinK (some f62l1) K) =
  impl_PrincipalMatrix.Z3 N v1_0 v1_1 v1_2 v2_0 v2_1 (fun v1_0 v1_1 v1_2 v2_0 v2_1 => K .nrm (f62s1 v1_0 v1_1 v1_2 v2_0 v2_1)) (fun v2_2 v3 v2_0 v2_1 => K .ret (f62s6 v2_2 v3 v2_0 v2_1)) := by kernel_rfl
theorem f62t5 N v1_0 v1_1 v1_2 v2_0 v2_1 (K : KT ρ) : f62i N (f62c 11) .n (f62s1 v1_0 v1_1 v1_2 v2_0 v2_1) (joinK (some f62l2) K) =
  impl_PrincipalMatrix.Z5 N v1_0 v1_1 v1_2 v2_0 v2_1 (fun v4_2 v1_0 v1_1 v1_2 v2_0 v2_1 v4_0 v4_1 => K .nrm (f62s2 v4_2 v1_0 v1_1 v1_2 v2_0 v2_1 v4_0 v4_1)) := by kernel_rfl
theorem f62t8 N v4_2 v1_0 v1_1 v1_2 v2_0 v2_1 v4_0 v4_1 (K : KT ρ) : f62i N (f62c 39) .n (f62s2 v4_2 v1_0 v1_1 v1_2 v2_0 v2_1 v4_0 v4_1) (joinK (some f62l3) K) =
  impl_PrincipalMatrix.Z8 N v4_2 v1_0 v1_1 v1_2 v2_0 v2_1 v4_0 v4_1 (fun v4_2 v5 v1_0 v1_1 v1_2 v2_0 v2_1 v4_0 v4_1 => K .nrm (f62s3 v4_2 v5 v1_0 v1_1 v1_2 v2_0 v2_1 v4_0 v4_1)) := by kernel_rfl
theorem f62t12 N v4_2 v5 v1_0 v1_1 v1_2 v2_0 v2_1 v4_0 v4_1 (K : KT ρ) : f62i N (f62c 279) .n (f62s3 v4_2 v5 v1_0 v1_1 v1_2 v2_0 v2_1 v4_0 v4_1) (joinK (some f62l3) K) =
  impl_PrincipalMatrix.Z12 N v4_2 v5 v1_0 v1_1 v1_2 v2_0 v2_1 v4_0 v4_1 (fun v4_2 v5 v1_0 v1_1 v1_2 v2_0 v2_1 v4_0 v4_1 => K .nrm (f62s3 v4_2 v5 v1_0 v1_1 v1_2 v2_0 v2_1 v4_0 v4_1)) (fun v4_2 v2_0 v2_1 v4_0 v4_1 => K (.exit 0) (f62s5 v4_2 v2_0 v2_1 v4_0 v4_1)) := by kernel_rfl
theorem f62t16 N v4_2 v5 v1_0 v1_1 v1_2 v2_0 v2_1 v4_0 v4_1 (K : KT ρ) : f62i N (f62c 2199) .n (f62s3 v4_2 v5 v1_0 v1_1 v1_2 v2_0 v2_1 v4_0 v4_1) (joinK (some f62l4) K) =
  impl_PrincipalMatrix.Z16 N v4_2 v5 v1_0 v1_1 v1_2 v2_0 v2_1 v4_0 v4_1 (fun v4_2 v5 v6 v1_0 v1_1 v1_2 v2_0 v2_1 v4_0 v4_1 => K .nrm (f62s4 v4_2 v5 v6 v1_0 v1_1 v1_2 v2_0 v2_1 v4_0 v4_1)) := by kernel_rfl
theorem f62t19 N v4_2 v5 v6 v1_0 v1_1 v1_2 v2_0 v2_1 v4_0 v4_1 (K : KT ρ) : f62i N (f62c 9367) .n (f62s4 v4_2 v5 v6 v1_0 v1_1 v1_2 v2_0 v2_1 v4_0 v4_1) (joinK (some f62l4) K) =
  impl_PrincipalMatrix.Z19 N v4_2 v5 v6 v1_0 v1_1 v1_2 v2_0 v2_1 v4_0 v4_1 (fun v4_2 v5 v6 v1_0 v1_1 v1_2 v2_0 v2_1 v4_0 v4_1 => K .nrm (f62s4 v4_2 v5 v6 v1_0 v1_1 v1_2 v2_0 v2_1 v4_0 v4_1)) (fun v4_2 v5 v1_0 v1_1 v1_2 v2_0 v2_1 v4_0 v4_1 => K (.exit 2) (f62s3 v4_2 v5 v1_0 v1_1 v1_2 v2_0 v2_1 v4_0 v4_1)) := by kernel_rfl
noncomputable def f62p18 : Plan := .mk none (some f62l4) .n .n
noncomputable abbrev f62w18 {ρ : Type} (N M : Nat) (σ : St) (K : KT ρ) : Option ρ := loopC (fun σ K => f62i N (f62c 9367) .n σ K) f62l4 M σ K
theorem f62t18L {ρ : Type} (N : Nat) (K : KT ρ) : ∀ (M : Nat) (v4_2 : LI) (v5 v6 v1_0 v1_1 : Int) (v1_2 : LI) (v2_0 v2_1 v4_0 v4_1 : Int), f62w18 N M (f62s4 v4_2 v5 v6 v1_0 v1_1 v1_2 v2_0 v2_1 v4_0 v4_1) K =
  impl_PrincipalMatrix.Z18L N (fun v4_2 v5 v1_0 v1_1 v1_2 v2_0 v2_1 v4_0 v4_1 => K (.exit 2) (f62s3 v4_2 v5 v1_0 v1_1 v1_2 v2_0 v2_1 v4_0 v4_1)) M v4_2 v5 v6 v1_0 v1_1 v1_2 v2_0 v2_1 v4_0 v4_1
  | 0, _, _, _, _, _, _, _, _, _, _ => rfl
  | M + 1, v4_2, v5, v6, v1_0, v1_1, v1_2, v2_0, v2_1, v4_0, v4_1 => viaRoundS (fun k => impl_PrincipalMatrix.Z19 N v4_2 v5 v6 v1_0 v1_1 v1_2 v2_0 v2_1 v4_0 v4_1 k (fun v4_2 v5 v1_0 v1_1 v1_2 v2_0 v2_1 v4_0 v4_1 => K (.exit 2) (f62s3 v4_2 v5 v1_0 v1_1 v1_2 v2_0 v2_1 v4_0 v4_1))) (f62t19 N (K := seqK (fun σ => f62w18 N M σ K) K) ..) (fx10 fun v4_2 v5 v6 v1_0 v1_1 v1_2 v2_0 v2_1 v4_0 v4_1 => f62t18L N K M v4_2 v5 v6 v1_0 v1_1 v1_2 v2_0 v2_1 v4_0 v4_1) (by kernel_rfl)
theorem f62t18 N v4_2 v5 v6 v1_0 v1_1 v1_2 v2_0 v2_1 v4_0 v4_1 (K : KT ρ) : f62i N (f62c 5271) f62p18 (f62s4 v4_2 v5 v6 v1_0 v1_1 v1_2 v2_0 v2_1 v4_0 v4_1) (joinK (some f62l3) K) =
  impl_PrincipalMatrix.Z18 N v4_2 v5 v6 v1_0 v1_1 v1_2 v2_0 v2_1 v4_0 v4_1 (fun v4_2 v5 v1_0 v1_1 v1_2 v2_0 v2_1 v4_0 v4_1 => K (.exit 2) (f62s3 v4_2 v5 v1_0 v1_1 v1_2 v2_0 v2_1 v4_0 v4_1)) :=
 viaLoopS (by kernel_rfl) (f62t18L N (joinK (some f62l3) K) N v4_2 v5 v6 v1_0 v1_1 v1_2 v2_0 v2_1 v4_0 v4_1) (by kernel_rfl)
noncomputable def f62p17 : Plan := .mk (some f62l3) none f62p18 .n
theorem f62t17 N v4_2 v5 v6 v1_0 v1_1 v1_2 v2_0 v2_1 v4_0 v4_1 (K : KT ρ) : f62i N (f62c 3223) f62p17 (f62s4 v4_2 v5 v6 v1_0 v1_1 v1_2 v2_0 v2_1 v4_0 v4_1) (joinK (some f62l3) K) =
  impl_PrincipalMatrix.Z17 N v4_2 v5 v6 v1_0 v1_1 v1_2 v2_0 v2_1 v4_0 v4_1 (fun v4_2 v5 v1_0 v1_1 v1_2 v2_0 v2_1 v4_0 v4_1 => K .nrm (f62s3 v4_2 v5 v1_0 v1_1 v1_2 v2_0 v2_1 v4_0 v4_1)) :=
 viaBlockS (by kernel_rfl) (f62t18 N (K := blockK 2 (joinK (some f62l3) K)) ..) (by kernel_rfl)
noncomputable def f62p15 : Plan := .mk (some f62l4) none .n f62p17
theorem f62t15 N v4_2 v5 v1_0 v1_1 v1_2 v2_0 v2_1 v4_0 v4_1 (K : KT ρ) : f62i N (f62c 1175) f62p15 (f62s3 v4_2 v5 v1_0 v1_1 v1_2 v2_0 v2_1 v4_0 v4_1) (joinK (some f62l3) K) =
  impl_PrincipalMatrix.Z15 N v4_2 v5 v1_0 v1_1 v1_2 v2_0 v2_1 v4_0 v4_1 (fun v4_2 v5 v1_0 v1_1 v1_2 v2_0 v2_1 v4_0 v4_1 => K .nrm (f62s3 v4_2 v5 v1_0 v1_1 v1_2 v2_0 v2_1 v4_0 v4_1)) :=
 viaSeqS (fun k => impl_PrincipalMatrix.Z16 N v4_2 v5 v1_0 v1_1 v1_2 v2_0 v2_1 v4_0 v4_1 k) (by kernel_rfl) (f62t16 N (K := seqK (fun σ => f62i N (f62c 3223) f62p17 σ (joinK (some f62l3) K)) (joinK (some f62l3) K)) ..) (fx10 fun v4_2 v5 v6 v1_0 v1_1 v1_2 v2_0 v2_1 v4_0 v4_1 => f62t17 N v4_2 v5 v6 v1_0 v1_1 v1_2 v2_0 v2_1 v4_0 v4_1 K) (by kernel_rfl)
noncomputable def f62p14 : Plan := .mk (some f62l3) none f62p15 .n
theorem f62t14 N v4_2 v5 v1_0 v1_1 v1_2 v2_0 v2_1 v4_0 v4_1 (K : KT ρ) : f62i N (f62c 663) f62p14 (f62s3 v4_2 v5 v1_0 v1_1 v1_2 v2_0 v2_1 v4_0 v4_1) (joinK (some f62l3) K) =
  impl_PrincipalMatrix.Z14 N v4_2 v5 v1_0 v1_1 v1_2 v2_0 v2_1 v4_0 v4_1 (fun v4_2 v5 v1_0 v1_1 v1_2 v2_0 v2_1 v4_0 v4_1 => K .nrm (f62s3 v4_2 v5 v1_0 v1_1 v1_2 v2_0 v2_1 v4_0 v4_1)) :=
 viaBlockS (by kernel_rfl) (f62t15 N (K := blockK 1 (joinK (some f62l3) K)) ..) (by kernel_rfl)
theorem f62t20 N v4_2 v5 v1_0 v1_1 v1_2 v2_0 v2_1 v4_0 v4_1 (K : KT ρ) : f62i N (f62c 919) .n (f62s3 v4_2 v5 v1_0 v1_1 v1_2 v2_0 v2_1 v4_0 v4_1) (joinK (some f62l3) K) =
  impl_PrincipalMatrix.Z20 N v4_2 v5 v1_0 v1_1 v1_2 v2_0 v2_1 v4_0 v4_1 (fun v4_2 v5 v1_0 v1_1 v1_2 v2_0 v2_1 v4_0 v4_1 => K .nrm (f62s3 v4_2 v5 v1_0 v1_1 v1_2 v2_0 v2_1 v4_0 v4_1)) := by kernel_rfl
noncomputable def f62p13 : Plan := .mk (some f62l3) none f62p14 .n
theorem f62t13 N v4_2 v5 v1_0 v1_1 v1_2 v2_0 v2_1 v4_0 v4_1 (K : KT ρ) : f62i N (f62c 407) f62p13 (f62s3 v4_2 v5 v1_0 v1_1 v1_2 v2_0 v2_1 v4_0 v4_1) (joinK (some f62l3) K) =
  impl_PrincipalMatrix.Z13 N v4_2 v5 v1_0 v1_1 v1_2 v2_0 v2_1 v4_0 v4_1 (fun v4_2 v5 v1_0 v1_1 v1_2 v2_0 v2_1 v4_0 v4_1 => K .nrm (f62s3 v4_2 v5 v1_0 v1_1 v1_2 v2_0 v2_1 v4_0 v4_1)) :=
 viaSeqS (fun k => impl_PrincipalMatrix.Z14 N v4_2 v5 v1_0 v1_1 v1_2 v2_0 v2_1 v4_0 v4_1 k) (by kernel_rfl) (f62t14 N (K := seqK (fun σ => f62i N (f62c 919) .n σ (joinK (some f62l3) K)) (joinK (some f62l3) K)) ..) (fx9 fun v4_2 v5 v1_0 v1_1 v1_2 v2_0 v2_1 v4_0 v4_1 => f62t20 N v4_2 v5 v1_0 v1_1 v1_2 v2_0 v2_1 v4_0 v4_1 K) (by kernel_rfl)
noncomputable def f62p11 : Plan := .mk (some f62l3) none .n f62p13
theorem f62t11 N v4_2 v5 v1_0 v1_1 v1_2 v2_0 v2_1 v4_0 v4_1 (K : KT ρ) : f62i N (f62c 151) f62p11 (f62s3 v4_2 v5 v1_0 v1_1 v1_2 v2_0 v2_1 v4_0 v4_1) (joinK (some f62l3) K) =
  impl_PrincipalMatrix.Z11 N v4_2 v5 v1_0 v1_1 v1_2 v2_0 v2_1 v4_0 v4_1 (fun v4_2 v5 v1_0 v1_1 v1_2 v2_0 v2_1 v4_0 v4_1 => K .nrm (f62s3 v4_2 v5 v1_0 v1_1 v1_2 v2_0 v2_1 v4_0 v4_1)) (fun v4_2 v2_0 v2_1 v4_0 v4_1 => K (.exit 0) (f62s5 v4_2 v2_0 v2_1 v4_0 v4_1)) :=
 viaSeqS (fun k => impl_PrincipalMatrix.Z12 N v4_2 v5 v1_0 v1_1 v1_2 v2_0 v2_1 v4_0 v4_1 k (fun v4_2 v2_0 v2_1 v4_0 v4_1 => K (.exit 0) (f62s5 v4_2 v2_0 v2_1 v4_0 v4_1))) (by kernel_rfl) (f62t12 N (K := seqK (fun σ => f62i N (f62c 407) f62p13 σ (joinK (some f62l3) K)) (joinK (some f62l3) K)) ..) (fx9 fun v4_2 v5 v1_0 v1_1 v1_2 v2_0 v2_1 v4_0 v4_1 => f62t13 N v4_2 v5 v1_0 v1_1 v1_2 v2_0 v2_1 v4_0 v4_1 K) (by kernel_rfl)
noncomputable def f62p10 : Plan := .mk none (some f62l3) f62p11 .n
noncomputable abbrev f62w10 {ρ : Type} (N M : Nat) (σ : St) (K : KT ρ) : Option ρ := loopC (fun σ K => f62i N (f62c 151) f62p11 σ K) f62l3 M σ K
theorem f62t10L {ρ : Type} (N : Nat) (K : KT ρ) : ∀ (M : Nat) (v4_2 : LI) (v5 v1_0 v1_1 : Int) (v1_2 : LI) (v2_0 v2_1 v4_0 v4_1 : Int), f62w10 N M (f62s3 v4_2 v5 v1_0 v1_1 v1_2 v2_0 v2_1 v4_0 v4_1) K =
  impl_PrincipalMatrix.Z10L N (fun v4_2 v2_0 v2_1 v4_0 v4_1 => K (.exit 0) (f62s5 v4_2 v2_0 v2_1 v4_0 v4_1)) M v4_2 v5 v1_0 v1_1 v1_2 v2_0 v2_1 v4_0 v4_1
  | 0, _, _, _, _, _, _, _, _, _ => rfl
  | M + 1, v4_2, v5, v1_0, v1_1, v1_2, v2_0, v2_1, v4_0, v4_1 => viaRoundS (fun k => impl_PrincipalMatrix.Z11 N v4_2 v5 v1_0 v1_1 v1_2 v2_0 v2_1 v4_0 v4_1 k (fun v4_2 v2_0 v2_1 v4_0 v4_1 => K (.exit 0) (f62s5 v4_2 v2_0 v2_1 v4_0 v4_1))) (f62t11 N (K := seqK (fun σ => f62w10 N M σ K) K) ..) (fx9 fun v4_2 v5 v1_0 v1_1 v1_2 v2_0 v2_1 v4_0 v4_1 => f62t10L N K M v4_2 v5 v1_0 v1_1 v1_2 v2_0 v2_1 v4_0 v4_1) (by kernel_rfl)
theorem f62t10 N v4_2 v5 v1_0 v1_1 v1_2 v2_0 v2_1 v4_0 v4_1 (K : KT ρ) : f62i N (f62c 87) f62p10 (f62s3 v4_2 v5 v1_0 v1_1 v1_2 v2_0 v2_1 v4_0 v4_1) (joinK (some f62l5) K) =
  impl_PrincipalMatrix.Z10 N v4_2 v5 v1_0 v1_1 v1_2 v2_0 v2_1 v4_0 v4_1 (fun v4_2 v2_0 v2_1 v4_0 v4_1 => K (.exit 0) (f62s5 v4_2 v2_0 v2_1 v4_0 v4_1)) :=
 viaLoopS (by kernel_rfl) (f62t10L N (joinK (some f62l5) K) N v4_2 v5 v1_0 v1_1 v1_2 v2_0 v2_1 v4_0 v4_1) (by kernel_rfl)
noncomputable def f62p9 : Plan := .mk (some f62l5) none f62p10 .n
theorem f62t9 N v4_2 v5 v1_0 v1_1 v1_2 v2_0 v2_1 v4_0 v4_1 (K : KT ρ) : f62i N (f62c 55) f62p9 (f62s3 v4_2 v5 v1_0 v1_1 v1_2 v2_0 v2_1 v4_0 v4_1) (joinK (some f62l5) K) =
  impl_PrincipalMatrix.Z9 N v4_2 v5 v1_0 v1_1 v1_2 v2_0 v2_1 v4_0 v4_1 (fun v4_2 v2_0 v2_1 v4_0 v4_1 => K .nrm (f62s5 v4_2 v2_0 v2_1 v4_0 v4_1)) :=
 viaBlockS (by kernel_rfl) (f62t10 N (K := blockK 0 (joinK (some f62l5) K)) ..) (by kernel_rfl)
noncomputable def f62p7 : Plan := .mk (some f62l3) none .n f62p9
theorem f62t7 N v4_2 v1_0 v1_1 v1_2 v2_0 v2_1 v4_0 v4_1 (K : KT ρ) : f62i N (f62c 23) f62p7 (f62s2 v4_2 v1_0 v1_1 v1_2 v2_0 v2_1 v4_0 v4_1) (joinK (some f62l5) K) =
  impl_PrincipalMatrix.Z7 N v4_2 v1_0 v1_1 v1_2 v2_0 v2_1 v4_0 v4_1 (fun v4_2 v2_0 v2_1 v4_0 v4_1 => K .nrm (f62s5 v4_2 v2_0 v2_1 v4_0 v4_1)) :=
 viaSeqS (fun k => impl_PrincipalMatrix.Z8 N v4_2 v1_0 v1_1 v1_2 v2_0 v2_1 v4_0 v4_1 k) (by kernel_rfl) (f62t8 N (K := seqK (fun σ => f62i N (f62c 55) f62p9 σ (joinK (some f62l5) K)) (joinK (some f62l5) K)) ..) (fx9 fun v4_2 v5 v1_0 v1_1 v1_2 v2_0 v2_1 v4_0 v4_1 => f62t9 N v4_2 v5 v1_0 v1_1 v1_2 v2_0 v2_1 v4_0 v4_1 K) (by kernel_rfl)
theorem f62t21 N v4_2 v2_0 v2_1 v4_0 v4_1 (K : KT ρ) : f62i N (f62c 31) .n (f62s5 v4_2 v2_0 v2_1 v4_0 v4_1) (joinK (some f62lE) K) =
  impl_PrincipalMatrix.Z21 N v4_2 v2_0 v2_1 v4_0 v4_1 (fun v2_2 v3 v2_0 v2_1 => K .ret (f62s6 v2_2 v3 v2_0 v2_1)) := by kernel_rfl
noncomputable def f62p6 : Plan := .mk (some f62l5) none f62p7 .n
theorem f62t6 N v4_2 v1_0 v1_1 v1_2 v2_0 v2_1 v4_0 v4_1 (K : KT ρ) : f62i N (f62c 15) f62p6 (f62s2 v4_2 v1_0 v1_1 v1_2 v2_0 v2_1 v4_0 v4_1) (joinK (some f62lE) K) =
  impl_PrincipalMatrix.Z6 N v4_2 v1_0 v1_1 v1_2 v2_0 v2_1 v4_0 v4_1 (fun v2_2 v3 v2_0 v2_1 => K .ret (f62s6 v2_2 v3 v2_0 v2_1)) :=
 viaSeqS (fun k => impl_PrincipalMatrix.Z7 N v4_2 v1_0 v1_1 v1_2 v2_0 v2_1 v4_0 v4_1 k) (by kernel_rfl) (f62t7 N (K := seqK (fun σ => f62i N (f62c 31) .n σ (joinK (some f62lE) K)) (joinK (some f62lE) K)) ..) (fx5 fun v4_2 v2_0 v2_1 v4_0 v4_1 => f62t21 N v4_2 v2_0 v2_1 v4_0 v4_1 K) (by kernel_rfl)
noncomputable def f62p4 : Plan := .mk (some f62l2) none .n f62p6
theorem f62t4 N v1_0 v1_1 v1_2 v2_0 v2_1 (K : KT ρ) : f62i N (f62c 7) f62p4 (f62s1 v1_0 v1_1 v1_2 v2_0 v2_1) (joinK (some f62lE) K) =
  impl_PrincipalMatrix.Z4 N v1_0 v1_1 v1_2 v2_0 v2_1 (fun v2_2 v3 v2_0 v2_1 => K .ret (f62s6 v2_2 v3 v2_0 v2_1)) :=
 viaSeqS (fun k => impl_PrincipalMatrix.Z5 N v1_0 v1_1 v1_2 v2_0 v2_1 k) (by kernel_rfl) (f62t5 N (K := seqK (fun σ => f62i N (f62c 15) f62p6 σ (joinK (some f62lE) K)) (joinK (some f62lE) K)) ..) (fx8 fun v4_2 v1_0 v1_1 v1_2 v2_0 v2_1 v4_0 v4_1 => f62t6 N v4_2 v1_0 v1_1 v1_2 v2_0 v2_1 v4_0 v4_1 K) (by kernel_rfl)
noncomputable def f62p2 : Plan := .mk (some f62l1) none .n f62p4
theorem f62t2 N v1_0 v1_1 v1_2 v2_0 v2_1 (K : KT ρ) : f62i N (f62c 3) f62p2 (f62s1 v1_0 v1_1 v1_2 v2_0 v2_1) (joinK (some f62lE) K) =
  impl_PrincipalMatrix.Z2 N v1_0 v1_1 v1_2 v2_0 v2_1 (fun v2_2 v3 v2_0 v2_1 => K .ret (f62s6 v2_2 v3 v2_0 v2_1)) :=
 viaSeqS (fun k => impl_PrincipalMatrix.Z3 N v1_0 v1_1 v1_2 v2_0 v2_1 k (fun v2_2 v3 v2_0 v2_1 => K .ret (f62s6 v2_2 v3 v2_0 v2_1))) (by kernel_rfl) (f62t3 N (K := seqK (fun σ => f62i N (f62c 7) f62p4 σ (joinK (some f62lE) K)) (joinK (some f62lE) K)) ..) (fx5 fun v1_0 v1_1 v1_2 v2_0 v2_1 => f62t4 N v1_0 v1_1 v1_2 v2_0 v2_1 K) (by kernel_rfl)
noncomputable def f62p0 : Plan := .mk (some f62l1) none .n f62p2
theorem f62t0 N v0 (K : KT ρ) : f62i N (f62c 1) f62p0 (f62s0 v0) (joinK (some f62lE) K) =
  impl_PrincipalMatrix.Z0 N v0 (fun v2_2 v3 v2_0 v2_1 => K .ret (f62s6 v2_2 v3 v2_0 v2_1)) :=
 viaSeqS (fun k => impl_PrincipalMatrix.Z1 N v0 k) (by kernel_rfl) (f62t1 N (K := seqK (fun σ => f62i N (f62c 3) f62p2 σ (joinK (some f62lE) K)) (joinK (some f62lE) K)) ..) (fx5 fun v1_0 v1_1 v1_2 v2_0 v2_1 => f62t2 N v1_0 v1_1 v1_2 v2_0 v2_1 K) (by kernel_rfl)
theorem f62m (N : Nat) (v0 : MT) : f62i N (f62c 1) f62p0 (f62s0 v0) (joinK (some f62lE) (finK tab f62sig Try.f62.results.toList)) = impl_PrincipalMatrix.Z0 N v0 (fun v2_2 v3 v2_0 v2_1 => some ((), ((v2_0, (v2_1, v2_2)), (v3, ())))) :=
  (f62t0 N v0 (finK tab f62sig Try.f62.results.toList)).trans (by kernel_rfl)
theorem f62ok (h : impl_PrincipalMatrix.Spec) : EntryOk Try.prog 62 e62 :=
  entry_of_code (sig := f62sig) (c := (f62c 1)) (pl := f62p0) (je := (some f62lE)) (B := f62B) Try.func62 (by kernel_rfl) (by kernel_rfl) (by kernel_rfl) tabOk f62GOk (by kernel_rfl) (by kernel_rfl) (by kernel_rfl) (by kernel_rfl) fun X hb hp => by
    obtain ⟨v0, _⟩ := X
    obtain ⟨N, h⟩ := h v0 hb.1
    exact ⟨N, (f62m N v0).trans (h N (Nat.le_refl N))⟩
theorem e62ok : EntryOk Try.prog 62 e62 := f62ok impl_PrincipalMatrix.ok
end Go.Fw
namespace Go.Fw
variable {ρ : Type}
open Go.Proofs
noncomputable def f71sig : Sig := ⟨[⟨.pair (.int .i64) (.pair (.int .i64) (.sl 3 (.int .i64))), true, false⟩, ⟨.int .i64, false, false⟩], [⟨.pair (.int .i64) (.pair (.int .i64) (.sl 3 (.int .i64))), true, false⟩]⟩
noncomputable def e71 : Entry := ⟨f71sig, (some fun X => impl_mutated.P X.1 X.2.1), fun X => ((), ((impl_mutated.g X.1 X.2.1), ()))⟩
noncomputable def f71G : Nat → Option Entry := addG (addG (fun _ => none) 83 e83) 91 e91
theorem f71GOk : GOk Try.prog f71G := ((GOk.nil).add e83ok (by kernel_rfl)).add e91ok (by kernel_rfl)
noncomputable def f71lE : Clean := ⟨[], [], [], [], []⟩
noncomputable def f71s0 (v0 : MT) (v1 : Int) : St := initSt f71sig.ps (v0, (v1, ()))
noncomputable def f71s1 (v1 v2_0 v2_1 : Int) (v2_2 : LI) (v4_0 v4_1 : Int) : St := stOf [(1, xi v1), (2, xb 2), (4, xb 4)] [(2, (30, [yi v2_0, yi v2_1, .sn 3 tI v2_2 none])), (4, (30, [yi v4_0, yi v4_1, .nil]))] []
noncomputable def f71l1 : Clean := ⟨[1, 2, 4], [2, 4], [], [], []⟩
noncomputable def f71s2 (v5_2 : LI) (v1 v2_0 v2_1 : Int) (v2_2 : LI) (v4_0 v4_1 v5_0 v5_1 : Int) : St := stOf [(1, xi v1), (2, xb 2), (4, xb 4), (5, xb 5)] [(2, (30, [yi v2_0, yi v2_1, .sn 3 tI v2_2 none])), (4, (30, [yi v4_0, yi v4_1, .nil])), (5, (30, [yi v5_0, yi v5_1, .own 20000322]))] [(20000322, (⟨3, .int .i64, v5_2, true, false⟩ : Row))]
noncomputable def f71l2 : Clean := ⟨[1, 2, 4, 5], [2, 4, 5], [], [], [(⟨true, 5, 2⟩, 20000322)]⟩
noncomputable def f71s3 (v5_2 : LI) (v1 v6 v2_0 v2_1 : Int) (v2_2 : LI) (v4_0 v4_1 v5_0 v5_1 : Int) : St := stOf [(1, xi v1), (2, xb 2), (4, xb 4), (5, xb 5), (6, xi v6)] [(2, (30, [yi v2_0, yi v2_1, .sn 3 tI v2_2 none])), (4, (30, [yi v4_0, yi v4_1, .nil])), (5, (30, [yi v5_0, yi v5_1, .own 20000322]))] [(20000322, (⟨3, .int .i64, v5_2, true, false⟩ : Row))]
noncomputable def f71l3 : Clean := ⟨[1, 2, 4, 5, 6], [2, 4, 5], [], [], [(⟨true, 5, 2⟩, 20000322)]⟩
noncomputable def f71s4 (v5_2 : LI) (v1 v6 v7 v2_0 v2_1 : Int) (v2_2 : LI) (v4_0 v4_1 v5_0 v5_1 : Int) : St := stOf [(1, xi v1), (2, xb 2), (4, xb 4), (5, xb 5), (6, xi v6), (7, xi v7)] [(2, (30, [yi v2_0, yi v2_1, .sn 3 tI v2_2 none])), (4, (30, [yi v4_0, yi v4_1, .nil])), (5, (30, [yi v5_0, yi v5_1, .own 20000322]))] [(20000322, (⟨3, .int .i64, v5_2, true, false⟩ : Row))]
noncomputable def f71l4 : Clean := ⟨[1, 2, 4, 5, 6, 7], [2, 4, 5], [], [], [(⟨true, 5, 2⟩, 20000322)]⟩
noncomputable def f71s5 (v5_2 : LI) (v1 v6 v7 v8 v2_0 v2_1 : Int) (v2_2 : LI) (v4_0 v4_1 v5_0 v5_1 : Int) : St := stOf [(1, xi v1), (2, xb 2), (4, xb 4), (5, xb 5), (6, xi v6), (7, xi v7), (8, .c (.elt 20000322 v8 0))] [(2, (30, [yi v2_0, yi v2_1, .sn 3 tI v2_2 none])), (4, (30, [yi v4_0, yi v4_1, .nil])), (5, (30, [yi v5_0, yi v5_1, .own 20000322]))] [(20000322, (⟨3, .int .i64, v5_2, true, false⟩ : Row))]
noncomputable def f71l5 : Clean := ⟨[1, 2, 4, 5, 6, 7, 8], [2, 4, 5], [], [], [(⟨true, 5, 2⟩, 20000322)]⟩
noncomputable def f71s6 (v5_2 : LI) (v1 v6 v7 v8 v9 v10 v2_0 v2_1 : Int) (v2_2 : LI) (v4_0 v4_1 v5_0 v5_1 : Int) : St := stOf [(1, xi v1), (2, xb 2), (4, xb 4), (5, xb 5), (6, xi v6), (7, xi v7), (8, .c (.elt 20000322 v8 0)), (9, xi v9), (10, xi v10)] [(2, (30, [yi v2_0, yi v2_1, .sn 3 tI v2_2 none])), (4, (30, [yi v4_0, yi v4_1, .nil])), (5, (30, [yi v5_0, yi v5_1, .own 20000322]))] [(20000322, (⟨3, .int .i64, v5_2, true, false⟩ : Row))]
noncomputable def f71l6 : Clean := ⟨[1, 2, 4, 5, 6, 7, 8, 9, 10], [2, 4, 5], [], [], [(⟨true, 5, 2⟩, 20000322)]⟩
noncomputable def f71s7 (v5_2 : LI) (v1 v6 v7 v8 v9 v10 : Int) (v48 : Bool) (v2_0 v2_1 : Int) (v2_2 : LI) (v4_0 v4_1 v5_0 v5_1 : Int) : St := stOf [(1, xi v1), (2, xb 2), (4, xb 4), (5, xb 5), (6, xi v6), (7, xi v7), (8, .c (.elt 20000322 v8 0)), (9, xi v9), (10, xi v10), (48, xB v48)] [(2, (30, [yi v2_0, yi v2_1, .sn 3 tI v2_2 none])), (4, (30, [yi v4_0, yi v4_1, .nil])), (5, (30, [yi v5_0, yi v5_1, .own 20000322]))] [(20000322, (⟨3, .int .i64, v5_2, true, false⟩ : Row))]
noncomputable def f71l7 : Clean := ⟨[1, 2, 4, 5, 6, 7, 8, 9, 10, 48], [2, 4, 5], [], [], [(⟨true, 5, 2⟩, 20000322)]⟩
noncomputable def f71s8 (v5_2 : LI) (v4_0 v4_1 v5_0 v5_1 : Int) : St := stOf [(4, xb 4), (5, xb 5)] [(4, (30, [yi v4_0, yi v4_1, .nil])), (5, (30, [yi v5_0, yi v5_1, .own 20000322]))] [(20000322, (⟨3, .int .i64, v5_2, true, false⟩ : Row))]
noncomputable def f71l8 : Clean := ⟨[4, 5], [4, 5], [], [], [(⟨true, 5, 2⟩, 20000322)]⟩
noncomputable def f71s9 (v4_2 : LI) (v4_0 v4_1 : Int) : St := stOf [(4, xb 4)] [(4, (30, [yi v4_0, yi v4_1, .own 20000258]))] [(20000258, (⟨3, .int .i64, v4_2, true, false⟩ : Row))]
noncomputable def f71l9 : Clean := ⟨[4], [4], [], [], [(⟨true, 4, 2⟩, 20000258)]⟩
noncomputable def f71B : Nat → Option Clean := lookL [(4, f71l4), (3, f71l4), (2, f71l3), (1, f71l3), (0, f71l8), (1000000, f71l9)]
noncomputable abbrev f71i {ρ : Type} (N : Nat) (c : Code) (p : Plan) (σ : St) (K : KT ρ) : Option ρ := iCode f71G tab f71B N c p σ K
noncomputable def f71c (n : Nat) : Code := codeN 99 (bodyOf Try.f71) n
theorem f71t1 N v0 v1 (K : KT ρ) : f71i N (f71c 2) .n (f71s0 v0 v1) (joinK (some f71l1) K) =
  impl_mutated.Z1 N v0 v1 (fun v1 v2_0 v2_1 v2_2 v4_0 v4_1 => K .nrm (f71s1 v1 v2_0 v2_1 v2_2 v4_0 v4_1)) := by kernel_rfl
theorem f71t3 N v1 v2_0 v2_1 v2_2 v4_0 v4_1 (K : KT ρ) : f71i N (f71c 5) .n (f71s1 v1 v2_0 v2_1 v2_2 v4_0 v4_1) (joinK (some f71l2) K) =
  impl_mutated.Z3 N v1 v2_0 v2_1 v2_2 v4_0 v4_1 (fun v5_2 v1 v2_0 v2_1 v2_2 v4_0 v4_1 v5_0 v5_1 => K .nrm (f71s2 v5_2 v1 v2_0 v2_1 v2_2 v4_0 v4_1 v5_0 v5_1)) := by kernel_rfl
theorem f71t6 N v5_2 v1 v2_0 v2_1 v2_2 v4_0 v4_1 v5_0 v5_1 (K : KT ρ) : f71i N (f71c 19) .n (f71s2 v5_2 v1 v2_0 v2_1 v2_2 v4_0 v4_1 v5_0 v5_1) (joinK (some f71l3) K) =
  impl_mutated.Z6 N v5_2 v1 v2_0 v2_1 v2_2 v4_0 v4_1 v5_0 v5_1 (fun v5_2 v1 v6 v2_0 v2_1 v2_2 v4_0 v4_1 v5_0 v5_1 => K .nrm (f71s3 v5_2 v1 v6 v2_0 v2_1 v2_2 v4_0 v4_1 v5_0 v5_1)) := by kernel_rfl
theorem f71t10 N v5_2 v1 v6 v2_0 v2_1 v2_2 v4_0 v4_1 v5_0 v5_1 (K : KT ρ) : f71i N (f71c 139) .n (f71s3 v5_2 v1 v6 v2_0 v2_1 v2_2 v4_0 v4_1 v5_0 v5_1) (joinK (some f71l3) K) =
  impl_mutated.Z10 N v5_2 v1 v6 v2_0 v2_1 v2_2 v4_0 v4_1 v5_0 v5_1 (fun v5_2 v1 v6 v2_0 v2_1 v2_2 v4_0 v4_1 v5_0 v5_1 => K .nrm (f71s3 v5_2 v1 v6 v2_0 v2_1 v2_2 v4_0 v4_1 v5_0 v5_1)) (fun v5_2 v4_0 v4_1 v5_0 v5_1 => K (.exit 0) (f71s8 v5_2 v4_0 v4_1 v5_0 v5_1)) := by kernel_rfl
theorem f71t14 N v5_2 v1 v6 v2_0 v2_1 v2_2 v4_0 v4_1 v5_0 v5_1 (K : KT ρ) : f71i N (f71c 1099) .n (f71s3 v5_2 v1 v6 v2_0 v2_1 v2_2 v4_0 v4_1 v5_0 v5_1) (joinK (some f71l4) K) =
  impl_mutated.Z14 N v5_2 v1 v6 v2_0 v2_1 v2_2 v4_0 v4_1 v5_0 v5_1 (fun v5_2 v1 v6 v7 v2_0 v2_1 v2_2 v4_0 v4_1 v5_0 v5_1 => K .nrm (f71s4 v5_2 v1 v6 v7 v2_0 v2_1 v2_2 v4_0 v4_1 v5_0 v5_1)) := by kernel_rfl
theorem f71t18 N v5_2 v1 v6 v7 v2_0 v2_1 v2_2 v4_0 v4_1 v5_0 v5_1 (K : KT ρ) : f71i N (f71c 8779) .n (f71s4 v5_2 v1 v6 v7 v2_0 v2_1 v2_2 v4_0 v4_1 v5_0 v5_1) (joinK (some f71l4) K) =
  impl_mutated.Z18 N v5_2 v1 v6 v7 v2_0 v2_1 v2_2 v4_0 v4_1 v5_0 v5_1 (fun v5_2 v1 v6 v7 v2_0 v2_1 v2_2 v4_0 v4_1 v5_0 v5_1 => K .nrm (f71s4 v5_2 v1 v6 v7 v2_0 v2_1 v2_2 v4_0 v4_1 v5_0 v5_1)) (fun v5_2 v1 v6 v2_0 v2_1 v2_2 v4_0 v4_1 v5_0 v5_1 => K (.exit 2) (f71s3 v5_2 v1 v6 v2_0 v2_1 v2_2 v4_0 v4_1 v5_0 v5_1)) := by kernel_rfl
theorem f71t22 N v5_2 v1 v6 v7 v2_0 v2_1 v2_2 v4_0 v4_1 v5_0 v5_1 (K : KT ρ) : f71i N (f71c 70219) .n (f71s4 v5_2 v1 v6 v7 v2_0 v2_1 v2_2 v4_0 v4_1 v5_0 v5_1) (joinK (some f71l5) K) =
  impl_mutated.Z22 N v5_2 v1 v6 v7 v2_0 v2_1 v2_2 v4_0 v4_1 v5_0 v5_1 (fun v5_2 v1 v6 v7 v8 v2_0 v2_1 v2_2 v4_0 v4_1 v5_0 v5_1 => K .nrm (f71s5 v5_2 v1 v6 v7 v8 v2_0 v2_1 v2_2 v4_0 v4_1 v5_0 v5_1)) := by kernel_rfl
theorem f71t24 N v5_2 v1 v6 v7 v8 v2_0 v2_1 v2_2 v4_0 v4_1 v5_0 v5_1 (K : KT ρ) : f71i N (f71c 168523) .n (f71s5 v5_2 v1 v6 v7 v8 v2_0 v2_1 v2_2 v4_0 v4_1 v5_0 v5_1) (joinK (some f71l6) K) =
  impl_mutated.Z24 N v5_2 v1 v6 v7 v8 v2_0 v2_1 v2_2 v4_0 v4_1 v5_0 v5_1 (fun v5_2 v1 v6 v7 v8 v9 v10 v2_0 v2_1 v2_2 v4_0 v4_1 v5_0 v5_1 => K .nrm (f71s6 v5_2 v1 v6 v7 v8 v9 v10 v2_0 v2_1 v2_2 v4_0 v4_1 v5_0 v5_1)) := by kernel_rfl
theorem f71t27 N v5_2 v1 v6 v7 v8 v9 v10 v2_0 v2_1 v2_2 v4_0 v4_1 v5_0 v5_1 (K : KT ρ) : f71i N (f71c 627275) .n (f71s6 v5_2 v1 v6 v7 v8 v9 v10 v2_0 v2_1 v2_2 v4_0 v4_1 v5_0 v5_1) (joinK (some f71l7) K) =
  impl_mutated.Z27 N v5_2 v1 v6 v7 v8 v9 v10 v2_0 v2_1 v2_2 v4_0 v4_1 v5_0 v5_1 (fun v5_2 v1 v6 v7 v8 v9 v10 v48 v2_0 v2_1 v2_2 v4_0 v4_1 v5_0 v5_1 => K .nrm (f71s7 v5_2 v1 v6 v7 v8 v9 v10 v48 v2_0 v2_1 v2_2 v4_0 v4_1 v5_0 v5_1)) := by kernel_rfl
theorem f71t28 N v5_2 v1 v6 v7 v8 v9 v10 v48 v2_0 v2_1 v2_2 v4_0 v4_1 v5_0 v5_1 (K : KT ρ) : f71i N (f71c 889419) .n (f71s7 v5_2 v1 v6 v7 v8 v9 v10 v48 v2_0 v2_1 v2_2 v4_0 v4_1 v5_0 v5_1) (joinK (some f71l4) K) =
  impl_mutated.Z28 N v5_2 v1 v6 v7 v8 v9 v10 v48 v2_0 v2_1 v2_2 v4_0 v4_1 v5_0 v5_1 (fun v5_2 v1 v6 v7 v2_0 v2_1 v2_2 v4_0 v4_1 v5_0 v5_1 => K .nrm (f71s4 v5_2 v1 v6 v7 v2_0 v2_1 v2_2 v4_0 v4_1 v5_0 v5_1)) := by kernel_rfl
noncomputable def f71p26 : Plan := .mk (some f71l7) none .n .n
theorem f71t26 N v5_2 v1 v6 v7 v8 v9 v10 v2_0 v2_1 v2_2 v4_0 v4_1 v5_0 v5_1 (K : KT ρ) : f71i N (f71c 365131) f71p26 (f71s6 v5_2 v1 v6 v7 v8 v9 v10 v2_0 v2_1 v2_2 v4_0 v4_1 v5_0 v5_1) (joinK (some f71l4) K) =
  impl_mutated.Z26 N v5_2 v1 v6 v7 v8 v9 v10 v2_0 v2_1 v2_2 v4_0 v4_1 v5_0 v5_1 (fun v5_2 v1 v6 v7 v2_0 v2_1 v2_2 v4_0 v4_1 v5_0 v5_1 => K .nrm (f71s4 v5_2 v1 v6 v7 v2_0 v2_1 v2_2 v4_0 v4_1 v5_0 v5_1)) :=
 viaSeqS (fun k => impl_mutated.Z27 N v5_2 v1 v6 v7 v8 v9 v10 v2_0 v2_1 v2_2 v4_0 v4_1 v5_0 v5_1 k) (by kernel_rfl) (f71t27 N (K := seqK (fun σ => f71i N (f71c 889419) .n σ (joinK (some f71l4) K)) (joinK (some f71l4) K)) ..) (fx15 fun v5_2 v1 v6 v7 v8 v9 v10 v48 v2_0 v2_1 v2_2 v4_0 v4_1 v5_0 v5_1 => f71t28 N v5_2 v1 v6 v7 v8 v9 v10 v48 v2_0 v2_1 v2_2 v4_0 v4_1 v5_0 v5_1 K) (by kernel_rfl)
noncomputable def f71p25 : Plan := .mk (some f71l4) none f71p26 .n
theorem f71t25 N v5_2 v1 v6 v7 v8 v9 v10 v2_0 v2_1 v2_2 v4_0 v4_1 v5_0 v5_1 (K : KT ρ) : f71i N (f71c 234059) f71p25 (f71s6 v5_2 v1 v6 v7 v8 v9 v10 v2_0 v2_1 v2_2 v4_0 v4_1 v5_0 v5_1) (joinK (some f71l4) K) =
  impl_mutated.Z25 N v5_2 v1 v6 v7 v8 v9 v10 v2_0 v2_1 v2_2 v4_0 v4_1 v5_0 v5_1 (fun v5_2 v1 v6 v7 v2_0 v2_1 v2_2 v4_0 v4_1 v5_0 v5_1 => K .nrm (f71s4 v5_2 v1 v6 v7 v2_0 v2_1 v2_2 v4_0 v4_1 v5_0 v5_1)) :=
 viaBlockS (by kernel_rfl) (f71t26 N (K := blockK 4 (joinK (some f71l4) K)) ..) (by kernel_rfl)
noncomputable def f71p23 : Plan := .mk (some f71l6) none .n f71p25
theorem f71t23 N v5_2 v1 v6 v7 v8 v2_0 v2_1 v2_2 v4_0 v4_1 v5_0 v5_1 (K : KT ρ) : f71i N (f71c 102987) f71p23 (f71s5 v5_2 v1 v6 v7 v8 v2_0 v2_1 v2_2 v4_0 v4_1 v5_0 v5_1) (joinK (some f71l4) K) =
  impl_mutated.Z23 N v5_2 v1 v6 v7 v8 v2_0 v2_1 v2_2 v4_0 v4_1 v5_0 v5_1 (fun v5_2 v1 v6 v7 v2_0 v2_1 v2_2 v4_0 v4_1 v5_0 v5_1 => K .nrm (f71s4 v5_2 v1 v6 v7 v2_0 v2_1 v2_2 v4_0 v4_1 v5_0 v5_1)) :=
 viaSeqS (fun k => impl_mutated.Z24 N v5_2 v1 v6 v7 v8 v2_0 v2_1 v2_2 v4_0 v4_1 v5_0 v5_1 k) (by kernel_rfl) (f71t24 N (K := seqK (fun σ => f71i N (f71c 234059) f71p25 σ (joinK (some f71l4) K)) (joinK (some f71l4) K)) ..) (fx14 fun v5_2 v1 v6 v7 v8 v9 v10 v2_0 v2_1 v2_2 v4_0 v4_1 v5_0 v5_1 => f71t25 N v5_2 v1 v6 v7 v8 v9 v10 v2_0 v2_1 v2_2 v4_0 v4_1 v5_0 v5_1 K) (by kernel_rfl)
noncomputable def f71p21 : Plan := .mk (some f71l5) none .n f71p23
theorem f71t21 N v5_2 v1 v6 v7 v2_0 v2_1 v2_2 v4_0 v4_1 v5_0 v5_1 (K : KT ρ) : f71i N (f71c 37451) f71p21 (f71s4 v5_2 v1 v6 v7 v2_0 v2_1 v2_2 v4_0 v4_1 v5_0 v5_1) (joinK (some f71l4) K) =
  impl_mutated.Z21 N v5_2 v1 v6 v7 v2_0 v2_1 v2_2 v4_0 v4_1 v5_0 v5_1 (fun v5_2 v1 v6 v7 v2_0 v2_1 v2_2 v4_0 v4_1 v5_0 v5_1 => K .nrm (f71s4 v5_2 v1 v6 v7 v2_0 v2_1 v2_2 v4_0 v4_1 v5_0 v5_1)) :=
 viaSeqS (fun k => impl_mutated.Z22 N v5_2 v1 v6 v7 v2_0 v2_1 v2_2 v4_0 v4_1 v5_0 v5_1 k) (by kernel_rfl) (f71t22 N (K := seqK (fun σ => f71i N (f71c 102987) f71p23 σ (joinK (some f71l4) K)) (joinK (some f71l4) K)) ..) (fx12 fun v5_2 v1 v6 v7 v8 v2_0 v2_1 v2_2 v4_0 v4_1 v5_0 v5_1 => f71t23 N v5_2 v1 v6 v7 v8 v2_0 v2_1 v2_2 v4_0 v4_1 v5_0 v5_1 K) (by kernel_rfl)
noncomputable def f71p20 : Plan := .mk (some f71l4) none f71p21 .n
theorem f71t20 N v5_2 v1 v6 v7 v2_0 v2_1 v2_2 v4_0 v4_1 v5_0 v5_1 (K : KT ρ) : f71i N (f71c 21067) f71p20 (f71s4 v5_2 v1 v6 v7 v2_0 v2_1 v2_2 v4_0 v4_1 v5_0 v5_1) (joinK (some f71l4) K) =
  impl_mutated.Z20 N v5_2 v1 v6 v7 v2_0 v2_1 v2_2 v4_0 v4_1 v5_0 v5_1 (fun v5_2 v1 v6 v7 v2_0 v2_1 v2_2 v4_0 v4_1 v5_0 v5_1 => K .nrm (f71s4 v5_2 v1 v6 v7 v2_0 v2_1 v2_2 v4_0 v4_1 v5_0 v5_1)) :=
 viaBlockS (by kernel_rfl) (f71t21 N (K := blockK 3 (joinK (some f71l4) K)) ..) (by kernel_rfl)
theorem f71t29 N v5_2 v1 v6 v7 v2_0 v2_1 v2_2 v4_0 v4_1 v5_0 v5_1 (K : KT ρ) : f71i N (f71c 29259) .n (f71s4 v5_2 v1 v6 v7 v2_0 v2_1 v2_2 v4_0 v4_1 v5_0 v5_1) (joinK (some f71l4) K) =
  impl_mutated.Z29 N v5_2 v1 v6 v7 v2_0 v2_1 v2_2 v4_0 v4_1 v5_0 v5_1 (fun v5_2 v1 v6 v7 v2_0 v2_1 v2_2 v4_0 v4_1 v5_0 v5_1 => K .nrm (f71s4 v5_2 v1 v6 v7 v2_0 v2_1 v2_2 v4_0 v4_1 v5_0 v5_1)) := by kernel_rfl
noncomputable def f71p19 : Plan := .mk (some f71l4) none f71p20 .n
theorem f71t19 N v5_2 v1 v6 v7 v2_0 v2_1 v2_2 v4_0 v4_1 v5_0 v5_1 (K : KT ρ) : f71i N (f71c 12875) f71p19 (f71s4 v5_2 v1 v6 v7 v2_0 v2_1 v2_2 v4_0 v4_1 v5_0 v5_1) (joinK (some f71l4) K) =
  impl_mutated.Z19 N v5_2 v1 v6 v7 v2_0 v2_1 v2_2 v4_0 v4_1 v5_0 v5_1 (fun v5_2 v1 v6 v7 v2_0 v2_1 v2_2 v4_0 v4_1 v5_0 v5_1 => K .nrm (f71s4 v5_2 v1 v6 v7 v2_0 v2_1 v2_2 v4_0 v4_1 v5_0 v5_1)) :=
 viaSeqS (fun k => impl_mutated.Z20 N v5_2 v1 v6 v7 v2_0 v2_1 v2_2 v4_0 v4_1 v5_0 v5_1 k) (by kernel_rfl) (f71t20 N (K := seqK (fun σ => f71i N (f71c 29259) .n σ (joinK (some f71l4) K)) (joinK (some f71l4) K)) ..) (fx11 fun v5_2 v1 v6 v7 v2_0 v2_1 v2_2 v4_0 v4_1 v5_0 v5_1 => f71t29 N v5_2 v1 v6 v7 v2_0 v2_1 v2_2 v4_0 v4_1 v5_0 v5_1 K) (by kernel_rfl)
noncomputable def f71p17 : Plan := .mk (some f71l4) none .n f71p19
theorem f71t17 N v5_2 v1 v6 v7 v2_0 v2_1 v2_2 v4_0 v4_1 v5_0 v5_1 (K : KT ρ) : f71i N (f71c 4683) f71p17 (f71s4 v5_2 v1 v6 v7 v2_0 v2_1 v2_2 v4_0 v4_1 v5_0 v5_1) (joinK (some f71l4) K) =
  impl_mutated.Z17 N v5_2 v1 v6 v7 v2_0 v2_1 v2_2 v4_0 v4_1 v5_0 v5_1 (fun v5_2 v1 v6 v7 v2_0 v2_1 v2_2 v4_0 v4_1 v5_0 v5_1 => K .nrm (f71s4 v5_2 v1 v6 v7 v2_0 v2_1 v2_2 v4_0 v4_1 v5_0 v5_1)) (fun v5_2 v1 v6 v2_0 v2_1 v2_2 v4_0 v4_1 v5_0 v5_1 => K (.exit 2) (f71s3 v5_2 v1 v6 v2_0 v2_1 v2_2 v4_0 v4_1 v5_0 v5_1)) :=
 viaSeqS (fun k => impl_mutated.Z18 N v5_2 v1 v6 v7 v2_0 v2_1 v2_2 v4_0 v4_1 v5_0 v5_1 k (fun v5_2 v1 v6 v2_0 v2_1 v2_2 v4_0 v4_1 v5_0 v5_1 => K (.exit 2) (f71s3 v5_2 v1 v6 v2_0 v2_1 v2_2 v4_0 v4_1 v5_0 v5_1))) (by kernel_rfl) (f71t18 N (K := seqK (fun σ => f71i N (f71c 12875) f71p19 σ (joinK (some f71l4) K)) (joinK (some f71l4) K)) ..) (fx11 fun v5_2 v1 v6 v7 v2_0 v2_1 v2_2 v4_0 v4_1 v5_0 v5_1 => f71t19 N v5_2 v1 v6 v7 v2_0 v2_1 v2_2 v4_0 v4_1 v5_0 v5_1 K) (by kernel_rfl)
noncomputable def f71p16 : Plan := .mk none (some f71l4) f71p17 .n
noncomputable abbrev f71w16 {ρ : Type} (N M : Nat) (σ : St) (K : KT ρ) : Option ρ := loopC (fun σ K => f71i N (f71c 4683) f71p17 σ K) f71l4 M σ K
theorem f71t16L {ρ : Type} (N : Nat) (K : KT ρ) : ∀ (M : Nat) (v5_2 : LI) (v1 v6 v7 v2_0 v2_1 : Int) (v2_2 : LI) (v4_0 v4_1 v5_0 v5_1 : Int), f71w16 N M (f71s4 v5_2 v1 v6 v7 v2_0 v2_1 v2_2 v4_0 v4_1 v5_0 v5_1) K =
  impl_mutated.Z16L N (fun v5_2 v1 v6 v2_0 v2_1 v2_2 v4_0 v4_1 v5_0 v5_1 => K (.exit 2) (f71s3 v5_2 v1 v6 v2_0 v2_1 v2_2 v4_0 v4_1 v5_0 v5_1)) M v5_2 v1 v6 v7 v2_0 v2_1 v2_2 v4_0 v4_1 v5_0 v5_1
  | 0, _, _, _, _, _, _, _, _, _, _, _ => rfl
  | M + 1, v5_2, v1, v6, v7, v2_0, v2_1, v2_2, v4_0, v4_1, v5_0, v5_1 => viaRoundS (fun k => impl_mutated.Z17 N v5_2 v1 v6 v7 v2_0 v2_1 v2_2 v4_0 v4_1 v5_0 v5_1 k (fun v5_2 v1 v6 v2_0 v2_1 v2_2 v4_0 v4_1 v5_0 v5_1 => K (.exit 2) (f71s3 v5_2 v1 v6 v2_0 v2_1 v2_2 v4_0 v4_1 v5_0 v5_1))) (f71t17 N (K := seqK (fun σ => f71w16 N M σ K) K) ..) (fx11 fun v5_2 v1 v6 v7 v2_0 v2_1 v2_2 v4_0 v4_1 v5_0 v5_1 => f71t16L N K M v5_2 v1 v6 v7 v2_0 v2_1 v2_2 v4_0 v4_1 v5_0 v5_1) (by kernel_rfl)
theorem f71t16 N v5_2 v1 v6 v7 v2_0 v2_1 v2_2 v4_0 v4_1 v5_0 v5_1 (K : KT ρ) : f71i N (f71c 2635) f71p16 (f71s4 v5_2 v1 v6 v7 v2_0 v2_1 v2_2 v4_0 v4_1 v5_0 v5_1) (joinK (some f71l3) K) =
  impl_mutated.Z16 N v5_2 v1 v6 v7 v2_0 v2_1 v2_2 v4_0 v4_1 v5_0 v5_1 (fun v5_2 v1 v6 v2_0 v2_1 v2_2 v4_0 v4_1 v5_0 v5_1 => K (.exit 2) (f71s3 v5_2 v1 v6 v2_0 v2_1 v2_2 v4_0 v4_1 v5_0 v5_1)) :=
 viaLoopS (by kernel_rfl) (f71t16L N (joinK (some f71l3) K) N v5_2 v1 v6 v7 v2_0 v2_1 v2_2 v4_0 v4_1 v5_0 v5_1) (by kernel_rfl)
noncomputable def f71p15 : Plan := .mk (some f71l3) none f71p16 .n
theorem f71t15 N v5_2 v1 v6 v7 v2_0 v2_1 v2_2 v4_0 v4_1 v5_0 v5_1 (K : KT ρ) : f71i N (f71c 1611) f71p15 (f71s4 v5_2 v1 v6 v7 v2_0 v2_1 v2_2 v4_0 v4_1 v5_0 v5_1) (joinK (some f71l3) K) =
  impl_mutated.Z15 N v5_2 v1 v6 v7 v2_0 v2_1 v2_2 v4_0 v4_1 v5_0 v5_1 (fun v5_2 v1 v6 v2_0 v2_1 v2_2 v4_0 v4_1 v5_0 v5_1 => K .nrm (f71s3 v5_2 v1 v6 v2_0 v2_1 v2_2 v4_0 v4_1 v5_0 v5_1)) :=
 viaBlockS (by kernel_rfl) (f71t16 N (K := blockK 2 (joinK (some f71l3) K)) ..) (by kernel_rfl)
noncomputable def f71p13 : Plan := .mk (some f71l4) none .n f71p15
theorem f71t13 N v5_2 v1 v6 v2_0 v2_1 v2_2 v4_0 v4_1 v5_0 v5_1 (K : KT ρ) : f71i N (f71c 587) f71p13 (f71s3 v5_2 v1 v6 v2_0 v2_1 v2_2 v4_0 v4_1 v5_0 v5_1) (joinK (some f71l3) K) =
  impl_mutated.Z13 N v5_2 v1 v6 v2_0 v2_1 v2_2 v4_0 v4_1 v5_0 v5_1 (fun v5_2 v1 v6 v2_0 v2_1 v2_2 v4_0 v4_1 v5_0 v5_1 => K .nrm (f71s3 v5_2 v1 v6 v2_0 v2_1 v2_2 v4_0 v4_1 v5_0 v5_1)) :=
 viaSeqS (fun k => impl_mutated.Z14 N v5_2 v1 v6 v2_0 v2_1 v2_2 v4_0 v4_1 v5_0 v5_1 k) (by kernel_rfl) (f71t14 N (K := seqK (fun σ => f71i N (f71c 1611) f71p15 σ (joinK (some f71l3) K)) (joinK (some f71l3) K)) ..) (fx11 fun v5_2 v1 v6 v7 v2_0 v2_1 v2_2 v4_0 v4_1 v5_0 v5_1 => f71t15 N v5_2 v1 v6 v7 v2_0 v2_1 v2_2 v4_0 v4_1 v5_0 v5_1 K) (by kernel_rfl)
noncomputable def f71p12 : Plan := .mk (some f71l3) none f71p13 .n
theorem f71t12 N v5_2 v1 v6 v2_0 v2_1 v2_2 v4_0 v4_1 v5_0 v5_1 (K : KT ρ) : f71i N (f71c 331) f71p12 (f71s3 v5_2 v1 v6 v2_0 v2_1 v2_2 v4_0 v4_1 v5_0 v5_1) (joinK (some f71l3) K) =
  impl_mutated.Z12 N v5_2 v1 v6 v2_0 v2_1 v2_2 v4_0 v4_1 v5_0 v5_1 (fun v5_2 v1 v6 v2_0 v2_1 v2_2 v4_0 v4_1 v5_0 v5_1 => K .nrm (f71s3 v5_2 v1 v6 v2_0 v2_1 v2_2 v4_0 v4_1 v5_0 v5_1)) :=
 viaBlockS (by kernel_rfl) (f71t13 N (K := blockK 1 (joinK (some f71l3) K)) ..) (by kernel_rfl)
theorem f71t30 N v5_2 v1 v6 v2_0 v2_1 v2_2 v4_0 v4_1 v5_0 v5_1 (K : KT ρ) : f71i N (f71c 459) .n (f71s3 v5_2 v1 v6 v2_0 v2_1 v2_2 v4_0 v4_1 v5_0 v5_1) (joinK (some f71l3) K) =
  impl_mutated.Z30 N v5_2 v1 v6 v2_0 v2_1 v2_2 v4_0 v4_1 v5_0 v5_1 (fun v5_2 v1 v6 v2_0 v2_1 v2_2 v4_0 v4_1 v5_0 v5_1 => K .nrm (f71s3 v5_2 v1 v6 v2_0 v2_1 v2_2 v4_0 v4_1 v5_0 v5_1)) := by kernel_rfl
noncomputable def f71p11 : Plan := .mk (some f71l3) none f71p12 .n
theorem f71t11 N v5_2 v1 v6 v2_0 v2_1 v2_2 v4_0 v4_1 v5_0 v5_1 (K : KT ρ) : f71i N (f71c 203) f71p11 (f71s3 v5_2 v1 v6 v2_0 v2_1 v2_2 v4_0 v4_1 v5_0 v5_1) (joinK (some f71l3) K) =
  impl_mutated.Z11 N v5_2 v1 v6 v2_0 v2_1 v2_2 v4_0 v4_1 v5_0 v5_1 (fun v5_2 v1 v6 v2_0 v2_1 v2_2 v4_0 v4_1 v5_0 v5_1 => K .nrm (f71s3 v5_2 v1 v6 v2_0 v2_1 v2_2 v4_0 v4_1 v5_0 v5_1)) :=
 viaSeqS (fun k => impl_mutated.Z12 N v5_2 v1 v6 v2_0 v2_1 v2_2 v4_0 v4_1 v5_0 v5_1 k) (by kernel_rfl) (f71t12 N (K := seqK (fun σ => f71i N (f71c 459) .n σ (joinK (some f71l3) K)) (joinK (some f71l3) K)) ..) (fx10 fun v5_2 v1 v6 v2_0 v2_1 v2_2 v4_0 v4_1 v5_0 v5_1 => f71t30 N v5_2 v1 v6 v2_0 v2_1 v2_2 v4_0 v4_1 v5_0 v5_1 K) (by kernel_rfl)
noncomputable def f71p9 : Plan := .mk (some f71l3) none .n f71p11
theorem f71t9 N v5_2 v1 v6 v2_0 v2_1 v2_2 v4_0 v4_1 v5_0 v5_1 (K : KT ρ) : f71i N (f71c 75) f71p9 (f71s3 v5_2 v1 v6 v2_0 v2_1 v2_2 v4_0 v4_1 v5_0 v5_1) (joinK (some f71l3) K) =
  impl_mutated.Z9 N v5_2 v1 v6 v2_0 v2_1 v2_2 v4_0 v4_1 v5_0 v5_1 (fun v5_2 v1 v6 v2_0 v2_1 v2_2 v4_0 v4_1 v5_0 v5_1 => K .nrm (f71s3 v5_2 v1 v6 v2_0 v2_1 v2_2 v4_0 v4_1 v5_0 v5_1)) (fun v5_2 v4_0 v4_1 v5_0 v5_1 => K (.exit 0) (f71s8 v5_2 v4_0 v4_1 v5_0 v5_1)) :=
 viaSeqS (fun k => impl_mutated.Z10 N v5_2 v1 v6 v2_0 v2_1 v2_2 v4_0 v4_1 v5_0 v5_1 k (fun v5_2 v4_0 v4_1 v5_0 v5_1 => K (.exit 0) (f71s8 v5_2 v4_0 v4_1 v5_0 v5_1))) (by kernel_rfl) (f71t10 N (K := seqK (fun σ => f71i N (f71c 203) f71p11 σ (joinK (some f71l3) K)) (joinK (some f71l3) K)) ..) (fx10 fun v5_2 v1 v6 v2_0 v2_1 v2_2 v4_0 v4_1 v5_0 v5_1 => f71t11 N v5_2 v1 v6 v2_0 v2_1 v2_2 v4_0 v4_1 v5_0 v5_1 K) (by kernel_rfl)
noncomputable def f71p8 : Plan := .mk none (some f71l3) f71p9 .n
noncomputable abbrev f71w8 {ρ : Type} (N M : Nat) (σ : St) (K : KT ρ) : Option ρ := loopC (fun σ K => f71i N (f71c 75) f71p9 σ K) f71l3 M σ K
theorem f71t8L {ρ : Type} (N : Nat) (K : KT ρ) : ∀ (M : Nat) (v5_2 : LI) (v1 v6 v2_0 v2_1 : Int) (v2_2 : LI) (v4_0 v4_1 v5_0 v5_1 : Int), f71w8 N M (f71s3 v5_2 v1 v6 v2_0 v2_1 v2_2 v4_0 v4_1 v5_0 v5_1) K =
  impl_mutated.Z8L N (fun v5_2 v4_0 v4_1 v5_0 v5_1 => K (.exit 0) (f71s8 v5_2 v4_0 v4_1 v5_0 v5_1)) M v5_2 v1 v6 v2_0 v2_1 v2_2 v4_0 v4_1 v5_0 v5_1
  | 0, _, _, _, _, _, _, _, _, _, _ => rfl
  | M + 1, v5_2, v1, v6, v2_0, v2_1, v2_2, v4_0, v4_1, v5_0, v5_1 => viaRoundS (fun k => impl_mutated.Z9 N v5_2 v1 v6 v2_0 v2_1 v2_2 v4_0 v4_1 v5_0 v5_1 k (fun v5_2 v4_0 v4_1 v5_0 v5_1 => K (.exit 0) (f71s8 v5_2 v4_0 v4_1 v5_0 v5_1))) (f71t9 N (K := seqK (fun σ => f71w8 N M σ K) K) ..) (fx10 fun v5_2 v1 v6 v2_0 v2_1 v2_2 v4_0 v4_1 v5_0 v5_1 => f71t8L N K M v5_2 v1 v6 v2_0 v2_1 v2_2 v4_0 v4_1 v5_0 v5_1) (by kernel_rfl)
theorem f71t8 N v5_2 v1 v6 v2_0 v2_1 v2_2 v4_0 v4_1 v5_0 v5_1 (K : KT ρ) : f71i N (f71c 43) f71p8 (f71s3 v5_2 v1 v6 v2_0 v2_1 v2_2 v4_0 v4_1 v5_0 v5_1) (joinK (some f71l8) K) =
  impl_mutated.Z8 N v5_2 v1 v6 v2_0 v2_1 v2_2 v4_0 v4_1 v5_0 v5_1 (fun v5_2 v4_0 v4_1 v5_0 v5_1 => K (.exit 0) (f71s8 v5_2 v4_0 v4_1 v5_0 v5_1)) :=
 viaLoopS (by kernel_rfl) (f71t8L N (joinK (some f71l8) K) N v5_2 v1 v6 v2_0 v2_1 v2_2 v4_0 v4_1 v5_0 v5_1) (by kernel_rfl)
noncomputable def f71p7 : Plan := .mk (some f71l8) none f71p8 .n
theorem f71t7 N v5_2 v1 v6 v2_0 v2_1 v2_2 v4_0 v4_1 v5_0 v5_1 (K : KT ρ) : f71i N (f71c 27) f71p7 (f71s3 v5_2 v1 v6 v2_0 v2_1 v2_2 v4_0 v4_1 v5_0 v5_1) (joinK (some f71l8) K) =
  impl_mutated.Z7 N v5_2 v1 v6 v2_0 v2_1 v2_2 v4_0 v4_1 v5_0 v5_1 (fun v5_2 v4_0 v4_1 v5_0 v5_1 => K .nrm (f71s8 v5_2 v4_0 v4_1 v5_0 v5_1)) :=
 viaBlockS (by kernel_rfl) (f71t8 N (K := blockK 0 (joinK (some f71l8) K)) ..) (by kernel_rfl)
noncomputable def f71p5 : Plan := .mk (some f71l3) none .n f71p7
theorem f71t5 N v5_2 v1 v2_0 v2_1 v2_2 v4_0 v4_1 v5_0 v5_1 (K : KT ρ) : f71i N (f71c 11) f71p5 (f71s2 v5_2 v1 v2_0 v2_1 v2_2 v4_0 v4_1 v5_0 v5_1) (joinK (some f71l8) K) =
  impl_mutated.Z5 N v5_2 v1 v2_0 v2_1 v2_2 v4_0 v4_1 v5_0 v5_1 (fun v5_2 v4_0 v4_1 v5_0 v5_1 => K .nrm (f71s8 v5_2 v4_0 v4_1 v5_0 v5_1)) :=
 viaSeqS (fun k => impl_mutated.Z6 N v5_2 v1 v2_0 v2_1 v2_2 v4_0 v4_1 v5_0 v5_1 k) (by kernel_rfl) (f71t6 N (K := seqK (fun σ => f71i N (f71c 27) f71p7 σ (joinK (some f71l8) K)) (joinK (some f71l8) K)) ..) (fx10 fun v5_2 v1 v6 v2_0 v2_1 v2_2 v4_0 v4_1 v5_0 v5_1 => f71t7 N v5_2 v1 v6 v2_0 v2_1 v2_2 v4_0 v4_1 v5_0 v5_1 K) (by kernel_rfl)
theorem f71t31 N v5_2 v4_0 v4_1 v5_0 v5_1 (K : KT ρ) : f71i N (f71c 15) .n (f71s8 v5_2 v4_0 v4_1 v5_0 v5_1) (joinK (some f71lE) K) =
  impl_mutated.Z31 N v5_2 v4_0 v4_1 v5_0 v5_1 (fun v4_2 v4_0 v4_1 => K .ret (f71s9 v4_2 v4_0 v4_1)) := by kernel_rfl
noncomputable def f71p4 : Plan := .mk (some f71l8) none f71p5 .n
theorem f71t4 N v5_2 v1 v2_0 v2_1 v2_2 v4_0 v4_1 v5_0 v5_1 (K : KT ρ) : f71i N (f71c 7) f71p4 (f71s2 v5_2 v1 v2_0 v2_1 v2_2 v4_0 v4_1 v5_0 v5_1) (joinK (some f71lE) K) =
  impl_mutated.Z4 N v5_2 v1 v2_0 v2_1 v2_2 v4_0 v4_1 v5_0 v5_1 (fun v4_2 v4_0 v4_1 => K .ret (f71s9 v4_2 v4_0 v4_1)) :=
 viaSeqS (fun k => impl_mutated.Z5 N v5_2 v1 v2_0 v2_1 v2_2 v4_0 v4_1 v5_0 v5_1 k) (by kernel_rfl) (f71t5 N (K := seqK (fun σ => f71i N (f71c 15) .n σ (joinK (some f71lE) K)) (joinK (some f71lE) K)) ..) (fx5 fun v5_2 v4_0 v4_1 v5_0 v5_1 => f71t31 N v5_2 v4_0 v4_1 v5_0 v5_1 K) (by kernel_rfl)
noncomputable def f71p2 : Plan := .mk (some f71l2) none .n f71p4
theorem f71t2 N v1 v2_0 v2_1 v2_2 v4_0 v4_1 (K : KT ρ) : f71i N (f71c 3) f71p2 (f71s1 v1 v2_0 v2_1 v2_2 v4_0 v4_1) (joinK (some f71lE) K) =
  impl_mutated.Z2 N v1 v2_0 v2_1 v2_2 v4_0 v4_1 (fun v4_2 v4_0 v4_1 => K .ret (f71s9 v4_2 v4_0 v4_1)) :=
 viaSeqS (fun k => impl_mutated.Z3 N v1 v2_0 v2_1 v2_2 v4_0 v4_1 k) (by kernel_rfl) (f71t3 N (K := seqK (fun σ => f71i N (f71c 7) f71p4 σ (joinK (some f71lE) K)) (joinK (some f71lE) K)) ..) (fx9 fun v5_2 v1 v2_0 v2_1 v2_2 v4_0 v4_1 v5_0 v5_1 => f71t4 N v5_2 v1 v2_0 v2_1 v2_2 v4_0 v4_1 v5_0 v5_1 K) (by kernel_rfl)
noncomputable def f71p0 : Plan := .mk (some f71l1) none .n f71p2
theorem f71t0 N v0 v1 (K : KT ρ) : f71i N (f71c 1) f71p0 (f71s0 v0 v1) (joinK (some f71lE) K) =
  impl_mutated.Z0 N v0 v1 (fun v4_2 v4_0 v4_1 => K .ret (f71s9 v4_2 v4_0 v4_1)) :=
 viaSeqS (fun k => impl_mutated.Z1 N v0 v1 k) (by kernel_rfl) (f71t1 N (K := seqK (fun σ => f71i N (f71c 3) f71p2 σ (joinK (some f71lE) K)) (joinK (some f71lE) K)) ..) (fx6 fun v1 v2_0 v2_1 v2_2 v4_0 v4_1 => f71t2 N v1 v2_0 v2_1 v2_2 v4_0 v4_1 K) (by kernel_rfl)
theorem f71m (N : Nat) (v0 : MT) (v1 : Int) : f71i N (f71c 1) f71p0 (f71s0 v0 v1) (joinK (some f71lE) (finK tab f71sig Try.f71.results.toList)) = impl_mutated.Z0 N v0 v1 (fun v4_2 v4_0 v4_1 => some ((), ((v4_0, (v4_1, v4_2)), ()))) :=
  (f71t0 N v0 v1 (finK tab f71sig Try.f71.results.toList)).trans (by kernel_rfl)
theorem f71ok (h : impl_mutated.Spec) : EntryOk Try.prog 71 e71 :=
  entry_of_code (sig := f71sig) (c := (f71c 1)) (pl := f71p0) (je := (some f71lE)) (B := f71B) Try.func71 (by kernel_rfl) (by kernel_rfl) (by kernel_rfl) tabOk f71GOk (by kernel_rfl) (by kernel_rfl) (by kernel_rfl) (by kernel_rfl) fun X hb hp => by
    obtain ⟨v0, v1, _⟩ := X
    obtain ⟨N, h⟩ := h v0 v1 hb.1 hp
    exact ⟨N, (f71m N v0 v1).trans (h N (Nat.le_refl N))⟩
theorem e71ok : EntryOk Try.prog 71 e71 := f71ok impl_mutated.ok
end Go.Fw
namespace Go.Fw
variable {ρ : Type}
open Go.Proofs
noncomputable def f27sig : Sig := ⟨[⟨.pair (.int .i64) (.pair (.int .i64) (.sl 3 (.int .i64))), true, false⟩, ⟨.int .i64, false, false⟩], [⟨.pair (.int .i64) (.pair (.int .i64) (.sl 3 (.int .i64))), true, false⟩, ⟨.bool, false, false⟩]⟩
noncomputable def e27 : Entry := ⟨f27sig, none, fun X => ((), ((impl_MutateMatrix.g X.1 X.2.1).1, ((impl_MutateMatrix.g X.1 X.2.1).2, ())))⟩
noncomputable def f27G : Nat → Option Entry := addG (addG (addG (fun _ => none) 31 e31) 70 e70) 71 e71
theorem f27GOk : GOk Try.prog f27G := (((GOk.nil).add e31ok (by kernel_rfl)).add e70ok (by kernel_rfl)).add e71ok (by kernel_rfl)
noncomputable def f27lE : Clean := ⟨[], [], [], [], []⟩
noncomputable def f27s0 (v0 : MT) (v1 : Int) : St := initSt f27sig.ps (v0, (v1, ()))
noncomputable def f27s1 (v4_2 : LI) (v5 : Bool) (v4_0 v4_1 : Int) : St := stOf [(4, xb 4), (5, xB v5)] [(4, (30, [yi v4_0, yi v4_1, .own 20000258]))] [(20000258, (⟨3, .int .i64, v4_2, true, false⟩ : Row))]
noncomputable def f27l1 : Clean := ⟨[4, 5], [4], [⟨⟨true, 4, 2⟩, 30000000, 3, .int .i64, true⟩], [], [(⟨true, 4, 2⟩, 20000258)]⟩
noncomputable def f27B : Nat → Option Clean := lookL [(1000000, f27l1)]
noncomputable abbrev f27i {ρ : Type} (N : Nat) (c : Code) (p : Plan) (σ : St) (K : KT ρ) : Option ρ := iCode f27G tab f27B N c p σ K
noncomputable def f27c (n : Nat) : Code := codeN 99 (bodyOf Try.f27) n
theorem f27t0 N v0 v1 (K : KT ρ) : f27i N (f27c 1) .n (f27s0 v0 v1) (joinK (some f27lE) K) =
  impl_MutateMatrix.Z0 N v0 v1 (fun v4_2 v5 v4_0 v4_1 => K .ret (f27s1 v4_2 v5 v4_0 v4_1)) := by kernel_rfl
theorem f27m (N : Nat) (v0 : MT) (v1 : Int) : f27i N (f27c 1) .n (f27s0 v0 v1) (joinK (some f27lE) (finK tab f27sig Try.f27.results.toList)) = impl_MutateMatrix.Z0 N v0 v1 (fun v4_2 v5 v4_0 v4_1 => some ((), ((v4_0, (v4_1, v4_2)), (v5, ())))) :=
  (f27t0 N v0 v1 (finK tab f27sig Try.f27.results.toList)).trans (by kernel_rfl)
theorem f27ok (h : impl_MutateMatrix.Spec) : EntryOk Try.prog 27 e27 :=
  entry_of_code (sig := f27sig) (c := (f27c 1)) (pl := .n) (je := (some f27lE)) (B := f27B) Try.func27 (by kernel_rfl) (by kernel_rfl) (by kernel_rfl) tabOk f27GOk (by kernel_rfl) (by kernel_rfl) (by kernel_rfl) (by kernel_rfl) fun X hb hp => by
    obtain ⟨v0, v1, _⟩ := X
    obtain ⟨N, h⟩ := h v0 v1 hb.1
    exact ⟨N, (f27m N v0 v1).trans (h N (Nat.le_refl N))⟩
theorem e27ok : EntryOk Try.prog 27 e27 := f27ok impl_MutateMatrix.ok
end Go.Fw
namespace Go.Fw
variable {ρ : Type}
open Go.Proofs
noncomputable def f81sig : Sig := ⟨[⟨.pair (.int .i64) (.pair (.int .i64) (.sl 3 (.int .i64))), true, false⟩, ⟨.sl 3 (.int .i64), false, false⟩], [⟨.sl 30 (.pair (.int .i64) (.pair (.int .i64) (.sl 3 (.int .i64)))), false, false⟩, ⟨.bool, false, false⟩]⟩
noncomputable def e81 : Entry := ⟨f81sig, none, fun X => ((), ((impl_walk.g X.1 X.2.1).1, ((impl_walk.g X.1 X.2.1).2, ())))⟩
noncomputable def f81G : Nat → Option Entry := addG (addG (fun _ => none) 27 e27) 62 e62
theorem f81GOk : GOk Try.prog f81G := ((GOk.nil).add e27ok (by kernel_rfl)).add e62ok (by kernel_rfl)
noncomputable def f81lE : Clean := ⟨[], [], [], [], []⟩
noncomputable def f81s0 (v0 : MT) (v1 : LI) : St := initSt f81sig.ps (v0, (v1, ()))
noncomputable def f81s1 (v1 : LI) (v2_0 v2_1 : Int) (v2_2 : LI) : St := stOf [(1, .c (.sn 3 tI v1 none)), (2, xb 2)] [(2, (30, [yi v2_0, yi v2_1, .sn 3 tI v2_2 none]))] []
noncomputable def f81l1 : Clean := ⟨[1, 2], [2], [], [], []⟩
noncomputable def f81s2 (v6_2 v1 : LI) (v7 : Bool) (v6_0 v6_1 : Int) : St := stOf [(1, .c (.sn 3 tI v1 none)), (6, xb 6), (7, xB v7)] [(6, (30, [yi v6_0, yi v6_1, .own 20000386]))] [(20000386, (⟨3, .int .i64, v6_2, true, false⟩ : Row))]
noncomputable def f81l2 : Clean := ⟨[1, 6, 7], [6], [], [], [(⟨true, 6, 2⟩, 20000386)]⟩
noncomputable def f81s3 (v6_2 v1 : LI) (v6_0 v6_1 : Int) : St := stOf [(1, .c (.sn 3 tI v1 none)), (6, xb 6)] [(6, (30, [yi v6_0, yi v6_1, .own 20000386]))] [(20000386, (⟨3, .int .i64, v6_2, true, false⟩ : Row))]
noncomputable def f81l3 : Clean := ⟨[1, 6], [6], [], [], [(⟨true, 6, 2⟩, 20000386)]⟩
noncomputable def f81s4 (v8 : LM) (v1 : LI) (v6_0 v6_1 : Int) (v6_2 : LI) : St := stOf [(1, .c (.sn 3 tI v1 none)), (6, xb 6), (8, xo 1000512)] [(6, (30, [yi v6_0, yi v6_1, .sn 3 tI v6_2 (some 1000512)]))] [(1000512, (⟨30, tM 3, v8, true, false⟩ : Row))]
noncomputable def f81l4 : Clean := ⟨[1, 6, 8], [6], [], [], [(⟨false, 8, 0⟩, 1000512)]⟩
noncomputable def f81s5 (v8 : LM) (v25 : LI) (v26 v27 v6_0 v6_1 : Int) (v6_2 : LI) : St := stOf [(6, xb 6), (8, xo 1000512), (25, .c (.sn 3 tI v25 none)), (26, xi v26), (27, xi v27)] [(6, (30, [yi v6_0, yi v6_1, .sn 3 tI v6_2 (some 1000512)]))] [(1000512, (⟨30, tM 3, v8, true, false⟩ : Row))]
noncomputable def f81l5 : Clean := ⟨[6, 8, 25, 26, 27], [6], [], [], [(⟨false, 8, 0⟩, 1000512)]⟩
noncomputable def f81s6 (v8 : LM) : St := stOf [(8, xo 1000512)] [] [(1000512, (⟨30, tM 3, v8, true, false⟩ : Row))]
noncomputable def f81l6 : Clean := ⟨[8], [], [], [], [(⟨false, 8, 0⟩, 1000512)]⟩
noncomputable def f81s7 (v4 : LM) (v5 : Bool) : St := stOf [(4, xo 1000256), (5, xB v5)] [] [(1000256, (⟨30, tM 3, v4, true, false⟩ : Row))]
noncomputable def f81l7 : Clean := ⟨[4, 5], [], [⟨⟨false, 4, 0⟩, 30000000, 30, .pair (.int .i64) (.pair (.int .i64) (.sl 3 (.int .i64))), true⟩], [], [(⟨false, 4, 0⟩, 1000256)]⟩
noncomputable def f81B : Nat → Option Clean := lookL [(0, f81l6), (1000000, f81l7)]
noncomputable abbrev f81i {ρ : Type} (N : Nat) (c : Code) (p : Plan) (σ : St) (K : KT ρ) : Option ρ := iCode f81G tab f81B N c p σ K
noncomputable def f81c (n : Nat) : Code := codeN 99 (bodyOf Try.f81) n
theorem f81t1 N v0 v1 (K : KT ρ) : f81i N (f81c 2) .n (f81s0 v0 v1) (joinK (some f81l1) K) =
  impl_walk.Z1 N v0 v1 (fun v1 v2_0 v2_1 v2_2 => K .nrm (f81s1 v1 v2_0 v2_1 v2_2)) := by kernel_rfl
theorem f81t3 N v1 v2_0 v2_1 v2_2 (K : KT ρ) : f81i N (f81c 5) .n (f81s1 v1 v2_0 v2_1 v2_2) (joinK (some f81l2) K) =
  impl_walk.Z3 N v1 v2_0 v2_1 v2_2 (fun v6_2 v1 v7 v6_0 v6_1 => K .nrm (f81s2 v6_2 v1 v7 v6_0 v6_1)) := by kernel_rfl
theorem f81t5 N v6_2 v1 v7 v6_0 v6_1 (K : KT ρ) : f81i N (f81c 11) .n (f81s2 v6_2 v1 v7 v6_0 v6_1) (joinK (some f81l3) K) =
  impl_walk.Z5 N v6_2 v1 v7 v6_0 v6_1 (fun v6_2 v1 v6_0 v6_1 => K .nrm (f81s3 v6_2 v1 v6_0 v6_1)) (fun v4 v5 => K .ret (f81s7 v4 v5)) := by kernel_rfl
theorem f81t7 N v6_2 v1 v6_0 v6_1 (K : KT ρ) : f81i N (f81c 23) .n (f81s3 v6_2 v1 v6_0 v6_1) (joinK (some f81l4) K) =
  impl_walk.Z7 N v6_2 v1 v6_0 v6_1 (fun v8 v1 v6_0 v6_1 v6_2 => K .nrm (f81s4 v8 v1 v6_0 v6_1 v6_2)) := by kernel_rfl
theorem f81t10 N v8 v1 v6_0 v6_1 v6_2 (K : KT ρ) : f81i N (f81c 79) .n (f81s4 v8 v1 v6_0 v6_1 v6_2) (joinK (some f81l5) K) =
  impl_walk.Z10 N v8 v1 v6_0 v6_1 v6_2 (fun v8 v25 v26 v27 v6_0 v6_1 v6_2 => K .nrm (f81s5 v8 v25 v26 v27 v6_0 v6_1 v6_2)) := by kernel_rfl
theorem f81t13 N v8 v25 v26 v27 v6_0 v6_1 v6_2 (K : KT ρ) : f81i N (f81c 303) .n (f81s5 v8 v25 v26 v27 v6_0 v6_1 v6_2) (joinK (some f81l5) K) =
  impl_walk.Z13 N v8 v25 v26 v27 v6_0 v6_1 v6_2 (fun v8 v25 v26 v27 v6_0 v6_1 v6_2 => K .nrm (f81s5 v8 v25 v26 v27 v6_0 v6_1 v6_2)) (fun v8 => K (.exit 0) (f81s6 v8)) (fun v4 v5 => K .ret (f81s7 v4 v5)) := by kernel_rfl
noncomputable def f81p12 : Plan := .mk none (some f81l5) .n .n
noncomputable abbrev f81w12 {ρ : Type} (N M : Nat) (σ : St) (K : KT ρ) : Option ρ := loopC (fun σ K => f81i N (f81c 303) .n σ K) f81l5 M σ K
theorem f81t12L {ρ : Type} (N : Nat) (K : KT ρ) : ∀ (M : Nat) (v8 : LM) (v25 : LI) (v26 v27 v6_0 v6_1 : Int) (v6_2 : LI), f81w12 N M (f81s5 v8 v25 v26 v27 v6_0 v6_1 v6_2) K =
  impl_walk.Z12L N (fun v8 => K (.exit 0) (f81s6 v8)) (fun v4 v5 => K .ret (f81s7 v4 v5)) M v8 v25 v26 v27 v6_0 v6_1 v6_2
  | 0, _, _, _, _, _, _, _ => rfl
  | M + 1, v8, v25, v26, v27, v6_0, v6_1, v6_2 => viaRoundS (fun k => impl_walk.Z13 N v8 v25 v26 v27 v6_0 v6_1 v6_2 k (fun v8 => K (.exit 0) (f81s6 v8)) (fun v4 v5 => K .ret (f81s7 v4 v5))) (f81t13 N (K := seqK (fun σ => f81w12 N M σ K) K) ..) (fx7 fun v8 v25 v26 v27 v6_0 v6_1 v6_2 => f81t12L N K M v8 v25 v26 v27 v6_0 v6_1 v6_2) (by kernel_rfl)
theorem f81t12 N v8 v25 v26 v27 v6_0 v6_1 v6_2 (K : KT ρ) : f81i N (f81c 175) f81p12 (f81s5 v8 v25 v26 v27 v6_0 v6_1 v6_2) (joinK (some f81l6) K) =
  impl_walk.Z12 N v8 v25 v26 v27 v6_0 v6_1 v6_2 (fun v8 => K (.exit 0) (f81s6 v8)) (fun v4 v5 => K .ret (f81s7 v4 v5)) :=
 viaLoopS (by kernel_rfl) (f81t12L N (joinK (some f81l6) K) N v8 v25 v26 v27 v6_0 v6_1 v6_2) (by kernel_rfl)
noncomputable def f81p11 : Plan := .mk (some f81l6) none f81p12 .n
theorem f81t11 N v8 v25 v26 v27 v6_0 v6_1 v6_2 (K : KT ρ) : f81i N (f81c 111) f81p11 (f81s5 v8 v25 v26 v27 v6_0 v6_1 v6_2) (joinK (some f81l6) K) =
  impl_walk.Z11 N v8 v25 v26 v27 v6_0 v6_1 v6_2 (fun v8 => K .nrm (f81s6 v8)) (fun v4 v5 => K .ret (f81s7 v4 v5)) :=
 viaBlockS (by kernel_rfl) (f81t12 N (K := blockK 0 (joinK (some f81l6) K)) ..) (by kernel_rfl)
noncomputable def f81p9 : Plan := .mk (some f81l5) none .n f81p11
theorem f81t9 N v8 v1 v6_0 v6_1 v6_2 (K : KT ρ) : f81i N (f81c 47) f81p9 (f81s4 v8 v1 v6_0 v6_1 v6_2) (joinK (some f81l6) K) =
  impl_walk.Z9 N v8 v1 v6_0 v6_1 v6_2 (fun v8 => K .nrm (f81s6 v8)) (fun v4 v5 => K .ret (f81s7 v4 v5)) :=
 viaSeqS (fun k => impl_walk.Z10 N v8 v1 v6_0 v6_1 v6_2 k) (by kernel_rfl) (f81t10 N (K := seqK (fun σ => f81i N (f81c 111) f81p11 σ (joinK (some f81l6) K)) (joinK (some f81l6) K)) ..) (fx7 fun v8 v25 v26 v27 v6_0 v6_1 v6_2 => f81t11 N v8 v25 v26 v27 v6_0 v6_1 v6_2 K) (by kernel_rfl)
theorem f81t14 N v8 (K : KT ρ) : f81i N (f81c 63) .n (f81s6 v8) (joinK (some f81lE) K) =
  impl_walk.Z14 N v8 (fun v4 v5 => K .ret (f81s7 v4 v5)) := by kernel_rfl
noncomputable def f81p8 : Plan := .mk (some f81l6) none f81p9 .n
theorem f81t8 N v8 v1 v6_0 v6_1 v6_2 (K : KT ρ) : f81i N (f81c 31) f81p8 (f81s4 v8 v1 v6_0 v6_1 v6_2) (joinK (some f81lE) K) =
  impl_walk.Z8 N v8 v1 v6_0 v6_1 v6_2 (fun v4 v5 => K .ret (f81s7 v4 v5)) :=
 viaSeqS (fun k => impl_walk.Z9 N v8 v1 v6_0 v6_1 v6_2 k (fun v4 v5 => K .ret (f81s7 v4 v5))) (by kernel_rfl) (f81t9 N (K := seqK (fun σ => f81i N (f81c 63) .n σ (joinK (some f81lE) K)) (joinK (some f81lE) K)) ..) (funext fun v8 => f81t14 N v8 K) (by kernel_rfl)
noncomputable def f81p6 : Plan := .mk (some f81l4) none .n f81p8
theorem f81t6 N v6_2 v1 v6_0 v6_1 (K : KT ρ) : f81i N (f81c 15) f81p6 (f81s3 v6_2 v1 v6_0 v6_1) (joinK (some f81lE) K) =
  impl_walk.Z6 N v6_2 v1 v6_0 v6_1 (fun v4 v5 => K .ret (f81s7 v4 v5)) :=
 viaSeqS (fun k => impl_walk.Z7 N v6_2 v1 v6_0 v6_1 k) (by kernel_rfl) (f81t7 N (K := seqK (fun σ => f81i N (f81c 31) f81p8 σ (joinK (some f81lE) K)) (joinK (some f81lE) K)) ..) (fx5 fun v8 v1 v6_0 v6_1 v6_2 => f81t8 N v8 v1 v6_0 v6_1 v6_2 K) (by kernel_rfl)
noncomputable def f81p4 : Plan := .mk (some f81l3) none .n f81p6
theorem f81t4 N v6_2 v1 v7 v6_0 v6_1 (K : KT ρ) : f81i N (f81c 7) f81p4 (f81s2 v6_2 v1 v7 v6_0 v6_1) (joinK (some f81lE) K) =
  impl_walk.Z4 N v6_2 v1 v7 v6_0 v6_1 (fun v4 v5 => K .ret (f81s7 v4 v5)) :=
 viaSeqS (fun k => impl_walk.Z5 N v6_2 v1 v7 v6_0 v6_1 k (fun v4 v5 => K .ret (f81s7 v4 v5))) (by kernel_rfl) (f81t5 N (K := seqK (fun σ => f81i N (f81c 15) f81p6 σ (joinK (some f81lE) K)) (joinK (some f81lE) K)) ..) (fx4 fun v6_2 v1 v6_0 v6_1 => f81t6 N v6_2 v1 v6_0 v6_1 K) (by kernel_rfl)
noncomputable def f81p2 : Plan := .mk (some f81l2) none .n f81p4
theorem f81t2 N v1 v2_0 v2_1 v2_2 (K : KT ρ) : f81i N (f81c 3) f81p2 (f81s1 v1 v2_0 v2_1 v2_2) (joinK (some f81lE) K) =
  impl_walk.Z2 N v1 v2_0 v2_1 v2_2 (fun v4 v5 => K .ret (f81s7 v4 v5)) :=
 viaSeqS (fun k => impl_walk.Z3 N v1 v2_0 v2_1 v2_2 k) (by kernel_rfl) (f81t3 N (K := seqK (fun σ => f81i N (f81c 7) f81p4 σ (joinK (some f81lE) K)) (joinK (some f81lE) K)) ..) (fx5 fun v6_2 v1 v7 v6_0 v6_1 => f81t4 N v6_2 v1 v7 v6_0 v6_1 K) (by kernel_rfl)
noncomputable def f81p0 : Plan := .mk (some f81l1) none .n f81p2
theorem f81t0 N v0 v1 (K : KT ρ) : f81i N (f81c 1) f81p0 (f81s0 v0 v1) (joinK (some f81lE) K) =
  impl_walk.Z0 N v0 v1 (fun v4 v5 => K .ret (f81s7 v4 v5)) :=
 viaSeqS (fun k => impl_walk.Z1 N v0 v1 k) (by kernel_rfl) (f81t1 N (K := seqK (fun σ => f81i N (f81c 3) f81p2 σ (joinK (some f81lE) K)) (joinK (some f81lE) K)) ..) (fx4 fun v1 v2_0 v2_1 v2_2 => f81t2 N v1 v2_0 v2_1 v2_2 K) (by kernel_rfl)
theorem f81m (N : Nat) (v0 : MT) (v1 : LI) : f81i N (f81c 1) f81p0 (f81s0 v0 v1) (joinK (some f81lE) (finK tab f81sig Try.f81.results.toList)) = impl_walk.Z0 N v0 v1 (fun v4 v5 => some ((), (v4, (v5, ())))) :=
  (f81t0 N v0 v1 (finK tab f81sig Try.f81.results.toList)).trans (by kernel_rfl)
theorem f81ok (h : impl_walk.Spec) : EntryOk Try.prog 81 e81 :=
  entry_of_code (sig := f81sig) (c := (f81c 1)) (pl := f81p0) (je := (some f81lE)) (B := f81B) Try.func81 (by kernel_rfl) (by kernel_rfl) (by kernel_rfl) tabOk f81GOk (by kernel_rfl) (by kernel_rfl) (by kernel_rfl) (by kernel_rfl) fun X hb hp => by
    obtain ⟨v0, v1, _⟩ := X
    obtain ⟨N, h⟩ := h v0 v1 hb.1 hb.2.1
    exact ⟨N, (f81m N v0 v1).trans (h N (Nat.le_refl N))⟩
theorem e81ok : EntryOk Try.prog 81 e81 := f81ok impl_walk.ok
end Go.Fw
namespace Go.Fw
variable {ρ : Type}
open Go.Proofs
noncomputable def f82sig : Sig := ⟨[⟨.int .i64, false, false⟩, ⟨.int .i64, false, false⟩], [⟨.sl 3 (.int .i64), false, false⟩]⟩
noncomputable def e82 : Entry := ⟨f82sig, (some fun X => impl_unit.P X.1 X.2.1), fun X => ((), ((impl_unit.g X.1 X.2.1), ()))⟩
noncomputable def f82G : Nat → Option Entry := (fun _ => none)
theorem f82GOk : GOk Try.prog f82G := GOk.nil
noncomputable def f82lE : Clean := ⟨[], [], [], [], []⟩
noncomputable def f82s0 (v0 v1 : Int) : St := initSt f82sig.ps (v0, (v1, ()))
noncomputable def f82s1 (v4 : LI) : St := stOf [(4, xo 1000256)] [] [(1000256, (⟨3, .int .i64, v4, true, false⟩ : Row))]
noncomputable def f82l1 : Clean := ⟨[4], [], [], [], [(⟨false, 4, 0⟩, 1000256)]⟩
noncomputable def f82B : Nat → Option Clean := lookL [(1000000, f82l1)]
noncomputable abbrev f82i {ρ : Type} (N : Nat) (c : Code) (p : Plan) (σ : St) (K : KT ρ) : Option ρ := iCode f82G tab f82B N c p σ K
noncomputable def f82c (n : Nat) : Code := codeN 99 (bodyOf Try.f82) n
theorem f82t0 N v0 v1 (K : KT ρ) : f82i N (f82c 1) .n (f82s0 v0 v1) (joinK (some f82lE) K) =
  impl_unit.Z0 N v0 v1 (fun v4 => K .ret (f82s1 v4)) := by kernel_rfl
theorem f82m (N : Nat) (v0 v1 : Int) : f82i N (f82c 1) .n (f82s0 v0 v1) (joinK (some f82lE) (finK tab f82sig Try.f82.results.toList)) = impl_unit.Z0 N v0 v1 (fun v4 => some ((), (v4, ()))) :=
  (f82t0 N v0 v1 (finK tab f82sig Try.f82.results.toList)).trans (by kernel_rfl)
theorem f82ok (h : impl_unit.Spec) : EntryOk Try.prog 82 e82 :=
  entry_of_code (sig := f82sig) (c := (f82c 1)) (pl := .n) (je := (some f82lE)) (B := f82B) Try.func82 (by kernel_rfl) (by kernel_rfl) (by kernel_rfl) tabOk f82GOk (by kernel_rfl) (by kernel_rfl) (by kernel_rfl) (by kernel_rfl) fun X hb hp => by
    obtain ⟨v0, v1, _⟩ := X
    obtain ⟨N, h⟩ := h v0 v1 hp
    exact ⟨N, (f82m N v0 v1).trans (h N (Nat.le_refl N))⟩
theorem e82ok : EntryOk Try.prog 82 e82 := f82ok impl_unit.ok
end Go.Fw
namespace Go.Fw
variable {ρ : Type}
open Go.Proofs
noncomputable def f36sig : Sig := ⟨[⟨.pair (.int .i64) (.pair (.int .i64) (.sl 3 (.int .i64))), true, false⟩, ⟨.sl 3 (.int .i64), false, false⟩], [⟨.sl 22 (.sl 3 (.int .i64)), false, false⟩, ⟨.bool, false, false⟩]⟩
noncomputable def e36 : Entry := ⟨f36sig, none, fun X => ((), ((impl_GVectorsOf.g X.1 X.2.1).1, ((impl_GVectorsOf.g X.1 X.2.1).2, ())))⟩
noncomputable def f36G : Nat → Option Entry := addG (addG (addG (fun _ => none) 81 e81) 82 e82) 83 e83
theorem f36GOk : GOk Try.prog f36G := (((GOk.nil).add e81ok (by kernel_rfl)).add e82ok (by kernel_rfl)).add e83ok (by kernel_rfl)
noncomputable def f36lE : Clean := ⟨[], [], [], [], []⟩
noncomputable def f36s0 (v0 : MT) (v1 : LI) : St := initSt f36sig.ps (v0, (v1, ()))
noncomputable def f36s1 (v1 : LI) (v2_0 v2_1 : Int) (v2_2 : LI) : St := stOf [(1, .c (.sn 3 tI v1 none)), (2, xb 2)] [(2, (30, [yi v2_0, yi v2_1, .sn 3 tI v2_2 none]))] []
noncomputable def f36l1 : Clean := ⟨[1, 2], [2], [], [], []⟩
noncomputable def f36s2 (v6 : LM) (v1 : LI) (v7 : Bool) (v2_0 v2_1 : Int) (v2_2 : LI) : St := stOf [(1, .c (.sn 3 tI v1 none)), (2, xb 2), (6, xo 1000384), (7, xB v7)] [(2, (30, [yi v2_0, yi v2_1, .sn 3 tI v2_2 none]))] [(1000384, (⟨30, tM 3, v6, true, false⟩ : Row))]
noncomputable def f36l2 : Clean := ⟨[1, 2, 6, 7], [2], [], [], [(⟨false, 6, 0⟩, 1000384)]⟩
noncomputable def f36s3 (v6 : LM) (v1 : LI) (v2_0 v2_1 : Int) (v2_2 : LI) : St := stOf [(1, .c (.sn 3 tI v1 none)), (2, xb 2), (6, xo 1000384)] [(2, (30, [yi v2_0, yi v2_1, .sn 3 tI v2_2 none]))] [(1000384, (⟨30, tM 3, v6, true, false⟩ : Row))]
noncomputable def f36l3 : Clean := ⟨[1, 2, 6], [2], [], [], [(⟨false, 6, 0⟩, 1000384)]⟩
noncomputable def f36s4 (v6 : LM) (v1 : LI) (v8 v2_0 v2_1 : Int) (v2_2 : LI) : St := stOf [(1, .c (.sn 3 tI v1 none)), (2, xb 2), (6, xo 1000384), (8, xi v8)] [(2, (30, [yi v2_0, yi v2_1, .sn 3 tI v2_2 none]))] [(1000384, (⟨30, tM 3, v6, true, false⟩ : Row))]
noncomputable def f36l4 : Clean := ⟨[1, 2, 6, 8], [2], [], [], [(⟨false, 6, 0⟩, 1000384)]⟩
noncomputable def f36s5 (v6 : LM) (v1 : LI) (v8 v2_0 v2_1 : Int) (v2_2 : LI) : St := stOf [(1, .c (.sn 3 tI v1 none)), (2, xb 2), (6, xo 1000384), (8, xi v8), (9, .c (.nil))] [(2, (30, [yi v2_0, yi v2_1, .sn 3 tI v2_2 none]))] [(1000384, (⟨30, tM 3, v6, true, false⟩ : Row))]
noncomputable def f36l5 : Clean := ⟨[1, 2, 6, 8, 9], [2], [], [], [(⟨false, 6, 0⟩, 1000384)]⟩
noncomputable def f36s6 (v6 : LM) (v1 : LI) (v8 v10 v2_0 v2_1 : Int) (v2_2 : LI) : St := stOf [(1, .c (.sn 3 tI v1 none)), (2, xb 2), (6, xo 1000384), (8, xi v8), (9, .c (.nil)), (10, xi v10)] [(2, (30, [yi v2_0, yi v2_1, .sn 3 tI v2_2 none]))] [(1000384, (⟨30, tM 3, v6, true, false⟩ : Row))]
noncomputable def f36l6 : Clean := ⟨[1, 2, 6, 8, 9, 10], [2], [], [], [(⟨false, 6, 0⟩, 1000384)]⟩
noncomputable def f36s7 (v6 : LM) (v9 : LL) (v1 : LI) (v8 v10 v2_0 v2_1 : Int) (v2_2 : LI) : St := stOf [(1, .c (.sn 3 tI v1 none)), (2, xb 2), (6, xo 1000384), (8, xi v8), (9, xo 1000576), (10, xi v10)] [(2, (30, [yi v2_0, yi v2_1, .sn 3 tI v2_2 none]))] [(1000384, (⟨30, tM 3, v6, true, false⟩ : Row)), (1000576, (⟨22, .sl 3 tI, v9, true, false⟩ : Row))]
noncomputable def f36l7 : Clean := ⟨[1, 2, 6, 8, 9, 10], [2], [⟨⟨false, 9, 0⟩, 30000000, 22, .sl 3 (.int .i64), true⟩], [], [(⟨false, 6, 0⟩, 1000384), (⟨false, 9, 0⟩, 1000576)]⟩
noncomputable def f36s8 (v6 : LM) (v9 : LL) (v1 : LI) (v8 v2_0 v2_1 : Int) (v2_2 : LI) : St := stOf [(1, .c (.sn 3 tI v1 none)), (2, xb 2), (6, xo 1000384), (8, xi v8), (9, xo 1000576)] [(2, (30, [yi v2_0, yi v2_1, .sn 3 tI v2_2 none]))] [(1000384, (⟨30, tM 3, v6, true, false⟩ : Row)), (1000576, (⟨22, .sl 3 tI, v9, true, false⟩ : Row))]
noncomputable def f36l8 : Clean := ⟨[1, 2, 6, 8, 9], [2], [], [], [(⟨false, 6, 0⟩, 1000384), (⟨false, 9, 0⟩, 1000576)]⟩
noncomputable def f36s9 (v6 : LM) (v9 : LL) (v8 : Int) (v40 : LI) (v41 v42 v2_0 v2_1 : Int) (v2_2 : LI) : St := stOf [(2, xb 2), (6, xo 1000384), (8, xi v8), (9, xo 1000576), (40, .c (.sn 3 tI v40 none)), (41, xi v41), (42, xi v42)] [(2, (30, [yi v2_0, yi v2_1, .sn 3 tI v2_2 none]))] [(1000384, (⟨30, tM 3, v6, true, false⟩ : Row)), (1000576, (⟨22, .sl 3 tI, v9, true, false⟩ : Row))]
noncomputable def f36l9 : Clean := ⟨[2, 6, 8, 9, 40, 41, 42], [2], [], [], [(⟨false, 6, 0⟩, 1000384), (⟨false, 9, 0⟩, 1000576)]⟩
noncomputable def f36s10 (v6 : LM) (v9 : LL) (v8 : Int) (v40 : LI) (v41 v42 : Int) (v43 : Bool) (v2_0 v2_1 : Int) (v2_2 : LI) : St := stOf [(2, xb 2), (6, xo 1000384), (8, xi v8), (9, xo 1000576), (40, .c (.sn 3 tI v40 none)), (41, xi v41), (42, xi v42), (43, xB v43)] [(2, (30, [yi v2_0, yi v2_1, .sn 3 tI v2_2 none]))] [(1000384, (⟨30, tM 3, v6, true, false⟩ : Row)), (1000576, (⟨22, .sl 3 tI, v9, true, false⟩ : Row))]
noncomputable def f36l10 : Clean := ⟨[2, 6, 8, 9, 40, 41, 42, 43], [2], [], [], [(⟨false, 6, 0⟩, 1000384), (⟨false, 9, 0⟩, 1000576)]⟩
noncomputable def f36s11 (v6 : LM) (v9 : LL) (v8 v11 v12 : Int) (v40 : LI) (v41 v42 v2_0 v2_1 : Int) (v2_2 : LI) : St := stOf [(2, xb 2), (6, xo 1000384), (8, xi v8), (9, xo 1000576), (11, xi v11), (12, xi v12), (40, .c (.sn 3 tI v40 none)), (41, xi v41), (42, xi v42)] [(2, (30, [yi v2_0, yi v2_1, .sn 3 tI v2_2 none]))] [(1000384, (⟨30, tM 3, v6, true, false⟩ : Row)), (1000576, (⟨22, .sl 3 tI, v9, true, false⟩ : Row))]
noncomputable def f36l11 : Clean := ⟨[2, 6, 8, 9, 11, 12, 40, 41, 42], [2], [], [], [(⟨false, 6, 0⟩, 1000384), (⟨false, 9, 0⟩, 1000576)]⟩
noncomputable def f36s12 (v6 : LM) (v9 : LL) (v8 v12 : Int) (v40 : LI) (v41 v42 v2_0 v2_1 : Int) (v2_2 : LI) (v13_0 v13_1 : Int) (v13_2 : LI) : St := stOf [(2, xb 2), (6, xo 1000384), (8, xi v8), (9, xo 1000576), (12, xi v12), (13, xb 13), (40, .c (.sn 3 tI v40 none)), (41, xi v41), (42, xi v42)] [(2, (30, [yi v2_0, yi v2_1, .sn 3 tI v2_2 none])), (13, (30, [yi v13_0, yi v13_1, .sn 3 tI v13_2 (some 1000384)]))] [(1000384, (⟨30, tM 3, v6, true, false⟩ : Row)), (1000576, (⟨22, .sl 3 tI, v9, true, false⟩ : Row))]
noncomputable def f36l12 : Clean := ⟨[2, 6, 8, 9, 12, 13, 40, 41, 42], [2, 13], [], [], [(⟨false, 6, 0⟩, 1000384), (⟨false, 9, 0⟩, 1000576)]⟩
noncomputable def f36s13 (v6 : LM) (v9 : LL) (v8 v12 : Int) (v40 : LI) (v41 v42 v52 v53 v2_0 v2_1 : Int) (v2_2 : LI) (v13_0 v13_1 : Int) (v13_2 : LI) : St := stOf [(2, xb 2), (6, xo 1000384), (8, xi v8), (9, xo 1000576), (12, xi v12), (13, xb 13), (40, .c (.sn 3 tI v40 none)), (41, xi v41), (42, xi v42), (52, xi v52), (53, xi v53)] [(2, (30, [yi v2_0, yi v2_1, .sn 3 tI v2_2 none])), (13, (30, [yi v13_0, yi v13_1, .sn 3 tI v13_2 (some 1000384)]))] [(1000384, (⟨30, tM 3, v6, true, false⟩ : Row)), (1000576, (⟨22, .sl 3 tI, v9, true, false⟩ : Row))]
noncomputable def f36l13 : Clean := ⟨[2, 6, 8, 9, 12, 13, 40, 41, 42, 52, 53], [2, 13], [], [], [(⟨false, 6, 0⟩, 1000384), (⟨false, 9, 0⟩, 1000576)]⟩
noncomputable def f36s14 (v6 : LM) (v9 : LL) (v8 v12 : Int) (v40 : LI) (v41 v42 v52 v53 : Int) (v54 : Bool) (v2_0 v2_1 : Int) (v2_2 : LI) (v13_0 v13_1 : Int) (v13_2 : LI) : St := stOf [(2, xb 2), (6, xo 1000384), (8, xi v8), (9, xo 1000576), (12, xi v12), (13, xb 13), (40, .c (.sn 3 tI v40 none)), (41, xi v41), (42, xi v42), (52, xi v52), (53, xi v53), (54, xB v54)] [(2, (30, [yi v2_0, yi v2_1, .sn 3 tI v2_2 none])), (13, (30, [yi v13_0, yi v13_1, .sn 3 tI v13_2 (some 1000384)]))] [(1000384, (⟨30, tM 3, v6, true, false⟩ : Row)), (1000576, (⟨22, .sl 3 tI, v9, true, false⟩ : Row))]
noncomputable def f36l14 : Clean := ⟨[2, 6, 8, 9, 12, 13, 40, 41, 42, 52, 53, 54], [2, 13], [], [], [(⟨false, 6, 0⟩, 1000384), (⟨false, 9, 0⟩, 1000576)]⟩
noncomputable def f36s15 (v6 : LM) (v9 : LL) (v8 v12 v14 : Int) (v40 : LI) (v41 v42 v52 v53 v2_0 v2_1 : Int) (v2_2 : LI) (v13_0 v13_1 : Int) (v13_2 : LI) : St := stOf [(2, xb 2), (6, xo 1000384), (8, xi v8), (9, xo 1000576), (12, xi v12), (13, xb 13), (14, xi v14), (40, .c (.sn 3 tI v40 none)), (41, xi v41), (42, xi v42), (52, xi v52), (53, xi v53)] [(2, (30, [yi v2_0, yi v2_1, .sn 3 tI v2_2 none])), (13, (30, [yi v13_0, yi v13_1, .sn 3 tI v13_2 (some 1000384)]))] [(1000384, (⟨30, tM 3, v6, true, false⟩ : Row)), (1000576, (⟨22, .sl 3 tI, v9, true, false⟩ : Row))]
noncomputable def f36l15 : Clean := ⟨[2, 6, 8, 9, 12, 13, 14, 40, 41, 42, 52, 53], [2, 13], [], [], [(⟨false, 6, 0⟩, 1000384), (⟨false, 9, 0⟩, 1000576)]⟩
noncomputable def f36s16 (v6 : LM) (v9 : LL) (v8 v12 v14 v15 : Int) (v40 : LI) (v41 v42 v52 v53 v2_0 v2_1 : Int) (v2_2 : LI) (v13_0 v13_1 : Int) (v13_2 : LI) : St := stOf [(2, xb 2), (6, xo 1000384), (8, xi v8), (9, xo 1000576), (12, xi v12), (13, xb 13), (14, xi v14), (15, xi v15), (40, .c (.sn 3 tI v40 none)), (41, xi v41), (42, xi v42), (52, xi v52), (53, xi v53)] [(2, (30, [yi v2_0, yi v2_1, .sn 3 tI v2_2 none])), (13, (30, [yi v13_0, yi v13_1, .sn 3 tI v13_2 (some 1000384)]))] [(1000384, (⟨30, tM 3, v6, true, false⟩ : Row)), (1000576, (⟨22, .sl 3 tI, v9, true, false⟩ : Row))]
noncomputable def f36l16 : Clean := ⟨[2, 6, 8, 9, 12, 13, 14, 15, 40, 41, 42, 52, 53], [2, 13], [], [], [(⟨false, 6, 0⟩, 1000384), (⟨false, 9, 0⟩, 1000576)]⟩
noncomputable def f36s17 (v6 : LM) (v9 : LL) (v8 v12 v14 v15 v16 : Int) (v40 : LI) (v41 v42 v52 v53 v2_0 v2_1 : Int) (v2_2 : LI) (v13_0 v13_1 : Int) (v13_2 : LI) : St := stOf [(2, xb 2), (6, xo 1000384), (8, xi v8), (9, xo 1000576), (12, xi v12), (13, xb 13), (14, xi v14), (15, xi v15), (16, xi v16), (40, .c (.sn 3 tI v40 none)), (41, xi v41), (42, xi v42), (52, xi v52), (53, xi v53)] [(2, (30, [yi v2_0, yi v2_1, .sn 3 tI v2_2 none])), (13, (30, [yi v13_0, yi v13_1, .sn 3 tI v13_2 (some 1000384)]))] [(1000384, (⟨30, tM 3, v6, true, false⟩ : Row)), (1000576, (⟨22, .sl 3 tI, v9, true, false⟩ : Row))]
noncomputable def f36l17 : Clean := ⟨[2, 6, 8, 9, 12, 13, 14, 15, 16, 40, 41, 42, 52, 53], [2, 13], [], [], [(⟨false, 6, 0⟩, 1000384), (⟨false, 9, 0⟩, 1000576)]⟩
noncomputable def f36s18 (v9 : LL) : St := stOf [(9, xo 1000576)] [] [(1000576, (⟨22, .sl 3 tI, v9, true, false⟩ : Row))]
noncomputable def f36l18 : Clean := ⟨[9], [], [], [], [(⟨false, 9, 0⟩, 1000576)]⟩
noncomputable def f36s19 (v4 : LL) (v5 : Bool) : St := stOf [(4, xo 1000256), (5, xB v5)] [] [(1000256, (⟨22, .sl 3 tI, v4, true, false⟩ : Row))]
noncomputable def f36l19 : Clean := ⟨[4, 5], [], [⟨⟨false, 4, 0⟩, 30000000, 22, .sl 3 (.int .i64), true⟩], [], [(⟨false, 4, 0⟩, 1000256)]⟩
noncomputable def f36B : Nat → Option Clean := lookL [(0, f36l8), (6, f36l16), (5, f36l13), (4, f36l9), (3, f36l9), (2, f36l18), (1000000, f36l19)]
noncomputable abbrev f36i {ρ : Type} (N : Nat) (c : Code) (p : Plan) (σ : St) (K : KT ρ) : Option ρ := iCode f36G tab f36B N c p σ K
noncomputable def f36c (n : Nat) : Code := codeN 99 (bodyOf Try.f36) n
theorem f36t1 N v0 v1 (K : KT ρ) : f36i N (f36c 2) .n (f36s0 v0 v1) (joinK (some f36l1) K) =
  impl_GVectorsOf.Z1 N v0 v1 (fun v1 v2_0 v2_1 v2_2 => K .nrm (f36s1 v1 v2_0 v2_1 v2_2)) := by kernel_rfl
theorem f36t3 N v1 v2_0 v2_1 v2_2 (K : KT ρ) : f36i N (f36c 5) .n (f36s1 v1 v2_0 v2_1 v2_2) (joinK (some f36l2) K) =
  impl_GVectorsOf.Z3 N v1 v2_0 v2_1 v2_2 (fun v6 v1 v7 v2_0 v2_1 v2_2 => K .nrm (f36s2 v6 v1 v7 v2_0 v2_1 v2_2)) := by kernel_rfl
theorem f36t5 N v6 v1 v7 v2_0 v2_1 v2_2 (K : KT ρ) : f36i N (f36c 11) .n (f36s2 v6 v1 v7 v2_0 v2_1 v2_2) (joinK (some f36l3) K) =
  impl_GVectorsOf.Z5 N v6 v1 v7 v2_0 v2_1 v2_2 (fun v6 v1 v2_0 v2_1 v2_2 => K .nrm (f36s3 v6 v1 v2_0 v2_1 v2_2)) (fun v4 v5 => K .ret (f36s19 v4 v5)) := by kernel_rfl
theorem f36t7 N v6 v1 v2_0 v2_1 v2_2 (K : KT ρ) : f36i N (f36c 23) .n (f36s3 v6 v1 v2_0 v2_1 v2_2) (joinK (some f36l4) K) =
  impl_GVectorsOf.Z7 N v6 v1 v2_0 v2_1 v2_2 (fun v6 v1 v8 v2_0 v2_1 v2_2 => K .nrm (f36s4 v6 v1 v8 v2_0 v2_1 v2_2)) := by kernel_rfl
theorem f36t9 N v6 v1 v8 v2_0 v2_1 v2_2 (K : KT ρ) : f36i N (f36c 47) .n (f36s4 v6 v1 v8 v2_0 v2_1 v2_2) (joinK (some f36l5) K) =
  impl_GVectorsOf.Z9 N v6 v1 v8 v2_0 v2_1 v2_2 (fun v6 v1 v8 v2_0 v2_1 v2_2 => K .nrm (f36s5 v6 v1 v8 v2_0 v2_1 v2_2)) := by kernel_rfl
theorem f36t12 N v6 v1 v8 v2_0 v2_1 v2_2 (K : KT ρ) : f36i N (f36c 159) .n (f36s5 v6 v1 v8 v2_0 v2_1 v2_2) (joinK (some f36l6) K) =
  impl_GVectorsOf.Z12 N v6 v1 v8 v2_0 v2_1 v2_2 (fun v6 v1 v8 v10 v2_0 v2_1 v2_2 => K .nrm (f36s6 v6 v1 v8 v10 v2_0 v2_1 v2_2)) := by kernel_rfl
theorem f36t15 N v6 v9 v1 v8 v10 v2_0 v2_1 v2_2 (K : KT ρ) : f36i N (f36c 607) .n (f36s7 v6 v9 v1 v8 v10 v2_0 v2_1 v2_2) (joinK (some f36l7) K) =
  impl_GVectorsOf.Z15 N v6 v9 v1 v8 v10 v2_0 v2_1 v2_2 (fun v6 v9 v1 v8 v10 v2_0 v2_1 v2_2 => K .nrm (f36s7 v6 v9 v1 v8 v10 v2_0 v2_1 v2_2)) (fun v6 v9 v1 v8 v2_0 v2_1 v2_2 => K (.exit 0) (f36s8 v6 v9 v1 v8 v2_0 v2_1 v2_2)) := by kernel_rfl
noncomputable def f36p14 : Plan := .mk none (some f36l7) .n .n
noncomputable abbrev f36w14 {ρ : Type} (N M : Nat) (σ : St) (K : KT ρ) : Option ρ := loopC (fun σ K => f36i N (f36c 607) .n σ K) f36l7 M σ K
theorem f36t14L {ρ : Type} (N : Nat) (K : KT ρ) : ∀ (M : Nat) (v6 : LM) (v9 : LL) (v1 : LI) (v8 v10 v2_0 v2_1 : Int) (v2_2 : LI), f36w14 N M (f36s7 v6 v9 v1 v8 v10 v2_0 v2_1 v2_2) K =
  impl_GVectorsOf.Z14L N (fun v6 v9 v1 v8 v2_0 v2_1 v2_2 => K (.exit 0) (f36s8 v6 v9 v1 v8 v2_0 v2_1 v2_2)) M v6 v9 v1 v8 v10 v2_0 v2_1 v2_2
  | 0, _, _, _, _, _, _, _, _ => rfl
  | M + 1, v6, v9, v1, v8, v10, v2_0, v2_1, v2_2 => viaRoundS (fun k => impl_GVectorsOf.Z15 N v6 v9 v1 v8 v10 v2_0 v2_1 v2_2 k (fun v6 v9 v1 v8 v2_0 v2_1 v2_2 => K (.exit 0) (f36s8 v6 v9 v1 v8 v2_0 v2_1 v2_2))) (f36t15 N (K := seqK (fun σ => f36w14 N M σ K) K) ..) (fx8 fun v6 v9 v1 v8 v10 v2_0 v2_1 v2_2 => f36t14L N K M v6 v9 v1 v8 v10 v2_0 v2_1 v2_2) (by kernel_rfl)
theorem f36t14 N v6 v1 v8 v10 v2_0 v2_1 v2_2 (K : KT ρ) : f36i N (f36c 351) f36p14 (f36s6 v6 v1 v8 v10 v2_0 v2_1 v2_2) (joinK (some f36l8) K) =
  impl_GVectorsOf.Z14 N v6 v1 v8 v10 v2_0 v2_1 v2_2 (fun v6 v9 v1 v8 v2_0 v2_1 v2_2 => K (.exit 0) (f36s8 v6 v9 v1 v8 v2_0 v2_1 v2_2)) :=
 viaLoopS (by kernel_rfl) (f36t14L N (joinK (some f36l8) K) N v6 ([] : List (LI)) v1 v8 v10 v2_0 v2_1 v2_2) (by kernel_rfl)
noncomputable def f36p13 : Plan := .mk (some f36l8) none f36p14 .n
theorem f36t13 N v6 v1 v8 v10 v2_0 v2_1 v2_2 (K : KT ρ) : f36i N (f36c 223) f36p13 (f36s6 v6 v1 v8 v10 v2_0 v2_1 v2_2) (joinK (some f36l8) K) =
  impl_GVectorsOf.Z13 N v6 v1 v8 v10 v2_0 v2_1 v2_2 (fun v6 v9 v1 v8 v2_0 v2_1 v2_2 => K .nrm (f36s8 v6 v9 v1 v8 v2_0 v2_1 v2_2)) :=
 viaBlockS (by kernel_rfl) (f36t14 N (K := blockK 0 (joinK (some f36l8) K)) ..) (by kernel_rfl)
noncomputable def f36p11 : Plan := .mk (some f36l6) none .n f36p13
theorem f36t11 N v6 v1 v8 v2_0 v2_1 v2_2 (K : KT ρ) : f36i N (f36c 95) f36p11 (f36s5 v6 v1 v8 v2_0 v2_1 v2_2) (joinK (some f36l8) K) =
  impl_GVectorsOf.Z11 N v6 v1 v8 v2_0 v2_1 v2_2 (fun v6 v9 v1 v8 v2_0 v2_1 v2_2 => K .nrm (f36s8 v6 v9 v1 v8 v2_0 v2_1 v2_2)) :=
 viaSeqS (fun k => impl_GVectorsOf.Z12 N v6 v1 v8 v2_0 v2_1 v2_2 k) (by kernel_rfl) (f36t12 N (K := seqK (fun σ => f36i N (f36c 223) f36p13 σ (joinK (some f36l8) K)) (joinK (some f36l8) K)) ..) (fx7 fun v6 v1 v8 v10 v2_0 v2_1 v2_2 => f36t13 N v6 v1 v8 v10 v2_0 v2_1 v2_2 K) (by kernel_rfl)
theorem f36t18 N v6 v9 v1 v8 v2_0 v2_1 v2_2 (K : KT ρ) : f36i N (f36c 319) .n (f36s8 v6 v9 v1 v8 v2_0 v2_1 v2_2) (joinK (some f36l9) K) =
  impl_GVectorsOf.Z18 N v6 v9 v1 v8 v2_0 v2_1 v2_2 (fun v6 v9 v8 v40 v41 v42 v2_0 v2_1 v2_2 => K .nrm (f36s9 v6 v9 v8 v40 v41 v42 v2_0 v2_1 v2_2)) := by kernel_rfl
theorem f36t22 N v6 v9 v8 v40 v41 v42 v2_0 v2_1 v2_2 (K : KT ρ) : f36i N (f36c 2239) .n (f36s9 v6 v9 v8 v40 v41 v42 v2_0 v2_1 v2_2) (joinK (some f36l10) K) =
  impl_GVectorsOf.Z22 N v6 v9 v8 v40 v41 v42 v2_0 v2_1 v2_2 (fun v6 v9 v8 v40 v41 v42 v43 v2_0 v2_1 v2_2 => K .nrm (f36s10 v6 v9 v8 v40 v41 v42 v43 v2_0 v2_1 v2_2)) := by kernel_rfl
theorem f36t24 N v6 v9 v8 v40 v41 v42 v43 v2_0 v2_1 v2_2 (K : KT ρ) : f36i N (f36c 5311) .n (f36s10 v6 v9 v8 v40 v41 v42 v43 v2_0 v2_1 v2_2) (joinK (some f36l9) K) =
  impl_GVectorsOf.Z24 N v6 v9 v8 v40 v41 v42 v43 v2_0 v2_1 v2_2 (fun v6 v9 v8 v40 v41 v42 v2_0 v2_1 v2_2 => K .nrm (f36s9 v6 v9 v8 v40 v41 v42 v2_0 v2_1 v2_2)) (fun v9 => K (.exit 2) (f36s18 v9)) := by kernel_rfl
theorem f36t28 N v6 v9 v8 v40 v41 v42 v2_0 v2_1 v2_2 (K : KT ρ) : f36i N (f36c 36031) .n (f36s9 v6 v9 v8 v40 v41 v42 v2_0 v2_1 v2_2) (joinK (some f36l11) K) =
  impl_GVectorsOf.Z28 N v6 v9 v8 v40 v41 v42 v2_0 v2_1 v2_2 (fun v6 v9 v8 v11 v12 v40 v41 v42 v2_0 v2_1 v2_2 => K .nrm (f36s11 v6 v9 v8 v11 v12 v40 v41 v42 v2_0 v2_1 v2_2)) := by kernel_rfl
theorem f36t30 N v6 v9 v8 v11 v12 v40 v41 v42 v2_0 v2_1 v2_2 (K : KT ρ) : f36i N (f36c 85183) .n (f36s11 v6 v9 v8 v11 v12 v40 v41 v42 v2_0 v2_1 v2_2) (joinK (some f36l12) K) =
  impl_GVectorsOf.Z30 N v6 v9 v8 v11 v12 v40 v41 v42 v2_0 v2_1 v2_2 (fun v6 v9 v8 v12 v40 v41 v42 v2_0 v2_1 v2_2 v13_0 v13_1 v13_2 => K .nrm (f36s12 v6 v9 v8 v12 v40 v41 v42 v2_0 v2_1 v2_2 v13_0 v13_1 v13_2)) := by kernel_rfl
theorem f36t32 N v6 v9 v8 v12 v40 v41 v42 v2_0 v2_1 v2_2 v13_0 v13_1 v13_2 (K : KT ρ) : f36i N (f36c 183487) .n (f36s12 v6 v9 v8 v12 v40 v41 v42 v2_0 v2_1 v2_2 v13_0 v13_1 v13_2) (joinK (some f36l13) K) =
  impl_GVectorsOf.Z32 N v6 v9 v8 v12 v40 v41 v42 v2_0 v2_1 v2_2 v13_0 v13_1 v13_2 (fun v6 v9 v8 v12 v40 v41 v42 v52 v53 v2_0 v2_1 v2_2 v13_0 v13_1 v13_2 => K .nrm (f36s13 v6 v9 v8 v12 v40 v41 v42 v52 v53 v2_0 v2_1 v2_2 v13_0 v13_1 v13_2)) := by kernel_rfl
theorem f36t36 N v6 v9 v8 v12 v40 v41 v42 v52 v53 v2_0 v2_1 v2_2 v13_0 v13_1 v13_2 (K : KT ρ) : f36i N (f36c 1166527) .n (f36s13 v6 v9 v8 v12 v40 v41 v42 v52 v53 v2_0 v2_1 v2_2 v13_0 v13_1 v13_2) (joinK (some f36l14) K) =
  impl_GVectorsOf.Z36 N v6 v9 v8 v12 v40 v41 v42 v52 v53 v2_0 v2_1 v2_2 v13_0 v13_1 v13_2 (fun v6 v9 v8 v12 v40 v41 v42 v52 v53 v54 v2_0 v2_1 v2_2 v13_0 v13_1 v13_2 => K .nrm (f36s14 v6 v9 v8 v12 v40 v41 v42 v52 v53 v54 v2_0 v2_1 v2_2 v13_0 v13_1 v13_2)) := by kernel_rfl
theorem f36t38 N v6 v9 v8 v12 v40 v41 v42 v52 v53 v54 v2_0 v2_1 v2_2 v13_0 v13_1 v13_2 (K : KT ρ) : f36i N (f36c 2739391) .n (f36s14 v6 v9 v8 v12 v40 v41 v42 v52 v53 v54 v2_0 v2_1 v2_2 v13_0 v13_1 v13_2) (joinK (some f36l13) K) =
  impl_GVectorsOf.Z38 N v6 v9 v8 v12 v40 v41 v42 v52 v53 v54 v2_0 v2_1 v2_2 v13_0 v13_1 v13_2 (fun v6 v9 v8 v12 v40 v41 v42 v52 v53 v2_0 v2_1 v2_2 v13_0 v13_1 v13_2 => K .nrm (f36s13 v6 v9 v8 v12 v40 v41 v42 v52 v53 v2_0 v2_1 v2_2 v13_0 v13_1 v13_2)) (fun v6 v9 v8 v40 v41 v42 v2_0 v2_1 v2_2 => K (.exit 4) (f36s9 v6 v9 v8 v40 v41 v42 v2_0 v2_1 v2_2)) := by kernel_rfl
theorem f36t42 N v6 v9 v8 v12 v40 v41 v42 v52 v53 v2_0 v2_1 v2_2 v13_0 v13_1 v13_2 (K : KT ρ) : f36i N (f36c 18468031) .n (f36s13 v6 v9 v8 v12 v40 v41 v42 v52 v53 v2_0 v2_1 v2_2 v13_0 v13_1 v13_2) (joinK (some f36l15) K) =
  impl_GVectorsOf.Z42 N v6 v9 v8 v12 v40 v41 v42 v52 v53 v2_0 v2_1 v2_2 v13_0 v13_1 v13_2 (fun v6 v9 v8 v12 v14 v40 v41 v42 v52 v53 v2_0 v2_1 v2_2 v13_0 v13_1 v13_2 => K .nrm (f36s15 v6 v9 v8 v12 v14 v40 v41 v42 v52 v53 v2_0 v2_1 v2_2 v13_0 v13_1 v13_2)) := by kernel_rfl
theorem f36t44 N v6 v9 v8 v12 v14 v40 v41 v42 v52 v53 v2_0 v2_1 v2_2 v13_0 v13_1 v13_2 (K : KT ρ) : f36i N (f36c 43633855) .n (f36s15 v6 v9 v8 v12 v14 v40 v41 v42 v52 v53 v2_0 v2_1 v2_2 v13_0 v13_1 v13_2) (joinK (some f36l16) K) =
  impl_GVectorsOf.Z44 N v6 v9 v8 v12 v14 v40 v41 v42 v52 v53 v2_0 v2_1 v2_2 v13_0 v13_1 v13_2 (fun v6 v9 v8 v12 v14 v15 v40 v41 v42 v52 v53 v2_0 v2_1 v2_2 v13_0 v13_1 v13_2 => K .nrm (f36s16 v6 v9 v8 v12 v14 v15 v40 v41 v42 v52 v53 v2_0 v2_1 v2_2 v13_0 v13_1 v13_2)) := by kernel_rfl
theorem f36t47 N v6 v9 v8 v12 v14 v15 v40 v41 v42 v52 v53 v2_0 v2_1 v2_2 v13_0 v13_1 v13_2 (K : KT ρ) : f36i N (f36c 161074367) .n (f36s16 v6 v9 v8 v12 v14 v15 v40 v41 v42 v52 v53 v2_0 v2_1 v2_2 v13_0 v13_1 v13_2) (joinK (some f36l17) K) =
  impl_GVectorsOf.Z47 N v6 v9 v8 v12 v14 v15 v40 v41 v42 v52 v53 v2_0 v2_1 v2_2 v13_0 v13_1 v13_2 (fun v6 v9 v8 v12 v14 v15 v16 v40 v41 v42 v52 v53 v2_0 v2_1 v2_2 v13_0 v13_1 v13_2 => K .nrm (f36s17 v6 v9 v8 v12 v14 v15 v16 v40 v41 v42 v52 v53 v2_0 v2_1 v2_2 v13_0 v13_1 v13_2)) := by kernel_rfl
theorem f36t50 N v6 v9 v8 v12 v14 v15 v16 v40 v41 v42 v52 v53 v2_0 v2_1 v2_2 v13_0 v13_1 v13_2 (K : KT ρ) : f36i N (f36c 630836415) .n (f36s17 v6 v9 v8 v12 v14 v15 v16 v40 v41 v42 v52 v53 v2_0 v2_1 v2_2 v13_0 v13_1 v13_2) (joinK (some f36l17) K) =
  impl_GVectorsOf.Z50 N v6 v9 v8 v12 v14 v15 v16 v40 v41 v42 v52 v53 v2_0 v2_1 v2_2 v13_0 v13_1 v13_2 (fun v6 v9 v8 v12 v14 v15 v16 v40 v41 v42 v52 v53 v2_0 v2_1 v2_2 v13_0 v13_1 v13_2 => K .nrm (f36s17 v6 v9 v8 v12 v14 v15 v16 v40 v41 v42 v52 v53 v2_0 v2_1 v2_2 v13_0 v13_1 v13_2)) (fun v6 v9 v8 v12 v14 v15 v40 v41 v42 v52 v53 v2_0 v2_1 v2_2 v13_0 v13_1 v13_2 => K (.exit 6) (f36s16 v6 v9 v8 v12 v14 v15 v40 v41 v42 v52 v53 v2_0 v2_1 v2_2 v13_0 v13_1 v13_2)) := by kernel_rfl
noncomputable def f36p49 : Plan := .mk none (some f36l17) .n .n
noncomputable abbrev f36w49 {ρ : Type} (N M : Nat) (σ : St) (K : KT ρ) : Option ρ := loopC (fun σ K => f36i N (f36c 630836415) .n σ K) f36l17 M σ K
theorem f36t49L {ρ : Type} (N : Nat) (K : KT ρ) : ∀ (M : Nat) (v6 : LM) (v9 : LL) (v8 v12 v14 v15 v16 : Int) (v40 : LI) (v41 v42 v52 v53 v2_0 v2_1 : Int) (v2_2 : LI) (v13_0 v13_1 : Int) (v13_2 : LI), f36w49 N M (f36s17 v6 v9 v8 v12 v14 v15 v16 v40 v41 v42 v52 v53 v2_0 v2_1 v2_2 v13_0 v13_1 v13_2) K =
  impl_GVectorsOf.Z49L N (fun v6 v9 v8 v12 v14 v15 v40 v41 v42 v52 v53 v2_0 v2_1 v2_2 v13_0 v13_1 v13_2 => K (.exit 6) (f36s16 v6 v9 v8 v12 v14 v15 v40 v41 v42 v52 v53 v2_0 v2_1 v2_2 v13_0 v13_1 v13_2)) M v6 v9 v8 v12 v14 v15 v16 v40 v41 v42 v52 v53 v2_0 v2_1 v2_2 v13_0 v13_1 v13_2
  | 0, _, _, _, _, _, _, _, _, _, _, _, _, _, _, _, _, _, _ => rfl
  | M + 1, v6, v9, v8, v12, v14, v15, v16, v40, v41, v42, v52, v53, v2_0, v2_1, v2_2, v13_0, v13_1, v13_2 => viaRoundS (fun k => impl_GVectorsOf.Z50 N v6 v9 v8 v12 v14 v15 v16 v40 v41 v42 v52 v53 v2_0 v2_1 v2_2 v13_0 v13_1 v13_2 k (fun v6 v9 v8 v12 v14 v15 v40 v41 v42 v52 v53 v2_0 v2_1 v2_2 v13_0 v13_1 v13_2 => K (.exit 6) (f36s16 v6 v9 v8 v12 v14 v15 v40 v41 v42 v52 v53 v2_0 v2_1 v2_2 v13_0 v13_1 v13_2))) (f36t50 N (K := seqK (fun σ => f36w49 N M σ K) K) ..) (fx18 fun v6 v9 v8 v12 v14 v15 v16 v40 v41 v42 v52 v53 v2_0 v2_1 v2_2 v13_0 v13_1 v13_2 => f36t49L N K M v6 v9 v8 v12 v14 v15 v16 v40 v41 v42 v52 v53 v2_0 v2_1 v2_2 v13_0 v13_1 v13_2) (by kernel_rfl)
theorem f36t49 N v6 v9 v8 v12 v14 v15 v16 v40 v41 v42 v52 v53 v2_0 v2_1 v2_2 v13_0 v13_1 v13_2 (K : KT ρ) : f36i N (f36c 362400959) f36p49 (f36s17 v6 v9 v8 v12 v14 v15 v16 v40 v41 v42 v52 v53 v2_0 v2_1 v2_2 v13_0 v13_1 v13_2) (joinK (some f36l16) K) =
  impl_GVectorsOf.Z49 N v6 v9 v8 v12 v14 v15 v16 v40 v41 v42 v52 v53 v2_0 v2_1 v2_2 v13_0 v13_1 v13_2 (fun v6 v9 v8 v12 v14 v15 v40 v41 v42 v52 v53 v2_0 v2_1 v2_2 v13_0 v13_1 v13_2 => K (.exit 6) (f36s16 v6 v9 v8 v12 v14 v15 v40 v41 v42 v52 v53 v2_0 v2_1 v2_2 v13_0 v13_1 v13_2)) :=
 viaLoopS (by kernel_rfl) (f36t49L N (joinK (some f36l16) K) N v6 v9 v8 v12 v14 v15 v16 v40 v41 v42 v52 v53 v2_0 v2_1 v2_2 v13_0 v13_1 v13_2) (by kernel_rfl)
noncomputable def f36p48 : Plan := .mk (some f36l16) none f36p49 .n
theorem f36t48 N v6 v9 v8 v12 v14 v15 v16 v40 v41 v42 v52 v53 v2_0 v2_1 v2_2 v13_0 v13_1 v13_2 (K : KT ρ) : f36i N (f36c 228183231) f36p48 (f36s17 v6 v9 v8 v12 v14 v15 v16 v40 v41 v42 v52 v53 v2_0 v2_1 v2_2 v13_0 v13_1 v13_2) (joinK (some f36l16) K) =
  impl_GVectorsOf.Z48 N v6 v9 v8 v12 v14 v15 v16 v40 v41 v42 v52 v53 v2_0 v2_1 v2_2 v13_0 v13_1 v13_2 (fun v6 v9 v8 v12 v14 v15 v40 v41 v42 v52 v53 v2_0 v2_1 v2_2 v13_0 v13_1 v13_2 => K .nrm (f36s16 v6 v9 v8 v12 v14 v15 v40 v41 v42 v52 v53 v2_0 v2_1 v2_2 v13_0 v13_1 v13_2)) :=
 viaBlockS (by kernel_rfl) (f36t49 N (K := blockK 6 (joinK (some f36l16) K)) ..) (by kernel_rfl)
noncomputable def f36p46 : Plan := .mk (some f36l17) none .n f36p48
theorem f36t46 N v6 v9 v8 v12 v14 v15 v40 v41 v42 v52 v53 v2_0 v2_1 v2_2 v13_0 v13_1 v13_2 (K : KT ρ) : f36i N (f36c 93965503) f36p46 (f36s16 v6 v9 v8 v12 v14 v15 v40 v41 v42 v52 v53 v2_0 v2_1 v2_2 v13_0 v13_1 v13_2) (joinK (some f36l16) K) =
  impl_GVectorsOf.Z46 N v6 v9 v8 v12 v14 v15 v40 v41 v42 v52 v53 v2_0 v2_1 v2_2 v13_0 v13_1 v13_2 (fun v6 v9 v8 v12 v14 v15 v40 v41 v42 v52 v53 v2_0 v2_1 v2_2 v13_0 v13_1 v13_2 => K .nrm (f36s16 v6 v9 v8 v12 v14 v15 v40 v41 v42 v52 v53 v2_0 v2_1 v2_2 v13_0 v13_1 v13_2)) :=
 viaSeqS (fun k => impl_GVectorsOf.Z47 N v6 v9 v8 v12 v14 v15 v40 v41 v42 v52 v53 v2_0 v2_1 v2_2 v13_0 v13_1 v13_2 k) (by kernel_rfl) (f36t47 N (K := seqK (fun σ => f36i N (f36c 228183231) f36p48 σ (joinK (some f36l16) K)) (joinK (some f36l16) K)) ..) (fx18 fun v6 v9 v8 v12 v14 v15 v16 v40 v41 v42 v52 v53 v2_0 v2_1 v2_2 v13_0 v13_1 v13_2 => f36t48 N v6 v9 v8 v12 v14 v15 v16 v40 v41 v42 v52 v53 v2_0 v2_1 v2_2 v13_0 v13_1 v13_2 K) (by kernel_rfl)
theorem f36t51 N v6 v9 v8 v12 v14 v15 v40 v41 v42 v52 v53 v2_0 v2_1 v2_2 v13_0 v13_1 v13_2 (K : KT ρ) : f36i N (f36c 127519935) .n (f36s16 v6 v9 v8 v12 v14 v15 v40 v41 v42 v52 v53 v2_0 v2_1 v2_2 v13_0 v13_1 v13_2) (joinK (some f36l13) K) =
  impl_GVectorsOf.Z51 N v6 v9 v8 v12 v14 v15 v40 v41 v42 v52 v53 v2_0 v2_1 v2_2 v13_0 v13_1 v13_2 (fun v6 v9 v8 v12 v40 v41 v42 v52 v53 v2_0 v2_1 v2_2 v13_0 v13_1 v13_2 => K .nrm (f36s13 v6 v9 v8 v12 v40 v41 v42 v52 v53 v2_0 v2_1 v2_2 v13_0 v13_1 v13_2)) := by kernel_rfl
noncomputable def f36p45 : Plan := .mk (some f36l16) none f36p46 .n
theorem f36t45 N v6 v9 v8 v12 v14 v15 v40 v41 v42 v52 v53 v2_0 v2_1 v2_2 v13_0 v13_1 v13_2 (K : KT ρ) : f36i N (f36c 60411071) f36p45 (f36s16 v6 v9 v8 v12 v14 v15 v40 v41 v42 v52 v53 v2_0 v2_1 v2_2 v13_0 v13_1 v13_2) (joinK (some f36l13) K) =
  impl_GVectorsOf.Z45 N v6 v9 v8 v12 v14 v15 v40 v41 v42 v52 v53 v2_0 v2_1 v2_2 v13_0 v13_1 v13_2 (fun v6 v9 v8 v12 v40 v41 v42 v52 v53 v2_0 v2_1 v2_2 v13_0 v13_1 v13_2 => K .nrm (f36s13 v6 v9 v8 v12 v40 v41 v42 v52 v53 v2_0 v2_1 v2_2 v13_0 v13_1 v13_2)) :=
 viaSeqS (fun k => impl_GVectorsOf.Z46 N v6 v9 v8 v12 v14 v15 v40 v41 v42 v52 v53 v2_0 v2_1 v2_2 v13_0 v13_1 v13_2 k) (by kernel_rfl) (f36t46 N (K := seqK (fun σ => f36i N (f36c 127519935) .n σ (joinK (some f36l13) K)) (joinK (some f36l13) K)) ..) (fx17 fun v6 v9 v8 v12 v14 v15 v40 v41 v42 v52 v53 v2_0 v2_1 v2_2 v13_0 v13_1 v13_2 => f36t51 N v6 v9 v8 v12 v14 v15 v40 v41 v42 v52 v53 v2_0 v2_1 v2_2 v13_0 v13_1 v13_2 K) (by kernel_rfl)
noncomputable def f36p43 : Plan := .mk (some f36l16) none .n f36p45
theorem f36t43 N v6 v9 v8 v12 v14 v40 v41 v42 v52 v53 v2_0 v2_1 v2_2 v13_0 v13_1 v13_2 (K : KT ρ) : f36i N (f36c 26856639) f36p43 (f36s15 v6 v9 v8 v12 v14 v40 v41 v42 v52 v53 v2_0 v2_1 v2_2 v13_0 v13_1 v13_2) (joinK (some f36l13) K) =
  impl_GVectorsOf.Z43 N v6 v9 v8 v12 v14 v40 v41 v42 v52 v53 v2_0 v2_1 v2_2 v13_0 v13_1 v13_2 (fun v6 v9 v8 v12 v40 v41 v42 v52 v53 v2_0 v2_1 v2_2 v13_0 v13_1 v13_2 => K .nrm (f36s13 v6 v9 v8 v12 v40 v41 v42 v52 v53 v2_0 v2_1 v2_2 v13_0 v13_1 v13_2)) :=
 viaSeqS (fun k => impl_GVectorsOf.Z44 N v6 v9 v8 v12 v14 v40 v41 v42 v52 v53 v2_0 v2_1 v2_2 v13_0 v13_1 v13_2 k) (by kernel_rfl) (f36t44 N (K := seqK (fun σ => f36i N (f36c 60411071) f36p45 σ (joinK (some f36l13) K)) (joinK (some f36l13) K)) ..) (fx17 fun v6 v9 v8 v12 v14 v15 v40 v41 v42 v52 v53 v2_0 v2_1 v2_2 v13_0 v13_1 v13_2 => f36t45 N v6 v9 v8 v12 v14 v15 v40 v41 v42 v52 v53 v2_0 v2_1 v2_2 v13_0 v13_1 v13_2 K) (by kernel_rfl)
noncomputable def f36p41 : Plan := .mk (some f36l15) none .n f36p43
theorem f36t41 N v6 v9 v8 v12 v40 v41 v42 v52 v53 v2_0 v2_1 v2_2 v13_0 v13_1 v13_2 (K : KT ρ) : f36i N (f36c 10079423) f36p41 (f36s13 v6 v9 v8 v12 v40 v41 v42 v52 v53 v2_0 v2_1 v2_2 v13_0 v13_1 v13_2) (joinK (some f36l13) K) =
  impl_GVectorsOf.Z41 N v6 v9 v8 v12 v40 v41 v42 v52 v53 v2_0 v2_1 v2_2 v13_0 v13_1 v13_2 (fun v6 v9 v8 v12 v40 v41 v42 v52 v53 v2_0 v2_1 v2_2 v13_0 v13_1 v13_2 => K .nrm (f36s13 v6 v9 v8 v12 v40 v41 v42 v52 v53 v2_0 v2_1 v2_2 v13_0 v13_1 v13_2)) :=
 viaSeqS (fun k => impl_GVectorsOf.Z42 N v6 v9 v8 v12 v40 v41 v42 v52 v53 v2_0 v2_1 v2_2 v13_0 v13_1 v13_2 k) (by kernel_rfl) (f36t42 N (K := seqK (fun σ => f36i N (f36c 26856639) f36p43 σ (joinK (some f36l13) K)) (joinK (some f36l13) K)) ..) (fx16 fun v6 v9 v8 v12 v14 v40 v41 v42 v52 v53 v2_0 v2_1 v2_2 v13_0 v13_1 v13_2 => f36t43 N v6 v9 v8 v12 v14 v40 v41 v42 v52 v53 v2_0 v2_1 v2_2 v13_0 v13_1 v13_2 K) (by kernel_rfl)
noncomputable def f36p40 : Plan := .mk (some f36l13) none f36p41 .n
theorem f36t40 N v6 v9 v8 v12 v40 v41 v42 v52 v53 v2_0 v2_1 v2_2 v13_0 v13_1 v13_2 (K : KT ρ) : f36i N (f36c 5885119) f36p40 (f36s13 v6 v9 v8 v12 v40 v41 v42 v52 v53 v2_0 v2_1 v2_2 v13_0 v13_1 v13_2) (joinK (some f36l13) K) =
  impl_GVectorsOf.Z40 N v6 v9 v8 v12 v40 v41 v42 v52 v53 v2_0 v2_1 v2_2 v13_0 v13_1 v13_2 (fun v6 v9 v8 v12 v40 v41 v42 v52 v53 v2_0 v2_1 v2_2 v13_0 v13_1 v13_2 => K .nrm (f36s13 v6 v9 v8 v12 v40 v41 v42 v52 v53 v2_0 v2_1 v2_2 v13_0 v13_1 v13_2)) :=
 viaBlockS (by kernel_rfl) (f36t41 N (K := blockK 5 (joinK (some f36l13) K)) ..) (by kernel_rfl)
theorem f36t52 N v6 v9 v8 v12 v40 v41 v42 v52 v53 v2_0 v2_1 v2_2 v13_0 v13_1 v13_2 (K : KT ρ) : f36i N (f36c 7982271) .n (f36s13 v6 v9 v8 v12 v40 v41 v42 v52 v53 v2_0 v2_1 v2_2 v13_0 v13_1 v13_2) (joinK (some f36l13) K) =
  impl_GVectorsOf.Z52 N v6 v9 v8 v12 v40 v41 v42 v52 v53 v2_0 v2_1 v2_2 v13_0 v13_1 v13_2 (fun v6 v9 v8 v12 v40 v41 v42 v52 v53 v2_0 v2_1 v2_2 v13_0 v13_1 v13_2 => K .nrm (f36s13 v6 v9 v8 v12 v40 v41 v42 v52 v53 v2_0 v2_1 v2_2 v13_0 v13_1 v13_2)) := by kernel_rfl
noncomputable def f36p39 : Plan := .mk (some f36l13) none f36p40 .n
theorem f36t39 N v6 v9 v8 v12 v40 v41 v42 v52 v53 v2_0 v2_1 v2_2 v13_0 v13_1 v13_2 (K : KT ρ) : f36i N (f36c 3787967) f36p39 (f36s13 v6 v9 v8 v12 v40 v41 v42 v52 v53 v2_0 v2_1 v2_2 v13_0 v13_1 v13_2) (joinK (some f36l13) K) =
  impl_GVectorsOf.Z39 N v6 v9 v8 v12 v40 v41 v42 v52 v53 v2_0 v2_1 v2_2 v13_0 v13_1 v13_2 (fun v6 v9 v8 v12 v40 v41 v42 v52 v53 v2_0 v2_1 v2_2 v13_0 v13_1 v13_2 => K .nrm (f36s13 v6 v9 v8 v12 v40 v41 v42 v52 v53 v2_0 v2_1 v2_2 v13_0 v13_1 v13_2)) :=
 viaSeqS (fun k => impl_GVectorsOf.Z40 N v6 v9 v8 v12 v40 v41 v42 v52 v53 v2_0 v2_1 v2_2 v13_0 v13_1 v13_2 k) (by kernel_rfl) (f36t40 N (K := seqK (fun σ => f36i N (f36c 7982271) .n σ (joinK (some f36l13) K)) (joinK (some f36l13) K)) ..) (fx15 fun v6 v9 v8 v12 v40 v41 v42 v52 v53 v2_0 v2_1 v2_2 v13_0 v13_1 v13_2 => f36t52 N v6 v9 v8 v12 v40 v41 v42 v52 v53 v2_0 v2_1 v2_2 v13_0 v13_1 v13_2 K) (by kernel_rfl)
noncomputable def f36p37 : Plan := .mk (some f36l13) none .n f36p39
theorem f36t37 N v6 v9 v8 v12 v40 v41 v42 v52 v53 v54 v2_0 v2_1 v2_2 v13_0 v13_1 v13_2 (K : KT ρ) : f36i N (f36c 1690815) f36p37 (f36s14 v6 v9 v8 v12 v40 v41 v42 v52 v53 v54 v2_0 v2_1 v2_2 v13_0 v13_1 v13_2) (joinK (some f36l13) K) =
  impl_GVectorsOf.Z37 N v6 v9 v8 v12 v40 v41 v42 v52 v53 v54 v2_0 v2_1 v2_2 v13_0 v13_1 v13_2 (fun v6 v9 v8 v12 v40 v41 v42 v52 v53 v2_0 v2_1 v2_2 v13_0 v13_1 v13_2 => K .nrm (f36s13 v6 v9 v8 v12 v40 v41 v42 v52 v53 v2_0 v2_1 v2_2 v13_0 v13_1 v13_2)) (fun v6 v9 v8 v40 v41 v42 v2_0 v2_1 v2_2 => K (.exit 4) (f36s9 v6 v9 v8 v40 v41 v42 v2_0 v2_1 v2_2)) :=
 viaSeqS (fun k => impl_GVectorsOf.Z38 N v6 v9 v8 v12 v40 v41 v42 v52 v53 v54 v2_0 v2_1 v2_2 v13_0 v13_1 v13_2 k (fun v6 v9 v8 v40 v41 v42 v2_0 v2_1 v2_2 => K (.exit 4) (f36s9 v6 v9 v8 v40 v41 v42 v2_0 v2_1 v2_2))) (by kernel_rfl) (f36t38 N (K := seqK (fun σ => f36i N (f36c 3787967) f36p39 σ (joinK (some f36l13) K)) (joinK (some f36l13) K)) ..) (fx15 fun v6 v9 v8 v12 v40 v41 v42 v52 v53 v2_0 v2_1 v2_2 v13_0 v13_1 v13_2 => f36t39 N v6 v9 v8 v12 v40 v41 v42 v52 v53 v2_0 v2_1 v2_2 v13_0 v13_1 v13_2 K) (by kernel_rfl)
noncomputable def f36p35 : Plan := .mk (some f36l14) none .n f36p37
theorem f36t35 N v6 v9 v8 v12 v40 v41 v42 v52 v53 v2_0 v2_1 v2_2 v13_0 v13_1 v13_2 (K : KT ρ) : f36i N (f36c 642239) f36p35 (f36s13 v6 v9 v8 v12 v40 v41 v42 v52 v53 v2_0 v2_1 v2_2 v13_0 v13_1 v13_2) (joinK (some f36l13) K) =
  impl_GVectorsOf.Z35 N v6 v9 v8 v12 v40 v41 v42 v52 v53 v2_0 v2_1 v2_2 v13_0 v13_1 v13_2 (fun v6 v9 v8 v12 v40 v41 v42 v52 v53 v2_0 v2_1 v2_2 v13_0 v13_1 v13_2 => K .nrm (f36s13 v6 v9 v8 v12 v40 v41 v42 v52 v53 v2_0 v2_1 v2_2 v13_0 v13_1 v13_2)) (fun v6 v9 v8 v40 v41 v42 v2_0 v2_1 v2_2 => K (.exit 4) (f36s9 v6 v9 v8 v40 v41 v42 v2_0 v2_1 v2_2)) :=
 viaSeqS (fun k => impl_GVectorsOf.Z36 N v6 v9 v8 v12 v40 v41 v42 v52 v53 v2_0 v2_1 v2_2 v13_0 v13_1 v13_2 k) (by kernel_rfl) (f36t36 N (K := seqK (fun σ => f36i N (f36c 1690815) f36p37 σ (joinK (some f36l13) K)) (joinK (some f36l13) K)) ..) (fx16 fun v6 v9 v8 v12 v40 v41 v42 v52 v53 v54 v2_0 v2_1 v2_2 v13_0 v13_1 v13_2 => f36t37 N v6 v9 v8 v12 v40 v41 v42 v52 v53 v54 v2_0 v2_1 v2_2 v13_0 v13_1 v13_2 K) (by kernel_rfl)
noncomputable def f36p34 : Plan := .mk none (some f36l13) f36p35 .n
noncomputable abbrev f36w34 {ρ : Type} (N M : Nat) (σ : St) (K : KT ρ) : Option ρ := loopC (fun σ K => f36i N (f36c 642239) f36p35 σ K) f36l13 M σ K
theorem f36t34L {ρ : Type} (N : Nat) (K : KT ρ) : ∀ (M : Nat) (v6 : LM) (v9 : LL) (v8 v12 : Int) (v40 : LI) (v41 v42 v52 v53 v2_0 v2_1 : Int) (v2_2 : LI) (v13_0 v13_1 : Int) (v13_2 : LI), f36w34 N M (f36s13 v6 v9 v8 v12 v40 v41 v42 v52 v53 v2_0 v2_1 v2_2 v13_0 v13_1 v13_2) K =
  impl_GVectorsOf.Z34L N (fun v6 v9 v8 v40 v41 v42 v2_0 v2_1 v2_2 => K (.exit 4) (f36s9 v6 v9 v8 v40 v41 v42 v2_0 v2_1 v2_2)) M v6 v9 v8 v12 v40 v41 v42 v52 v53 v2_0 v2_1 v2_2 v13_0 v13_1 v13_2
  | 0, _, _, _, _, _, _, _, _, _, _, _, _, _, _, _ => rfl
  | M + 1, v6, v9, v8, v12, v40, v41, v42, v52, v53, v2_0, v2_1, v2_2, v13_0, v13_1, v13_2 => viaRoundS (fun k => impl_GVectorsOf.Z35 N v6 v9 v8 v12 v40 v41 v42 v52 v53 v2_0 v2_1 v2_2 v13_0 v13_1 v13_2 k (fun v6 v9 v8 v40 v41 v42 v2_0 v2_1 v2_2 => K (.exit 4) (f36s9 v6 v9 v8 v40 v41 v42 v2_0 v2_1 v2_2))) (f36t35 N (K := seqK (fun σ => f36w34 N M σ K) K) ..) (fx15 fun v6 v9 v8 v12 v40 v41 v42 v52 v53 v2_0 v2_1 v2_2 v13_0 v13_1 v13_2 => f36t34L N K M v6 v9 v8 v12 v40 v41 v42 v52 v53 v2_0 v2_1 v2_2 v13_0 v13_1 v13_2) (by kernel_rfl)
theorem f36t34 N v6 v9 v8 v12 v40 v41 v42 v52 v53 v2_0 v2_1 v2_2 v13_0 v13_1 v13_2 (K : KT ρ) : f36i N (f36c 380095) f36p34 (f36s13 v6 v9 v8 v12 v40 v41 v42 v52 v53 v2_0 v2_1 v2_2 v13_0 v13_1 v13_2) (joinK (some f36l9) K) =
  impl_GVectorsOf.Z34 N v6 v9 v8 v12 v40 v41 v42 v52 v53 v2_0 v2_1 v2_2 v13_0 v13_1 v13_2 (fun v6 v9 v8 v40 v41 v42 v2_0 v2_1 v2_2 => K (.exit 4) (f36s9 v6 v9 v8 v40 v41 v42 v2_0 v2_1 v2_2)) :=
 viaLoopS (by kernel_rfl) (f36t34L N (joinK (some f36l9) K) N v6 v9 v8 v12 v40 v41 v42 v52 v53 v2_0 v2_1 v2_2 v13_0 v13_1 v13_2) (by kernel_rfl)
noncomputable def f36p33 : Plan := .mk (some f36l9) none f36p34 .n
theorem f36t33 N v6 v9 v8 v12 v40 v41 v42 v52 v53 v2_0 v2_1 v2_2 v13_0 v13_1 v13_2 (K : KT ρ) : f36i N (f36c 249023) f36p33 (f36s13 v6 v9 v8 v12 v40 v41 v42 v52 v53 v2_0 v2_1 v2_2 v13_0 v13_1 v13_2) (joinK (some f36l9) K) =
  impl_GVectorsOf.Z33 N v6 v9 v8 v12 v40 v41 v42 v52 v53 v2_0 v2_1 v2_2 v13_0 v13_1 v13_2 (fun v6 v9 v8 v40 v41 v42 v2_0 v2_1 v2_2 => K .nrm (f36s9 v6 v9 v8 v40 v41 v42 v2_0 v2_1 v2_2)) :=
 viaBlockS (by kernel_rfl) (f36t34 N (K := blockK 4 (joinK (some f36l9) K)) ..) (by kernel_rfl)
noncomputable def f36p31 : Plan := .mk (some f36l13) none .n f36p33
theorem f36t31 N v6 v9 v8 v12 v40 v41 v42 v2_0 v2_1 v2_2 v13_0 v13_1 v13_2 (K : KT ρ) : f36i N (f36c 117951) f36p31 (f36s12 v6 v9 v8 v12 v40 v41 v42 v2_0 v2_1 v2_2 v13_0 v13_1 v13_2) (joinK (some f36l9) K) =
  impl_GVectorsOf.Z31 N v6 v9 v8 v12 v40 v41 v42 v2_0 v2_1 v2_2 v13_0 v13_1 v13_2 (fun v6 v9 v8 v40 v41 v42 v2_0 v2_1 v2_2 => K .nrm (f36s9 v6 v9 v8 v40 v41 v42 v2_0 v2_1 v2_2)) :=
 viaSeqS (fun k => impl_GVectorsOf.Z32 N v6 v9 v8 v12 v40 v41 v42 v2_0 v2_1 v2_2 v13_0 v13_1 v13_2 k) (by kernel_rfl) (f36t32 N (K := seqK (fun σ => f36i N (f36c 249023) f36p33 σ (joinK (some f36l9) K)) (joinK (some f36l9) K)) ..) (fx15 fun v6 v9 v8 v12 v40 v41 v42 v52 v53 v2_0 v2_1 v2_2 v13_0 v13_1 v13_2 => f36t33 N v6 v9 v8 v12 v40 v41 v42 v52 v53 v2_0 v2_1 v2_2 v13_0 v13_1 v13_2 K) (by kernel_rfl)
noncomputable def f36p29 : Plan := .mk (some f36l12) none .n f36p31
theorem f36t29 N v6 v9 v8 v11 v12 v40 v41 v42 v2_0 v2_1 v2_2 (K : KT ρ) : f36i N (f36c 52415) f36p29 (f36s11 v6 v9 v8 v11 v12 v40 v41 v42 v2_0 v2_1 v2_2) (joinK (some f36l9) K) =
  impl_GVectorsOf.Z29 N v6 v9 v8 v11 v12 v40 v41 v42 v2_0 v2_1 v2_2 (fun v6 v9 v8 v40 v41 v42 v2_0 v2_1 v2_2 => K .nrm (f36s9 v6 v9 v8 v40 v41 v42 v2_0 v2_1 v2_2)) :=
 viaSeqS (fun k => impl_GVectorsOf.Z30 N v6 v9 v8 v11 v12 v40 v41 v42 v2_0 v2_1 v2_2 k) (by kernel_rfl) (f36t30 N (K := seqK (fun σ => f36i N (f36c 117951) f36p31 σ (joinK (some f36l9) K)) (joinK (some f36l9) K)) ..) (fx13 fun v6 v9 v8 v12 v40 v41 v42 v2_0 v2_1 v2_2 v13_0 v13_1 v13_2 => f36t31 N v6 v9 v8 v12 v40 v41 v42 v2_0 v2_1 v2_2 v13_0 v13_1 v13_2 K) (by kernel_rfl)
noncomputable def f36p27 : Plan := .mk (some f36l11) none .n f36p29
theorem f36t27 N v6 v9 v8 v40 v41 v42 v2_0 v2_1 v2_2 (K : KT ρ) : f36i N (f36c 19647) f36p27 (f36s9 v6 v9 v8 v40 v41 v42 v2_0 v2_1 v2_2) (joinK (some f36l9) K) =
  impl_GVectorsOf.Z27 N v6 v9 v8 v40 v41 v42 v2_0 v2_1 v2_2 (fun v6 v9 v8 v40 v41 v42 v2_0 v2_1 v2_2 => K .nrm (f36s9 v6 v9 v8 v40 v41 v42 v2_0 v2_1 v2_2)) :=
 viaSeqS (fun k => impl_GVectorsOf.Z28 N v6 v9 v8 v40 v41 v42 v2_0 v2_1 v2_2 k) (by kernel_rfl) (f36t28 N (K := seqK (fun σ => f36i N (f36c 52415) f36p29 σ (joinK (some f36l9) K)) (joinK (some f36l9) K)) ..) (fx11 fun v6 v9 v8 v11 v12 v40 v41 v42 v2_0 v2_1 v2_2 => f36t29 N v6 v9 v8 v11 v12 v40 v41 v42 v2_0 v2_1 v2_2 K) (by kernel_rfl)
noncomputable def f36p26 : Plan := .mk (some f36l9) none f36p27 .n
theorem f36t26 N v6 v9 v8 v40 v41 v42 v2_0 v2_1 v2_2 (K : KT ρ) : f36i N (f36c 11455) f36p26 (f36s9 v6 v9 v8 v40 v41 v42 v2_0 v2_1 v2_2) (joinK (some f36l9) K) =
  impl_GVectorsOf.Z26 N v6 v9 v8 v40 v41 v42 v2_0 v2_1 v2_2 (fun v6 v9 v8 v40 v41 v42 v2_0 v2_1 v2_2 => K .nrm (f36s9 v6 v9 v8 v40 v41 v42 v2_0 v2_1 v2_2)) :=
 viaBlockS (by kernel_rfl) (f36t27 N (K := blockK 3 (joinK (some f36l9) K)) ..) (by kernel_rfl)
theorem f36t53 N v6 v9 v8 v40 v41 v42 v2_0 v2_1 v2_2 (K : KT ρ) : f36i N (f36c 15551) .n (f36s9 v6 v9 v8 v40 v41 v42 v2_0 v2_1 v2_2) (joinK (some f36l9) K) =
  impl_GVectorsOf.Z53 N v6 v9 v8 v40 v41 v42 v2_0 v2_1 v2_2 (fun v6 v9 v8 v40 v41 v42 v2_0 v2_1 v2_2 => K .nrm (f36s9 v6 v9 v8 v40 v41 v42 v2_0 v2_1 v2_2)) := by kernel_rfl
noncomputable def f36p25 : Plan := .mk (some f36l9) none f36p26 .n
theorem f36t25 N v6 v9 v8 v40 v41 v42 v2_0 v2_1 v2_2 (K : KT ρ) : f36i N (f36c 7359) f36p25 (f36s9 v6 v9 v8 v40 v41 v42 v2_0 v2_1 v2_2) (joinK (some f36l9) K) =
  impl_GVectorsOf.Z25 N v6 v9 v8 v40 v41 v42 v2_0 v2_1 v2_2 (fun v6 v9 v8 v40 v41 v42 v2_0 v2_1 v2_2 => K .nrm (f36s9 v6 v9 v8 v40 v41 v42 v2_0 v2_1 v2_2)) :=
 viaSeqS (fun k => impl_GVectorsOf.Z26 N v6 v9 v8 v40 v41 v42 v2_0 v2_1 v2_2 k) (by kernel_rfl) (f36t26 N (K := seqK (fun σ => f36i N (f36c 15551) .n σ (joinK (some f36l9) K)) (joinK (some f36l9) K)) ..) (fx9 fun v6 v9 v8 v40 v41 v42 v2_0 v2_1 v2_2 => f36t53 N v6 v9 v8 v40 v41 v42 v2_0 v2_1 v2_2 K) (by kernel_rfl)
noncomputable def f36p23 : Plan := .mk (some f36l9) none .n f36p25
theorem f36t23 N v6 v9 v8 v40 v41 v42 v43 v2_0 v2_1 v2_2 (K : KT ρ) : f36i N (f36c 3263) f36p23 (f36s10 v6 v9 v8 v40 v41 v42 v43 v2_0 v2_1 v2_2) (joinK (some f36l9) K) =
  impl_GVectorsOf.Z23 N v6 v9 v8 v40 v41 v42 v43 v2_0 v2_1 v2_2 (fun v6 v9 v8 v40 v41 v42 v2_0 v2_1 v2_2 => K .nrm (f36s9 v6 v9 v8 v40 v41 v42 v2_0 v2_1 v2_2)) (fun v9 => K (.exit 2) (f36s18 v9)) :=
 viaSeqS (fun k => impl_GVectorsOf.Z24 N v6 v9 v8 v40 v41 v42 v43 v2_0 v2_1 v2_2 k (fun v9 => K (.exit 2) (f36s18 v9))) (by kernel_rfl) (f36t24 N (K := seqK (fun σ => f36i N (f36c 7359) f36p25 σ (joinK (some f36l9) K)) (joinK (some f36l9) K)) ..) (fx9 fun v6 v9 v8 v40 v41 v42 v2_0 v2_1 v2_2 => f36t25 N v6 v9 v8 v40 v41 v42 v2_0 v2_1 v2_2 K) (by kernel_rfl)
noncomputable def f36p21 : Plan := .mk (some f36l10) none .n f36p23
theorem f36t21 N v6 v9 v8 v40 v41 v42 v2_0 v2_1 v2_2 (K : KT ρ) : f36i N (f36c 1215) f36p21 (f36s9 v6 v9 v8 v40 v41 v42 v2_0 v2_1 v2_2) (joinK (some f36l9) K) =
  impl_GVectorsOf.Z21 N v6 v9 v8 v40 v41 v42 v2_0 v2_1 v2_2 (fun v6 v9 v8 v40 v41 v42 v2_0 v2_1 v2_2 => K .nrm (f36s9 v6 v9 v8 v40 v41 v42 v2_0 v2_1 v2_2)) (fun v9 => K (.exit 2) (f36s18 v9)) :=
 viaSeqS (fun k => impl_GVectorsOf.Z22 N v6 v9 v8 v40 v41 v42 v2_0 v2_1 v2_2 k) (by kernel_rfl) (f36t22 N (K := seqK (fun σ => f36i N (f36c 3263) f36p23 σ (joinK (some f36l9) K)) (joinK (some f36l9) K)) ..) (fx10 fun v6 v9 v8 v40 v41 v42 v43 v2_0 v2_1 v2_2 => f36t23 N v6 v9 v8 v40 v41 v42 v43 v2_0 v2_1 v2_2 K) (by kernel_rfl)
noncomputable def f36p20 : Plan := .mk none (some f36l9) f36p21 .n
noncomputable abbrev f36w20 {ρ : Type} (N M : Nat) (σ : St) (K : KT ρ) : Option ρ := loopC (fun σ K => f36i N (f36c 1215) f36p21 σ K) f36l9 M σ K
theorem f36t20L {ρ : Type} (N : Nat) (K : KT ρ) : ∀ (M : Nat) (v6 : LM) (v9 : LL) (v8 : Int) (v40 : LI) (v41 v42 v2_0 v2_1 : Int) (v2_2 : LI), f36w20 N M (f36s9 v6 v9 v8 v40 v41 v42 v2_0 v2_1 v2_2) K =
  impl_GVectorsOf.Z20L N (fun v9 => K (.exit 2) (f36s18 v9)) M v6 v9 v8 v40 v41 v42 v2_0 v2_1 v2_2
  | 0, _, _, _, _, _, _, _, _, _ => rfl
  | M + 1, v6, v9, v8, v40, v41, v42, v2_0, v2_1, v2_2 => viaRoundS (fun k => impl_GVectorsOf.Z21 N v6 v9 v8 v40 v41 v42 v2_0 v2_1 v2_2 k (fun v9 => K (.exit 2) (f36s18 v9))) (f36t21 N (K := seqK (fun σ => f36w20 N M σ K) K) ..) (fx9 fun v6 v9 v8 v40 v41 v42 v2_0 v2_1 v2_2 => f36t20L N K M v6 v9 v8 v40 v41 v42 v2_0 v2_1 v2_2) (by kernel_rfl)
theorem f36t20 N v6 v9 v8 v40 v41 v42 v2_0 v2_1 v2_2 (K : KT ρ) : f36i N (f36c 703) f36p20 (f36s9 v6 v9 v8 v40 v41 v42 v2_0 v2_1 v2_2) (joinK (some f36l18) K) =
  impl_GVectorsOf.Z20 N v6 v9 v8 v40 v41 v42 v2_0 v2_1 v2_2 (fun v9 => K (.exit 2) (f36s18 v9)) :=
 viaLoopS (by kernel_rfl) (f36t20L N (joinK (some f36l18) K) N v6 v9 v8 v40 v41 v42 v2_0 v2_1 v2_2) (by kernel_rfl)
noncomputable def f36p19 : Plan := .mk (some f36l18) none f36p20 .n
theorem f36t19 N v6 v9 v8 v40 v41 v42 v2_0 v2_1 v2_2 (K : KT ρ) : f36i N (f36c 447) f36p19 (f36s9 v6 v9 v8 v40 v41 v42 v2_0 v2_1 v2_2) (joinK (some f36l18) K) =
  impl_GVectorsOf.Z19 N v6 v9 v8 v40 v41 v42 v2_0 v2_1 v2_2 (fun v9 => K .nrm (f36s18 v9)) :=
 viaBlockS (by kernel_rfl) (f36t20 N (K := blockK 2 (joinK (some f36l18) K)) ..) (by kernel_rfl)
noncomputable def f36p17 : Plan := .mk (some f36l9) none .n f36p19
theorem f36t17 N v6 v9 v1 v8 v2_0 v2_1 v2_2 (K : KT ρ) : f36i N (f36c 191) f36p17 (f36s8 v6 v9 v1 v8 v2_0 v2_1 v2_2) (joinK (some f36l18) K) =
  impl_GVectorsOf.Z17 N v6 v9 v1 v8 v2_0 v2_1 v2_2 (fun v9 => K .nrm (f36s18 v9)) :=
 viaSeqS (fun k => impl_GVectorsOf.Z18 N v6 v9 v1 v8 v2_0 v2_1 v2_2 k) (by kernel_rfl) (f36t18 N (K := seqK (fun σ => f36i N (f36c 447) f36p19 σ (joinK (some f36l18) K)) (joinK (some f36l18) K)) ..) (fx9 fun v6 v9 v8 v40 v41 v42 v2_0 v2_1 v2_2 => f36t19 N v6 v9 v8 v40 v41 v42 v2_0 v2_1 v2_2 K) (by kernel_rfl)
theorem f36t54 N v9 (K : KT ρ) : f36i N (f36c 255) .n (f36s18 v9) (joinK (some f36lE) K) =
  impl_GVectorsOf.Z54 N v9 (fun v4 v5 => K .ret (f36s19 v4 v5)) := by kernel_rfl
noncomputable def f36p16 : Plan := .mk (some f36l18) none f36p17 .n
theorem f36t16 N v6 v9 v1 v8 v2_0 v2_1 v2_2 (K : KT ρ) : f36i N (f36c 127) f36p16 (f36s8 v6 v9 v1 v8 v2_0 v2_1 v2_2) (joinK (some f36lE) K) =
  impl_GVectorsOf.Z16 N v6 v9 v1 v8 v2_0 v2_1 v2_2 (fun v4 v5 => K .ret (f36s19 v4 v5)) :=
 viaSeqS (fun k => impl_GVectorsOf.Z17 N v6 v9 v1 v8 v2_0 v2_1 v2_2 k) (by kernel_rfl) (f36t17 N (K := seqK (fun σ => f36i N (f36c 255) .n σ (joinK (some f36lE) K)) (joinK (some f36lE) K)) ..) (funext fun v9 => f36t54 N v9 K) (by kernel_rfl)
noncomputable def f36p10 : Plan := .mk (some f36l8) none f36p11 f36p16
theorem f36t10 N v6 v1 v8 v2_0 v2_1 v2_2 (K : KT ρ) : f36i N (f36c 63) f36p10 (f36s5 v6 v1 v8 v2_0 v2_1 v2_2) (joinK (some f36lE) K) =
  impl_GVectorsOf.Z10 N v6 v1 v8 v2_0 v2_1 v2_2 (fun v4 v5 => K .ret (f36s19 v4 v5)) :=
 viaSeqS (fun k => impl_GVectorsOf.Z11 N v6 v1 v8 v2_0 v2_1 v2_2 k) (by kernel_rfl) (f36t11 N (K := seqK (fun σ => f36i N (f36c 127) f36p16 σ (joinK (some f36lE) K)) (joinK (some f36lE) K)) ..) (fx7 fun v6 v9 v1 v8 v2_0 v2_1 v2_2 => f36t16 N v6 v9 v1 v8 v2_0 v2_1 v2_2 K) (by kernel_rfl)
noncomputable def f36p8 : Plan := .mk (some f36l5) none .n f36p10
theorem f36t8 N v6 v1 v8 v2_0 v2_1 v2_2 (K : KT ρ) : f36i N (f36c 31) f36p8 (f36s4 v6 v1 v8 v2_0 v2_1 v2_2) (joinK (some f36lE) K) =
  impl_GVectorsOf.Z8 N v6 v1 v8 v2_0 v2_1 v2_2 (fun v4 v5 => K .ret (f36s19 v4 v5)) :=
 viaSeqS (fun k => impl_GVectorsOf.Z9 N v6 v1 v8 v2_0 v2_1 v2_2 k) (by kernel_rfl) (f36t9 N (K := seqK (fun σ => f36i N (f36c 63) f36p10 σ (joinK (some f36lE) K)) (joinK (some f36lE) K)) ..) (fx6 fun v6 v1 v8 v2_0 v2_1 v2_2 => f36t10 N v6 v1 v8 v2_0 v2_1 v2_2 K) (by kernel_rfl)
noncomputable def f36p6 : Plan := .mk (some f36l4) none .n f36p8
theorem f36t6 N v6 v1 v2_0 v2_1 v2_2 (K : KT ρ) : f36i N (f36c 15) f36p6 (f36s3 v6 v1 v2_0 v2_1 v2_2) (joinK (some f36lE) K) =
  impl_GVectorsOf.Z6 N v6 v1 v2_0 v2_1 v2_2 (fun v4 v5 => K .ret (f36s19 v4 v5)) :=
 viaSeqS (fun k => impl_GVectorsOf.Z7 N v6 v1 v2_0 v2_1 v2_2 k) (by kernel_rfl) (f36t7 N (K := seqK (fun σ => f36i N (f36c 31) f36p8 σ (joinK (some f36lE) K)) (joinK (some f36lE) K)) ..) (fx6 fun v6 v1 v8 v2_0 v2_1 v2_2 => f36t8 N v6 v1 v8 v2_0 v2_1 v2_2 K) (by kernel_rfl)
noncomputable def f36p4 : Plan := .mk (some f36l3) none .n f36p6
theorem f36t4 N v6 v1 v7 v2_0 v2_1 v2_2 (K : KT ρ) : f36i N (f36c 7) f36p4 (f36s2 v6 v1 v7 v2_0 v2_1 v2_2) (joinK (some f36lE) K) =
  impl_GVectorsOf.Z4 N v6 v1 v7 v2_0 v2_1 v2_2 (fun v4 v5 => K .ret (f36s19 v4 v5)) :=
 viaSeqS (fun k => impl_GVectorsOf.Z5 N v6 v1 v7 v2_0 v2_1 v2_2 k (fun v4 v5 => K .ret (f36s19 v4 v5))) (by kernel_rfl) (f36t5 N (K := seqK (fun σ => f36i N (f36c 15) f36p6 σ (joinK (some f36lE) K)) (joinK (some f36lE) K)) ..) (fx5 fun v6 v1 v2_0 v2_1 v2_2 => f36t6 N v6 v1 v2_0 v2_1 v2_2 K) (by kernel_rfl)
noncomputable def f36p2 : Plan := .mk (some f36l2) none .n f36p4
theorem f36t2 N v1 v2_0 v2_1 v2_2 (K : KT ρ) : f36i N (f36c 3) f36p2 (f36s1 v1 v2_0 v2_1 v2_2) (joinK (some f36lE) K) =
  impl_GVectorsOf.Z2 N v1 v2_0 v2_1 v2_2 (fun v4 v5 => K .ret (f36s19 v4 v5)) :=
 viaSeqS (fun k => impl_GVectorsOf.Z3 N v1 v2_0 v2_1 v2_2 k) (by kernel_rfl) (f36t3 N (K := seqK (fun σ => f36i N (f36c 7) f36p4 σ (joinK (some f36lE) K)) (joinK (some f36lE) K)) ..) (fx6 fun v6 v1 v7 v2_0 v2_1 v2_2 => f36t4 N v6 v1 v7 v2_0 v2_1 v2_2 K) (by kernel_rfl)
noncomputable def f36p0 : Plan := .mk (some f36l1) none .n f36p2
theorem f36t0 N v0 v1 (K : KT ρ) : f36i N (f36c 1) f36p0 (f36s0 v0 v1) (joinK (some f36lE) K) =
  impl_GVectorsOf.Z0 N v0 v1 (fun v4 v5 => K .ret (f36s19 v4 v5)) :=
 viaSeqS (fun k => impl_GVectorsOf.Z1 N v0 v1 k) (by kernel_rfl) (f36t1 N (K := seqK (fun σ => f36i N (f36c 3) f36p2 σ (joinK (some f36lE) K)) (joinK (some f36lE) K)) ..) (fx4 fun v1 v2_0 v2_1 v2_2 => f36t2 N v1 v2_0 v2_1 v2_2 K) (by kernel_rfl)
theorem f36m (N : Nat) (v0 : MT) (v1 : LI) : f36i N (f36c 1) f36p0 (f36s0 v0 v1) (joinK (some f36lE) (finK tab f36sig Try.f36.results.toList)) = impl_GVectorsOf.Z0 N v0 v1 (fun v4 v5 => some ((), (v4, (v5, ())))) :=
  (f36t0 N v0 v1 (finK tab f36sig Try.f36.results.toList)).trans (by kernel_rfl)
theorem f36ok (h : impl_GVectorsOf.Spec) : EntryOk Try.prog 36 e36 :=
  entry_of_code (sig := f36sig) (c := (f36c 1)) (pl := f36p0) (je := (some f36lE)) (B := f36B) Try.func36 (by kernel_rfl) (by kernel_rfl) (by kernel_rfl) tabOk f36GOk (by kernel_rfl) (by kernel_rfl) (by kernel_rfl) (by kernel_rfl) fun X hb hp => by
    obtain ⟨v0, v1, _⟩ := X
    obtain ⟨N, h⟩ := h v0 v1 hb.1 hb.2.1
    exact ⟨N, (f36m N v0 v1).trans (h N (Nat.le_refl N))⟩
theorem e36ok : EntryOk Try.prog 36 e36 := f36ok impl_GVectorsOf.ok
end Go.Fw
namespace Go.Fw
variable {ρ : Type}
open Go.Proofs
noncomputable def f37sig : Sig := ⟨[⟨.sl 3 (.int .i64), false, false⟩, ⟨.sl 3 (.int .i64), false, false⟩], [⟨.bool, false, false⟩]⟩
noncomputable def e37 : Entry := ⟨f37sig, none, fun X => ((), ((laws_eqIntS.g X.1 X.2.1), ()))⟩
noncomputable def f37G : Nat → Option Entry := (fun _ => none)
theorem f37GOk : GOk Try.prog f37G := GOk.nil
noncomputable def f37lE : Clean := ⟨[], [], [], [], []⟩
noncomputable def f37s0 (v0 v1 : LI) : St := initSt f37sig.ps (v0, (v1, ()))
noncomputable def f37s1 (v0 v1 : LI) : St := stOf [(0, .c (.sn 3 tI v0 none)), (1, .c (.sn 3 tI v1 none))] [] []
noncomputable def f37l1 : Clean := ⟨[0, 1], [], [], [], []⟩
noncomputable def f37s2 (v0 v1 : LI) (v5 : Int) : St := stOf [(0, .c (.sn 3 tI v0 none)), (1, .c (.sn 3 tI v1 none)), (5, xi v5)] [] []
noncomputable def f37l2 : Clean := ⟨[0, 1, 5], [], [], [], []⟩
noncomputable def f37s3  : St := stOf [] [] []
noncomputable def f37l3 : Clean := ⟨[], [], [], [], []⟩
noncomputable def f37s4 (v4 : Bool) : St := stOf [(4, xB v4)] [] []
noncomputable def f37l4 : Clean := ⟨[4], [], [], [], []⟩
noncomputable def f37B : Nat → Option Clean := lookL [(0, f37l3), (1000000, f37l4)]
noncomputable abbrev f37i {ρ : Type} (N : Nat) (c : Code) (p : Plan) (σ : St) (K : KT ρ) : Option ρ := iCode f37G tab f37B N c p σ K
noncomputable def f37c (n : Nat) : Code := codeN 99 (bodyOf Try.f37) n
theorem f37t1 N v0 v1 (K : KT ρ) : f37i N (f37c 2) .n (f37s0 v0 v1) (joinK (some f37l1) K) =
  laws_eqIntS.Z1 N v0 v1 (fun v0 v1 => K .nrm (f37s1 v0 v1)) := by kernel_rfl
theorem f37t3 N v0 v1 (K : KT ρ) : f37i N (f37c 5) .n (f37s1 v0 v1) (joinK (some f37l1) K) =
  laws_eqIntS.Z3 N v0 v1 (fun v0 v1 => K .nrm (f37s1 v0 v1)) (fun v4 => K .ret (f37s4 v4)) := by kernel_rfl
theorem f37t6 N v0 v1 (K : KT ρ) : f37i N (f37c 19) .n (f37s1 v0 v1) (joinK (some f37l2) K) =
  laws_eqIntS.Z6 N v0 v1 (fun v0 v1 v5 => K .nrm (f37s2 v0 v1 v5)) := by kernel_rfl
theorem f37t9 N v0 v1 v5 (K : KT ρ) : f37i N (f37c 75) .n (f37s2 v0 v1 v5) (joinK (some f37l2) K) =
  laws_eqIntS.Z9 N v0 v1 v5 (fun v0 v1 v5 => K .nrm (f37s2 v0 v1 v5)) (K (.exit 0) f37s3) (fun v4 => K .ret (f37s4 v4)) := by kernel_rfl
noncomputable def f37p8 : Plan := .mk none (some f37l2) .n .n
noncomputable abbrev f37w8 {ρ : Type} (N M : Nat) (σ : St) (K : KT ρ) : Option ρ := loopC (fun σ K => f37i N (f37c 75) .n σ K) f37l2 M σ K
theorem f37t8L {ρ : Type} (N : Nat) (K : KT ρ) : ∀ (M : Nat) (v0 v1 : LI) (v5 : Int), f37w8 N M (f37s2 v0 v1 v5) K =
  laws_eqIntS.Z8L N (K (.exit 0) f37s3) (fun v4 => K .ret (f37s4 v4)) M v0 v1 v5
  | 0, _, _, _ => rfl
  | M + 1, v0, v1, v5 => viaRoundS (fun k => laws_eqIntS.Z9 N v0 v1 v5 k (K (.exit 0) f37s3) (fun v4 => K .ret (f37s4 v4))) (f37t9 N (K := seqK (fun σ => f37w8 N M σ K) K) ..) (fx3 fun v0 v1 v5 => f37t8L N K M v0 v1 v5) (by kernel_rfl)
theorem f37t8 N v0 v1 v5 (K : KT ρ) : f37i N (f37c 43) f37p8 (f37s2 v0 v1 v5) (joinK (some f37l3) K) =
  laws_eqIntS.Z8 N v0 v1 v5 (K (.exit 0) f37s3) (fun v4 => K .ret (f37s4 v4)) :=
 viaLoopS (by kernel_rfl) (f37t8L N (joinK (some f37l3) K) N v0 v1 v5) (by kernel_rfl)
noncomputable def f37p7 : Plan := .mk (some f37l3) none f37p8 .n
theorem f37t7 N v0 v1 v5 (K : KT ρ) : f37i N (f37c 27) f37p7 (f37s2 v0 v1 v5) (joinK (some f37l3) K) =
  laws_eqIntS.Z7 N v0 v1 v5 (K .nrm f37s3) (fun v4 => K .ret (f37s4 v4)) :=
 viaBlockS (by kernel_rfl) (f37t8 N (K := blockK 0 (joinK (some f37l3) K)) ..) (by kernel_rfl)
noncomputable def f37p5 : Plan := .mk (some f37l2) none .n f37p7
theorem f37t5 N v0 v1 (K : KT ρ) : f37i N (f37c 11) f37p5 (f37s1 v0 v1) (joinK (some f37l3) K) =
  laws_eqIntS.Z5 N v0 v1 (K .nrm f37s3) (fun v4 => K .ret (f37s4 v4)) :=
 viaSeqS (fun k => laws_eqIntS.Z6 N v0 v1 k) (by kernel_rfl) (f37t6 N (K := seqK (fun σ => f37i N (f37c 27) f37p7 σ (joinK (some f37l3) K)) (joinK (some f37l3) K)) ..) (fx3 fun v0 v1 v5 => f37t7 N v0 v1 v5 K) (by kernel_rfl)
theorem f37t10 N  (K : KT ρ) : f37i N (f37c 15) .n f37s3 (joinK (some f37lE) K) =
  laws_eqIntS.Z10 N (fun v4 => K .ret (f37s4 v4)) := by kernel_rfl
noncomputable def f37p4 : Plan := .mk (some f37l3) none f37p5 .n
theorem f37t4 N v0 v1 (K : KT ρ) : f37i N (f37c 7) f37p4 (f37s1 v0 v1) (joinK (some f37lE) K) =
  laws_eqIntS.Z4 N v0 v1 (fun v4 => K .ret (f37s4 v4)) :=
 viaSeqS (fun k => laws_eqIntS.Z5 N v0 v1 k (fun v4 => K .ret (f37s4 v4))) (by kernel_rfl) (f37t5 N (K := seqK (fun σ => f37i N (f37c 15) .n σ (joinK (some f37lE) K)) (joinK (some f37lE) K)) ..) (f37t10 N K) (by kernel_rfl)
noncomputable def f37p2 : Plan := .mk (some f37l1) none .n f37p4
theorem f37t2 N v0 v1 (K : KT ρ) : f37i N (f37c 3) f37p2 (f37s1 v0 v1) (joinK (some f37lE) K) =
  laws_eqIntS.Z2 N v0 v1 (fun v4 => K .ret (f37s4 v4)) :=
 viaSeqS (fun k => laws_eqIntS.Z3 N v0 v1 k (fun v4 => K .ret (f37s4 v4))) (by kernel_rfl) (f37t3 N (K := seqK (fun σ => f37i N (f37c 7) f37p4 σ (joinK (some f37lE) K)) (joinK (some f37lE) K)) ..) (fx2 fun v0 v1 => f37t4 N v0 v1 K) (by kernel_rfl)
noncomputable def f37p0 : Plan := .mk (some f37l1) none .n f37p2
theorem f37t0 N v0 v1 (K : KT ρ) : f37i N (f37c 1) f37p0 (f37s0 v0 v1) (joinK (some f37lE) K) =
  laws_eqIntS.Z0 N v0 v1 (fun v4 => K .ret (f37s4 v4)) :=
 viaSeqS (fun k => laws_eqIntS.Z1 N v0 v1 k) (by kernel_rfl) (f37t1 N (K := seqK (fun σ => f37i N (f37c 3) f37p2 σ (joinK (some f37lE) K)) (joinK (some f37lE) K)) ..) (fx2 fun v0 v1 => f37t2 N v0 v1 K) (by kernel_rfl)
theorem f37m (N : Nat) (v0 v1 : LI) : f37i N (f37c 1) f37p0 (f37s0 v0 v1) (joinK (some f37lE) (finK tab f37sig Try.f37.results.toList)) = laws_eqIntS.Z0 N v0 v1 (fun v4 => some ((), (v4, ()))) :=
  (f37t0 N v0 v1 (finK tab f37sig Try.f37.results.toList)).trans (by kernel_rfl)
theorem f37ok (h : laws_eqIntS.Spec) : EntryOk Try.prog 37 e37 :=
  entry_of_code (sig := f37sig) (c := (f37c 1)) (pl := f37p0) (je := (some f37lE)) (B := f37B) Try.func37 (by kernel_rfl) (by kernel_rfl) (by kernel_rfl) tabOk f37GOk (by kernel_rfl) (by kernel_rfl) (by kernel_rfl) (by kernel_rfl) fun X hb hp => by
    obtain ⟨v0, v1, _⟩ := X
    obtain ⟨N, h⟩ := h v0 v1 hb.1 hb.2.1
    exact ⟨N, (f37m N v0 v1).trans (h N (Nat.le_refl N))⟩
theorem e37ok : EntryOk Try.prog 37 e37 := f37ok laws_eqIntS.ok
end Go.Fw
namespace Go.Fw
variable {ρ : Type}
open Go.Proofs
noncomputable def f20sig : Sig := ⟨[⟨.sl 22 (.sl 3 (.int .i64)), false, false⟩, ⟨.sl 22 (.sl 3 (.int .i64)), false, false⟩], [⟨.bool, false, false⟩]⟩
noncomputable def e20 : Entry := ⟨f20sig, none, fun X => ((), ((laws_eqIntSS.g X.1 X.2.1), ()))⟩
noncomputable def f20G : Nat → Option Entry := addG (fun _ => none) 37 e37
theorem f20GOk : GOk Try.prog f20G := (GOk.nil).add e37ok (by kernel_rfl)
noncomputable def f20lE : Clean := ⟨[], [], [], [], []⟩
noncomputable def f20s0 (v0 v1 : LL) : St := initSt f20sig.ps (v0, (v1, ()))
noncomputable def f20s1 (v0 v1 : LL) : St := stOf [(0, .c (.sn 22 (.sl 3 tI) v0 none)), (1, .c (.sn 22 (.sl 3 tI) v1 none))] [] []
noncomputable def f20l1 : Clean := ⟨[0, 1], [], [], [], []⟩
noncomputable def f20s2 (v0 v1 : LL) (v5 : Int) : St := stOf [(0, .c (.sn 22 (.sl 3 tI) v0 none)), (1, .c (.sn 22 (.sl 3 tI) v1 none)), (5, xi v5)] [] []
noncomputable def f20l2 : Clean := ⟨[0, 1, 5], [], [], [], []⟩
noncomputable def f20s3  : St := stOf [] [] []
noncomputable def f20l3 : Clean := ⟨[], [], [], [], []⟩
noncomputable def f20s4 (v4 : Bool) : St := stOf [(4, xB v4)] [] []
noncomputable def f20l4 : Clean := ⟨[4], [], [], [], []⟩
noncomputable def f20B : Nat → Option Clean := lookL [(0, f20l3), (1000000, f20l4)]
noncomputable abbrev f20i {ρ : Type} (N : Nat) (c : Code) (p : Plan) (σ : St) (K : KT ρ) : Option ρ := iCode f20G tab f20B N c p σ K
noncomputable def f20c (n : Nat) : Code := codeN 99 (bodyOf Try.f20) n
theorem f20t1 N v0 v1 (K : KT ρ) : f20i N (f20c 2) .n (f20s0 v0 v1) (joinK (some f20l1) K) =
  laws_eqIntSS.Z1 N v0 v1 (fun v0 v1 => K .nrm (f20s1 v0 v1)) := by kernel_rfl
theorem f20t3 N v0 v1 (K : KT ρ) : f20i N (f20c 5) .n (f20s1 v0 v1) (joinK (some f20l1) K) =
  laws_eqIntSS.Z3 N v0 v1 (fun v0 v1 => K .nrm (f20s1 v0 v1)) (fun v4 => K .ret (f20s4 v4)) := by kernel_rfl
theorem f20t6 N v0 v1 (K : KT ρ) : f20i N (f20c 19) .n (f20s1 v0 v1) (joinK (some f20l2) K) =
  laws_eqIntSS.Z6 N v0 v1 (fun v0 v1 v5 => K .nrm (f20s2 v0 v1 v5)) := by kernel_rfl
theorem f20t9 N v0 v1 v5 (K : KT ρ) : f20i N (f20c 75) .n (f20s2 v0 v1 v5) (joinK (some f20l2) K) =
  laws_eqIntSS.Z9 N v0 v1 v5 (fun v0 v1 v5 => K .nrm (f20s2 v0 v1 v5)) (K (.exit 0) f20s3) (fun v4 => K .ret (f20s4 v4)) := by kernel_rfl
noncomputable def f20p8 : Plan := .mk none (some f20l2) .n .n
noncomputable abbrev f20w8 {ρ : Type} (N M : Nat) (σ : St) (K : KT ρ) : Option ρ := loopC (fun σ K => f20i N (f20c 75) .n σ K) f20l2 M σ K
theorem f20t8L {ρ : Type} (N : Nat) (K : KT ρ) : ∀ (M : Nat) (v0 v1 : LL) (v5 : Int), f20w8 N M (f20s2 v0 v1 v5) K =
  laws_eqIntSS.Z8L N (K (.exit 0) f20s3) (fun v4 => K .ret (f20s4 v4)) M v0 v1 v5
  | 0, _, _, _ => rfl
  | M + 1, v0, v1, v5 => viaRoundS (fun k => laws_eqIntSS.Z9 N v0 v1 v5 k (K (.exit 0) f20s3) (fun v4 => K .ret (f20s4 v4))) (f20t9 N (K := seqK (fun σ => f20w8 N M σ K) K) ..) (fx3 fun v0 v1 v5 => f20t8L N K M v0 v1 v5) (by kernel_rfl)
theorem f20t8 N v0 v1 v5 (K : KT ρ) : f20i N (f20c 43) f20p8 (f20s2 v0 v1 v5) (joinK (some f20l3) K) =
  laws_eqIntSS.Z8 N v0 v1 v5 (K (.exit 0) f20s3) (fun v4 => K .ret (f20s4 v4)) :=
 viaLoopS (by kernel_rfl) (f20t8L N (joinK (some f20l3) K) N v0 v1 v5) (by kernel_rfl)
noncomputable def f20p7 : Plan := .mk (some f20l3) none f20p8 .n
theorem f20t7 N v0 v1 v5 (K : KT ρ) : f20i N (f20c 27) f20p7 (f20s2 v0 v1 v5) (joinK (some f20l3) K) =
  laws_eqIntSS.Z7 N v0 v1 v5 (K .nrm f20s3) (fun v4 => K .ret (f20s4 v4)) :=
 viaBlockS (by kernel_rfl) (f20t8 N (K := blockK 0 (joinK (some f20l3) K)) ..) (by kernel_rfl)
noncomputable def f20p5 : Plan := .mk (some f20l2) none .n f20p7
theorem f20t5 N v0 v1 (K : KT ρ) : f20i N (f20c 11) f20p5 (f20s1 v0 v1) (joinK (some f20l3) K) =
  laws_eqIntSS.Z5 N v0 v1 (K .nrm f20s3) (fun v4 => K .ret (f20s4 v4)) :=
 viaSeqS (fun k => laws_eqIntSS.Z6 N v0 v1 k) (by kernel_rfl) (f20t6 N (K := seqK (fun σ => f20i N (f20c 27) f20p7 σ (joinK (some f20l3) K)) (joinK (some f20l3) K)) ..) (fx3 fun v0 v1 v5 => f20t7 N v0 v1 v5 K) (by kernel_rfl)
theorem f20t10 N  (K : KT ρ) : f20i N (f20c 15) .n f20s3 (joinK (some f20lE) K) =
  laws_eqIntSS.Z10 N (fun v4 => K .ret (f20s4 v4)) := by kernel_rfl
noncomputable def f20p4 : Plan := .mk (some f20l3) none f20p5 .n
theorem f20t4 N v0 v1 (K : KT ρ) : f20i N (f20c 7) f20p4 (f20s1 v0 v1) (joinK (some f20lE) K) =
  laws_eqIntSS.Z4 N v0 v1 (fun v4 => K .ret (f20s4 v4)) :=
 viaSeqS (fun k => laws_eqIntSS.Z5 N v0 v1 k (fun v4 => K .ret (f20s4 v4))) (by kernel_rfl) (f20t5 N (K := seqK (fun σ => f20i N (f20c 15) .n σ (joinK (some f20lE) K)) (joinK (some f20lE) K)) ..) (f20t10 N K) (by kernel_rfl)
noncomputable def f20p2 : Plan := .mk (some f20l1) none .n f20p4
theorem f20t2 N v0 v1 (K : KT ρ) : f20i N (f20c 3) f20p2 (f20s1 v0 v1) (joinK (some f20lE) K) =
  laws_eqIntSS.Z2 N v0 v1 (fun v4 => K .ret (f20s4 v4)) :=
 viaSeqS (fun k => laws_eqIntSS.Z3 N v0 v1 k (fun v4 => K .ret (f20s4 v4))) (by kernel_rfl) (f20t3 N (K := seqK (fun σ => f20i N (f20c 7) f20p4 σ (joinK (some f20lE) K)) (joinK (some f20lE) K)) ..) (fx2 fun v0 v1 => f20t4 N v0 v1 K) (by kernel_rfl)
noncomputable def f20p0 : Plan := .mk (some f20l1) none .n f20p2
theorem f20t0 N v0 v1 (K : KT ρ) : f20i N (f20c 1) f20p0 (f20s0 v0 v1) (joinK (some f20lE) K) =
  laws_eqIntSS.Z0 N v0 v1 (fun v4 => K .ret (f20s4 v4)) :=
 viaSeqS (fun k => laws_eqIntSS.Z1 N v0 v1 k) (by kernel_rfl) (f20t1 N (K := seqK (fun σ => f20i N (f20c 3) f20p2 σ (joinK (some f20lE) K)) (joinK (some f20lE) K)) ..) (fx2 fun v0 v1 => f20t2 N v0 v1 K) (by kernel_rfl)
theorem f20m (N : Nat) (v0 v1 : LL) : f20i N (f20c 1) f20p0 (f20s0 v0 v1) (joinK (some f20lE) (finK tab f20sig Try.f20.results.toList)) = laws_eqIntSS.Z0 N v0 v1 (fun v4 => some ((), (v4, ()))) :=
  (f20t0 N v0 v1 (finK tab f20sig Try.f20.results.toList)).trans (by kernel_rfl)
theorem f20ok (h : laws_eqIntSS.Spec) : EntryOk Try.prog 20 e20 :=
  entry_of_code (sig := f20sig) (c := (f20c 1)) (pl := f20p0) (je := (some f20lE)) (B := f20B) Try.func20 (by kernel_rfl) (by kernel_rfl) (by kernel_rfl) tabOk f20GOk (by kernel_rfl) (by kernel_rfl) (by kernel_rfl) (by kernel_rfl) fun X hb hp => by
    obtain ⟨v0, v1, _⟩ := X
    obtain ⟨N, h⟩ := h v0 v1 hb.1 hb.2.1
    exact ⟨N, (f20m N v0 v1).trans (h N (Nat.le_refl N))⟩
theorem e20ok : EntryOk Try.prog 20 e20 := f20ok laws_eqIntSS.ok
end Go.Fw
namespace Go.Fw
variable {ρ : Type}
open Go.Proofs
noncomputable def f21sig : Sig := ⟨[⟨.pair (.int .i64) (.pair (.int .i64) (.sl 3 (.int .i64))), true, false⟩, ⟨.pair (.int .i64) (.pair (.int .i64) (.sl 3 (.int .i64))), true, false⟩], [⟨.bool, false, false⟩]⟩
noncomputable def e21 : Entry := ⟨f21sig, none, fun X => ((), ((laws_eqMatrix.g X.1 X.2.1), ()))⟩
noncomputable def f21G : Nat → Option Entry := addG (fun _ => none) 37 e37
theorem f21GOk : GOk Try.prog f21G := (GOk.nil).add e37ok (by kernel_rfl)
noncomputable def f21lE : Clean := ⟨[], [], [], [], []⟩
noncomputable def f21s0 (v0 v1 : MT) : St := initSt f21sig.ps (v0, (v1, ()))
noncomputable def f21s1 (v4 : Bool) : St := stOf [(4, xB v4)] [] []
noncomputable def f21l1 : Clean := ⟨[4], [], [], [], []⟩
noncomputable def f21B : Nat → Option Clean := lookL [(1000000, f21l1)]
noncomputable abbrev f21i {ρ : Type} (N : Nat) (c : Code) (p : Plan) (σ : St) (K : KT ρ) : Option ρ := iCode f21G tab f21B N c p σ K
noncomputable def f21c (n : Nat) : Code := codeN 99 (bodyOf Try.f21) n
theorem f21t0 N v0 v1 (K : KT ρ) : f21i N (f21c 1) .n (f21s0 v0 v1) (joinK (some f21lE) K) =
  laws_eqMatrix.Z0 N v0 v1 (fun v4 => K .ret (f21s1 v4)) := by kernel_rfl
theorem f21m (N : Nat) (v0 v1 : MT) : f21i N (f21c 1) .n (f21s0 v0 v1) (joinK (some f21lE) (finK tab f21sig Try.f21.results.toList)) = laws_eqMatrix.Z0 N v0 v1 (fun v4 => some ((), (v4, ()))) :=
  (f21t0 N v0 v1 (finK tab f21sig Try.f21.results.toList)).trans (by kernel_rfl)
theorem f21ok (h : laws_eqMatrix.Spec) : EntryOk Try.prog 21 e21 :=
  entry_of_code (sig := f21sig) (c := (f21c 1)) (pl := .n) (je := (some f21lE)) (B := f21B) Try.func21 (by kernel_rfl) (by kernel_rfl) (by kernel_rfl) tabOk f21GOk (by kernel_rfl) (by kernel_rfl) (by kernel_rfl) (by kernel_rfl) fun X hb hp => by
    obtain ⟨v0, v1, _⟩ := X
    obtain ⟨N, h⟩ := h v0 v1 hb.1 hb.2.1
    exact ⟨N, (f21m N v0 v1).trans (h N (Nat.le_refl N))⟩
theorem e21ok : EntryOk Try.prog 21 e21 := f21ok laws_eqMatrix.ok
end Go.Fw
namespace Go.Fw
variable {ρ : Type}
open Go.Proofs
noncomputable def f38sig : Sig := ⟨[⟨.sl 3 (.int .i64), false, true⟩, ⟨.int .i64, false, false⟩], [⟨.int .i64, false, false⟩]⟩
noncomputable def e38 : Entry := ⟨f38sig, none, fun X => ((laws_markIntS.g X.1 X.2.1).1, ((laws_markIntS.g X.1 X.2.1).2, ()))⟩
noncomputable def f38G : Nat → Option Entry := (fun _ => none)
theorem f38GOk : GOk Try.prog f38G := GOk.nil
noncomputable def f38lE : Clean := ⟨[], [], [], [], []⟩
noncomputable def f38s0 (v0 : LI) (v1 : Int) : St := initSt f38sig.ps (v0, (v1, ()))
noncomputable def f38s1 (v0 : LI) (v1 : Int) : St := stOf [(0, xo 1000000), (1, xi v1), (100000, xo 1000000)] [] [(1000000, (⟨3, .int .i64, v0, true, false⟩ : Row))]
noncomputable def f38l1 : Clean := ⟨[0, 1, 100000], [], [], [], [(⟨false, 0, 0⟩, 1000000)]⟩
noncomputable def f38s2 (v0 : LI) (v1 v5 : Int) : St := stOf [(0, xo 1000000), (1, xi v1), (5, xi v5), (100000, xo 1000000)] [] [(1000000, (⟨3, .int .i64, v0, true, false⟩ : Row))]
noncomputable def f38l2 : Clean := ⟨[0, 1, 5, 100000], [], [], [], [(⟨false, 0, 0⟩, 1000000)]⟩
noncomputable def f38s3 (io100000 : LI) (v1 : Int) : St := stOf [(1, xi v1), (100000, xo 7400000)] [] [(7400000, (⟨3, .int .i64, io100000, true, false⟩ : Row))]
noncomputable def f38l3 : Clean := ⟨[1, 100000], [], [], [], [(⟨false, 100000, 0⟩, 7400000)]⟩
noncomputable def f38s4 (io100000 : LI) (v4 : Int) : St := stOf [(4, xi v4), (100000, xo 7400000)] [] [(7400000, (⟨3, .int .i64, io100000, true, false⟩ : Row))]
noncomputable def f38l4 : Clean := ⟨[4, 100000], [], [], [], [(⟨false, 100000, 0⟩, 7400000)]⟩
noncomputable def f38B : Nat → Option Clean := lookL [(0, f38l3), (1000000, f38l4)]
noncomputable abbrev f38i {ρ : Type} (N : Nat) (c : Code) (p : Plan) (σ : St) (K : KT ρ) : Option ρ := iCode f38G tab f38B N c p σ K
noncomputable def f38c (n : Nat) : Code := codeN 99 (bodyOf Try.f38) n
theorem f38t1 N v0 v1 (K : KT ρ) : f38i N (f38c 2) .n (f38s0 v0 v1) (joinK (some f38l1) K) =
  laws_markIntS.Z1 N v0 v1 (fun v0 v1 => K .nrm (f38s1 v0 v1)) := by kernel_rfl
theorem f38t4 N v0 v1 (K : KT ρ) : f38i N (f38c 9) .n (f38s1 v0 v1) (joinK (some f38l2) K) =
  laws_markIntS.Z4 N v0 v1 (fun v0 v1 v5 => K .nrm (f38s2 v0 v1 v5)) := by kernel_rfl
theorem f38t7 N v0 v1 v5 (K : KT ρ) : f38i N (f38c 37) .n (f38s2 v0 v1 v5) (joinK (some f38l2) K) =
  laws_markIntS.Z7 N v0 v1 v5 (fun v0 v1 v5 => K .nrm (f38s2 v0 v1 v5)) (fun io100000 v1 => K (.exit 0) (f38s3 io100000 v1)) := by kernel_rfl
noncomputable def f38p6 : Plan := .mk none (some f38l2) .n .n
noncomputable abbrev f38w6 {ρ : Type} (N M : Nat) (σ : St) (K : KT ρ) : Option ρ := loopC (fun σ K => f38i N (f38c 37) .n σ K) f38l2 M σ K
theorem f38t6L {ρ : Type} (N : Nat) (K : KT ρ) : ∀ (M : Nat) (v0 : LI) (v1 v5 : Int), f38w6 N M (f38s2 v0 v1 v5) K =
  laws_markIntS.Z6L N (fun io100000 v1 => K (.exit 0) (f38s3 io100000 v1)) M v0 v1 v5
  | 0, _, _, _ => rfl
  | M + 1, v0, v1, v5 => viaRoundS (fun k => laws_markIntS.Z7 N v0 v1 v5 k (fun io100000 v1 => K (.exit 0) (f38s3 io100000 v1))) (f38t7 N (K := seqK (fun σ => f38w6 N M σ K) K) ..) (fx3 fun v0 v1 v5 => f38t6L N K M v0 v1 v5) (by kernel_rfl)
theorem f38t6 N v0 v1 v5 (K : KT ρ) : f38i N (f38c 21) f38p6 (f38s2 v0 v1 v5) (joinK (some f38l3) K) =
  laws_markIntS.Z6 N v0 v1 v5 (fun io100000 v1 => K (.exit 0) (f38s3 io100000 v1)) :=
 viaLoopS (by kernel_rfl) (f38t6L N (joinK (some f38l3) K) N v0 v1 v5) (by kernel_rfl)
noncomputable def f38p5 : Plan := .mk (some f38l3) none f38p6 .n
theorem f38t5 N v0 v1 v5 (K : KT ρ) : f38i N (f38c 13) f38p5 (f38s2 v0 v1 v5) (joinK (some f38l3) K) =
  laws_markIntS.Z5 N v0 v1 v5 (fun io100000 v1 => K .nrm (f38s3 io100000 v1)) :=
 viaBlockS (by kernel_rfl) (f38t6 N (K := blockK 0 (joinK (some f38l3) K)) ..) (by kernel_rfl)
noncomputable def f38p3 : Plan := .mk (some f38l2) none .n f38p5
theorem f38t3 N v0 v1 (K : KT ρ) : f38i N (f38c 5) f38p3 (f38s1 v0 v1) (joinK (some f38l3) K) =
  laws_markIntS.Z3 N v0 v1 (fun io100000 v1 => K .nrm (f38s3 io100000 v1)) :=
 viaSeqS (fun k => laws_markIntS.Z4 N v0 v1 k) (by kernel_rfl) (f38t4 N (K := seqK (fun σ => f38i N (f38c 13) f38p5 σ (joinK (some f38l3) K)) (joinK (some f38l3) K)) ..) (fx3 fun v0 v1 v5 => f38t5 N v0 v1 v5 K) (by kernel_rfl)
theorem f38t8 N io100000 v1 (K : KT ρ) : f38i N (f38c 7) .n (f38s3 io100000 v1) (joinK (some f38lE) K) =
  laws_markIntS.Z8 N io100000 v1 (fun io100000 v4 => K .ret (f38s4 io100000 v4)) := by kernel_rfl
noncomputable def f38p2 : Plan := .mk (some f38l3) none f38p3 .n
theorem f38t2 N v0 v1 (K : KT ρ) : f38i N (f38c 3) f38p2 (f38s1 v0 v1) (joinK (some f38lE) K) =
  laws_markIntS.Z2 N v0 v1 (fun io100000 v4 => K .ret (f38s4 io100000 v4)) :=
 viaSeqS (fun k => laws_markIntS.Z3 N v0 v1 k) (by kernel_rfl) (f38t3 N (K := seqK (fun σ => f38i N (f38c 7) .n σ (joinK (some f38lE) K)) (joinK (some f38lE) K)) ..) (fx2 fun io100000 v1 => f38t8 N io100000 v1 K) (by kernel_rfl)
noncomputable def f38p0 : Plan := .mk (some f38l1) none .n f38p2
theorem f38t0 N v0 v1 (K : KT ρ) : f38i N (f38c 1) f38p0 (f38s0 v0 v1) (joinK (some f38lE) K) =
  laws_markIntS.Z0 N v0 v1 (fun io100000 v4 => K .ret (f38s4 io100000 v4)) :=
 viaSeqS (fun k => laws_markIntS.Z1 N v0 v1 k) (by kernel_rfl) (f38t1 N (K := seqK (fun σ => f38i N (f38c 3) f38p2 σ (joinK (some f38lE) K)) (joinK (some f38lE) K)) ..) (fx2 fun v0 v1 => f38t2 N v0 v1 K) (by kernel_rfl)
theorem f38m (N : Nat) (v0 : LI) (v1 : Int) : f38i N (f38c 1) f38p0 (f38s0 v0 v1) (joinK (some f38lE) (finK tab f38sig Try.f38.results.toList)) = laws_markIntS.Z0 N v0 v1 (fun io100000 v4 => some (io100000, (v4, ()))) :=
  (f38t0 N v0 v1 (finK tab f38sig Try.f38.results.toList)).trans (by kernel_rfl)
theorem f38ok (h : laws_markIntS.Spec) : EntryOk Try.prog 38 e38 :=
  entry_of_code (sig := f38sig) (c := (f38c 1)) (pl := f38p0) (je := (some f38lE)) (B := f38B) Try.func38 (by kernel_rfl) (by kernel_rfl) (by kernel_rfl) tabOk f38GOk (by kernel_rfl) (by kernel_rfl) (by kernel_rfl) (by kernel_rfl) fun X hb hp => by
    obtain ⟨v0, v1, _⟩ := X
    obtain ⟨N, h⟩ := h v0 v1 hb.1
    exact ⟨N, (f38m N v0 v1).trans (h N (Nat.le_refl N))⟩
theorem e38ok : EntryOk Try.prog 38 e38 := f38ok laws_markIntS.ok
end Go.Fw
namespace Go.Fw
variable {ρ : Type}
open Go.Proofs
noncomputable def f22sig : Sig := ⟨[⟨.pair (.int .i64) (.pair (.int .i64) (.sl 3 (.int .i64))), true, true⟩, ⟨.int .i64, false, false⟩], [⟨.int .i64, false, false⟩]⟩
noncomputable def e22 : Entry := ⟨f22sig, none, fun X => ((laws_markMatrix.g X.1 X.2.1).1, ((laws_markMatrix.g X.1 X.2.1).2, ()))⟩
noncomputable def f22G : Nat → Option Entry := addG (fun _ => none) 38 e38
theorem f22GOk : GOk Try.prog f22G := (GOk.nil).add e38ok (by kernel_rfl)
noncomputable def f22lE : Clean := ⟨[], [], [], [], []⟩
noncomputable def f22s0 (v0 : MT) (v1 : Int) : St := initSt f22sig.ps (v0, (v1, ()))
noncomputable def f22s1 (io100000_2 : LI) (v4 io100000_0 io100000_1 : Int) : St := stOf [(4, xi v4), (100000, .agg [yi io100000_0, yi io100000_1, .own 7400002])] [] [(7400002, (⟨3, .int .i64, io100000_2, true, false⟩ : Row))]
noncomputable def f22l1 : Clean := ⟨[4, 100000], [], [], [], [(⟨false, 100000, 2⟩, 7400002)]⟩
noncomputable def f22B : Nat → Option Clean := lookL [(1000000, f22l1)]
noncomputable abbrev f22i {ρ : Type} (N : Nat) (c : Code) (p : Plan) (σ : St) (K : KT ρ) : Option ρ := iCode f22G tab f22B N c p σ K
noncomputable def f22c (n : Nat) : Code := codeN 99 (bodyOf Try.f22) n
theorem f22t0 N v0 v1 (K : KT ρ) : f22i N (f22c 1) .n (f22s0 v0 v1) (joinK (some f22lE) K) =
  laws_markMatrix.Z0 N v0 v1 (fun io100000_2 v4 io100000_0 io100000_1 => K .ret (f22s1 io100000_2 v4 io100000_0 io100000_1)) := by kernel_rfl
theorem f22m (N : Nat) (v0 : MT) (v1 : Int) : f22i N (f22c 1) .n (f22s0 v0 v1) (joinK (some f22lE) (finK tab f22sig Try.f22.results.toList)) = laws_markMatrix.Z0 N v0 v1 (fun io100000_2 v4 io100000_0 io100000_1 => some ((io100000_0, (io100000_1, io100000_2)), (v4, ()))) :=
  (f22t0 N v0 v1 (finK tab f22sig Try.f22.results.toList)).trans (by kernel_rfl)
theorem f22ok (h : laws_markMatrix.Spec) : EntryOk Try.prog 22 e22 :=
  entry_of_code (sig := f22sig) (c := (f22c 1)) (pl := .n) (je := (some f22lE)) (B := f22B) Try.func22 (by kernel_rfl) (by kernel_rfl) (by kernel_rfl) tabOk f22GOk (by kernel_rfl) (by kernel_rfl) (by kernel_rfl) (by kernel_rfl) fun X hb hp => by
    obtain ⟨v0, v1, _⟩ := X
    obtain ⟨N, h⟩ := h v0 v1 hb.1
    exact ⟨N, (f22m N v0 v1).trans (h N (Nat.le_refl N))⟩
theorem e22ok : EntryOk Try.prog 22 e22 := f22ok laws_markMatrix.ok
end Go.Fw
namespace Go.Fw
variable {ρ : Type}
open Go.Proofs
noncomputable def f23sig : Sig := ⟨[⟨.sl 22 (.sl 3 (.int .i64)), false, true⟩, ⟨.int .i64, false, false⟩], [⟨.int .i64, false, false⟩]⟩
noncomputable def e23 : Entry := ⟨f23sig, none, fun X => ((laws_markIntSS.g X.1 X.2.1).1, ((laws_markIntSS.g X.1 X.2.1).2, ()))⟩
noncomputable def f23G : Nat → Option Entry := addG (fun _ => none) 38 e38
theorem f23GOk : GOk Try.prog f23G := (GOk.nil).add e38ok (by kernel_rfl)
noncomputable def f23lE : Clean := ⟨[], [], [], [], []⟩
noncomputable def f23s0 (v0 : LL) (v1 : Int) : St := initSt f23sig.ps (v0, (v1, ()))
noncomputable def f23s1 (v0 : LL) (v1 : Int) : St := stOf [(0, xo 1000000), (1, xi v1), (100000, xo 1000000)] [] [(1000000, (⟨22, .sl 3 tI, v0, true, false⟩ : Row))]
noncomputable def f23l1 : Clean := ⟨[0, 1, 100000], [], [], [], [(⟨false, 0, 0⟩, 1000000)]⟩
noncomputable def f23s2 (v0 : LL) (v1 v5 : Int) : St := stOf [(0, xo 1000000), (1, xi v1), (5, xi v5), (100000, xo 1000000)] [] [(1000000, (⟨22, .sl 3 tI, v0, true, false⟩ : Row))]
noncomputable def f23l2 : Clean := ⟨[0, 1, 5, 100000], [], [], [], [(⟨false, 0, 0⟩, 1000000)]⟩
noncomputable def f23s3 (io100000 : LL) (v1 : Int) : St := stOf [(1, xi v1), (100000, xo 7400000)] [] [(7400000, (⟨22, .sl 3 tI, io100000, true, false⟩ : Row))]
noncomputable def f23l3 : Clean := ⟨[1, 100000], [], [], [], [(⟨false, 100000, 0⟩, 7400000)]⟩
noncomputable def f23s4 (io100000 : LL) (v4 : Int) : St := stOf [(4, xi v4), (100000, xo 7400000)] [] [(7400000, (⟨22, .sl 3 tI, io100000, true, false⟩ : Row))]
noncomputable def f23l4 : Clean := ⟨[4, 100000], [], [], [], [(⟨false, 100000, 0⟩, 7400000)]⟩
noncomputable def f23B : Nat → Option Clean := lookL [(0, f23l3), (1000000, f23l4)]
noncomputable abbrev f23i {ρ : Type} (N : Nat) (c : Code) (p : Plan) (σ : St) (K : KT ρ) : Option ρ := iCode f23G tab f23B N c p σ K
noncomputable def f23c (n : Nat) : Code := codeN 99 (bodyOf Try.f23) n
theorem f23t1 N v0 v1 (K : KT ρ) : f23i N (f23c 2) .n (f23s0 v0 v1) (joinK (some f23l1) K) =
  laws_markIntSS.Z1 N v0 v1 (fun v0 v1 => K .nrm (f23s1 v0 v1)) := by kernel_rfl
theorem f23t4 N v0 v1 (K : KT ρ) : f23i N (f23c 9) .n (f23s1 v0 v1) (joinK (some f23l2) K) =
  laws_markIntSS.Z4 N v0 v1 (fun v0 v1 v5 => K .nrm (f23s2 v0 v1 v5)) := by kernel_rfl
theorem f23t7 N v0 v1 v5 (K : KT ρ) : f23i N (f23c 37) .n (f23s2 v0 v1 v5) (joinK (some f23l2) K) =
  laws_markIntSS.Z7 N v0 v1 v5 (fun v0 v1 v5 => K .nrm (f23s2 v0 v1 v5)) (fun io100000 v1 => K (.exit 0) (f23s3 io100000 v1)) := by kernel_rfl
noncomputable def f23p6 : Plan := .mk none (some f23l2) .n .n
noncomputable abbrev f23w6 {ρ : Type} (N M : Nat) (σ : St) (K : KT ρ) : Option ρ := loopC (fun σ K => f23i N (f23c 37) .n σ K) f23l2 M σ K
theorem f23t6L {ρ : Type} (N : Nat) (K : KT ρ) : ∀ (M : Nat) (v0 : LL) (v1 v5 : Int), f23w6 N M (f23s2 v0 v1 v5) K =
  laws_markIntSS.Z6L N (fun io100000 v1 => K (.exit 0) (f23s3 io100000 v1)) M v0 v1 v5
  | 0, _, _, _ => rfl
  | M + 1, v0, v1, v5 => viaRoundS (fun k => laws_markIntSS.Z7 N v0 v1 v5 k (fun io100000 v1 => K (.exit 0) (f23s3 io100000 v1))) (f23t7 N (K := seqK (fun σ => f23w6 N M σ K) K) ..) (fx3 fun v0 v1 v5 => f23t6L N K M v0 v1 v5) (by kernel_rfl)
theorem f23t6 N v0 v1 v5 (K : KT ρ) : f23i N (f23c 21) f23p6 (f23s2 v0 v1 v5) (joinK (some f23l3) K) =
  laws_markIntSS.Z6 N v0 v1 v5 (fun io100000 v1 => K (.exit 0) (f23s3 io100000 v1)) :=
 viaLoopS (by kernel_rfl) (f23t6L N (joinK (some f23l3) K) N v0 v1 v5) (by kernel_rfl)
noncomputable def f23p5 : Plan := .mk (some f23l3) none f23p6 .n
theorem f23t5 N v0 v1 v5 (K : KT ρ) : f23i N (f23c 13) f23p5 (f23s2 v0 v1 v5) (joinK (some f23l3) K) =
  laws_markIntSS.Z5 N v0 v1 v5 (fun io100000 v1 => K .nrm (f23s3 io100000 v1)) :=
 viaBlockS (by kernel_rfl) (f23t6 N (K := blockK 0 (joinK (some f23l3) K)) ..) (by kernel_rfl)
noncomputable def f23p3 : Plan := .mk (some f23l2) none .n f23p5
theorem f23t3 N v0 v1 (K : KT ρ) : f23i N (f23c 5) f23p3 (f23s1 v0 v1) (joinK (some f23l3) K) =
  laws_markIntSS.Z3 N v0 v1 (fun io100000 v1 => K .nrm (f23s3 io100000 v1)) :=
 viaSeqS (fun k => laws_markIntSS.Z4 N v0 v1 k) (by kernel_rfl) (f23t4 N (K := seqK (fun σ => f23i N (f23c 13) f23p5 σ (joinK (some f23l3) K)) (joinK (some f23l3) K)) ..) (fx3 fun v0 v1 v5 => f23t5 N v0 v1 v5 K) (by kernel_rfl)
theorem f23t8 N io100000 v1 (K : KT ρ) : f23i N (f23c 7) .n (f23s3 io100000 v1) (joinK (some f23lE) K) =
  laws_markIntSS.Z8 N io100000 v1 (fun io100000 v4 => K .ret (f23s4 io100000 v4)) := by kernel_rfl
noncomputable def f23p2 : Plan := .mk (some f23l3) none f23p3 .n
theorem f23t2 N v0 v1 (K : KT ρ) : f23i N (f23c 3) f23p2 (f23s1 v0 v1) (joinK (some f23lE) K) =
  laws_markIntSS.Z2 N v0 v1 (fun io100000 v4 => K .ret (f23s4 io100000 v4)) :=
 viaSeqS (fun k => laws_markIntSS.Z3 N v0 v1 k) (by kernel_rfl) (f23t3 N (K := seqK (fun σ => f23i N (f23c 7) .n σ (joinK (some f23lE) K)) (joinK (some f23lE) K)) ..) (fx2 fun io100000 v1 => f23t8 N io100000 v1 K) (by kernel_rfl)
noncomputable def f23p0 : Plan := .mk (some f23l1) none .n f23p2
theorem f23t0 N v0 v1 (K : KT ρ) : f23i N (f23c 1) f23p0 (f23s0 v0 v1) (joinK (some f23lE) K) =
  laws_markIntSS.Z0 N v0 v1 (fun io100000 v4 => K .ret (f23s4 io100000 v4)) :=
 viaSeqS (fun k => laws_markIntSS.Z1 N v0 v1 k) (by kernel_rfl) (f23t1 N (K := seqK (fun σ => f23i N (f23c 3) f23p2 σ (joinK (some f23lE) K)) (joinK (some f23lE) K)) ..) (fx2 fun v0 v1 => f23t2 N v0 v1 K) (by kernel_rfl)
theorem f23m (N : Nat) (v0 : LL) (v1 : Int) : f23i N (f23c 1) f23p0 (f23s0 v0 v1) (joinK (some f23lE) (finK tab f23sig Try.f23.results.toList)) = laws_markIntSS.Z0 N v0 v1 (fun io100000 v4 => some (io100000, (v4, ()))) :=
  (f23t0 N v0 v1 (finK tab f23sig Try.f23.results.toList)).trans (by kernel_rfl)
theorem f23ok (h : laws_markIntSS.Spec) : EntryOk Try.prog 23 e23 :=
  entry_of_code (sig := f23sig) (c := (f23c 1)) (pl := f23p0) (je := (some f23lE)) (B := f23B) Try.func23 (by kernel_rfl) (by kernel_rfl) (by kernel_rfl) tabOk f23GOk (by kernel_rfl) (by kernel_rfl) (by kernel_rfl) (by kernel_rfl) fun X hb hp => by
    obtain ⟨v0, v1, _⟩ := X
    obtain ⟨N, h⟩ := h v0 v1 hb.1
    exact ⟨N, (f23m N v0 v1).trans (h N (Nat.le_refl N))⟩
theorem e23ok : EntryOk Try.prog 23 e23 := f23ok laws_markIntSS.ok
end Go.Fw
namespace Go.Fw
variable {ρ : Type}
open Go.Proofs
noncomputable def f64sig : Sig := ⟨[⟨.sl 3 (.int .i64), false, false⟩, ⟨.int .i64, false, false⟩], [⟨.int .i64, false, false⟩]⟩
noncomputable def e64 : Entry := ⟨f64sig, none, fun X => ((), ((laws_heldIntS.g X.1 X.2.1), ()))⟩
noncomputable def f64G : Nat → Option Entry := (fun _ => none)
theorem f64GOk : GOk Try.prog f64G := GOk.nil
noncomputable def f64lE : Clean := ⟨[], [], [], [], []⟩
noncomputable def f64s0 (v0 : LI) (v1 : Int) : St := initSt f64sig.ps (v0, (v1, ()))
noncomputable def f64s1 (v0 : LI) (v1 : Int) : St := stOf [(0, .c (.sn 3 tI v0 none)), (1, xi v1)] [] []
noncomputable def f64l1 : Clean := ⟨[0, 1], [], [], [], []⟩
noncomputable def f64s2 (v0 : LI) (v1 v5 : Int) : St := stOf [(0, .c (.sn 3 tI v0 none)), (1, xi v1), (5, xi v5)] [] []
noncomputable def f64l2 : Clean := ⟨[0, 1, 5], [], [], [], []⟩
noncomputable def f64s3 (v1 : Int) : St := stOf [(1, xi v1)] [] []
noncomputable def f64l3 : Clean := ⟨[1], [], [], [], []⟩
noncomputable def f64s4 (v4 : Int) : St := stOf [(4, xi v4)] [] []
noncomputable def f64l4 : Clean := ⟨[4], [], [], [], []⟩
noncomputable def f64B : Nat → Option Clean := lookL [(0, f64l3), (1000000, f64l4)]
noncomputable abbrev f64i {ρ : Type} (N : Nat) (c : Code) (p : Plan) (σ : St) (K : KT ρ) : Option ρ := iCode f64G tab f64B N c p σ K
noncomputable def f64c (n : Nat) : Code := codeN 99 (bodyOf Try.f64) n
theorem f64t1 N v0 v1 (K : KT ρ) : f64i N (f64c 2) .n (f64s0 v0 v1) (joinK (some f64l1) K) =
  laws_heldIntS.Z1 N v0 v1 (fun v0 v1 => K .nrm (f64s1 v0 v1)) := by kernel_rfl
theorem f64t4 N v0 v1 (K : KT ρ) : f64i N (f64c 9) .n (f64s1 v0 v1) (joinK (some f64l2) K) =
  laws_heldIntS.Z4 N v0 v1 (fun v0 v1 v5 => K .nrm (f64s2 v0 v1 v5)) := by kernel_rfl
theorem f64t7 N v0 v1 v5 (K : KT ρ) : f64i N (f64c 37) .n (f64s2 v0 v1 v5) (joinK (some f64l2) K) =
  laws_heldIntS.Z7 N v0 v1 v5 (fun v0 v1 v5 => K .nrm (f64s2 v0 v1 v5)) (fun v1 => K (.exit 0) (f64s3 v1)) (fun v4 => K .ret (f64s4 v4)) := by kernel_rfl
noncomputable def f64p6 : Plan := .mk none (some f64l2) .n .n
noncomputable abbrev f64w6 {ρ : Type} (N M : Nat) (σ : St) (K : KT ρ) : Option ρ := loopC (fun σ K => f64i N (f64c 37) .n σ K) f64l2 M σ K
theorem f64t6L {ρ : Type} (N : Nat) (K : KT ρ) : ∀ (M : Nat) (v0 : LI) (v1 v5 : Int), f64w6 N M (f64s2 v0 v1 v5) K =
  laws_heldIntS.Z6L N (fun v1 => K (.exit 0) (f64s3 v1)) (fun v4 => K .ret (f64s4 v4)) M v0 v1 v5
  | 0, _, _, _ => rfl
  | M + 1, v0, v1, v5 => viaRoundS (fun k => laws_heldIntS.Z7 N v0 v1 v5 k (fun v1 => K (.exit 0) (f64s3 v1)) (fun v4 => K .ret (f64s4 v4))) (f64t7 N (K := seqK (fun σ => f64w6 N M σ K) K) ..) (fx3 fun v0 v1 v5 => f64t6L N K M v0 v1 v5) (by kernel_rfl)
theorem f64t6 N v0 v1 v5 (K : KT ρ) : f64i N (f64c 21) f64p6 (f64s2 v0 v1 v5) (joinK (some f64l3) K) =
  laws_heldIntS.Z6 N v0 v1 v5 (fun v1 => K (.exit 0) (f64s3 v1)) (fun v4 => K .ret (f64s4 v4)) :=
 viaLoopS (by kernel_rfl) (f64t6L N (joinK (some f64l3) K) N v0 v1 v5) (by kernel_rfl)
noncomputable def f64p5 : Plan := .mk (some f64l3) none f64p6 .n
theorem f64t5 N v0 v1 v5 (K : KT ρ) : f64i N (f64c 13) f64p5 (f64s2 v0 v1 v5) (joinK (some f64l3) K) =
  laws_heldIntS.Z5 N v0 v1 v5 (fun v1 => K .nrm (f64s3 v1)) (fun v4 => K .ret (f64s4 v4)) :=
 viaBlockS (by kernel_rfl) (f64t6 N (K := blockK 0 (joinK (some f64l3) K)) ..) (by kernel_rfl)
noncomputable def f64p3 : Plan := .mk (some f64l2) none .n f64p5
theorem f64t3 N v0 v1 (K : KT ρ) : f64i N (f64c 5) f64p3 (f64s1 v0 v1) (joinK (some f64l3) K) =
  laws_heldIntS.Z3 N v0 v1 (fun v1 => K .nrm (f64s3 v1)) (fun v4 => K .ret (f64s4 v4)) :=
 viaSeqS (fun k => laws_heldIntS.Z4 N v0 v1 k) (by kernel_rfl) (f64t4 N (K := seqK (fun σ => f64i N (f64c 13) f64p5 σ (joinK (some f64l3) K)) (joinK (some f64l3) K)) ..) (fx3 fun v0 v1 v5 => f64t5 N v0 v1 v5 K) (by kernel_rfl)
theorem f64t8 N v1 (K : KT ρ) : f64i N (f64c 7) .n (f64s3 v1) (joinK (some f64lE) K) =
  laws_heldIntS.Z8 N v1 (fun v4 => K .ret (f64s4 v4)) := by kernel_rfl
noncomputable def f64p2 : Plan := .mk (some f64l3) none f64p3 .n
theorem f64t2 N v0 v1 (K : KT ρ) : f64i N (f64c 3) f64p2 (f64s1 v0 v1) (joinK (some f64lE) K) =
  laws_heldIntS.Z2 N v0 v1 (fun v4 => K .ret (f64s4 v4)) :=
 viaSeqS (fun k => laws_heldIntS.Z3 N v0 v1 k (fun v4 => K .ret (f64s4 v4))) (by kernel_rfl) (f64t3 N (K := seqK (fun σ => f64i N (f64c 7) .n σ (joinK (some f64lE) K)) (joinK (some f64lE) K)) ..) (funext fun v1 => f64t8 N v1 K) (by kernel_rfl)
noncomputable def f64p0 : Plan := .mk (some f64l1) none .n f64p2
theorem f64t0 N v0 v1 (K : KT ρ) : f64i N (f64c 1) f64p0 (f64s0 v0 v1) (joinK (some f64lE) K) =
  laws_heldIntS.Z0 N v0 v1 (fun v4 => K .ret (f64s4 v4)) :=
 viaSeqS (fun k => laws_heldIntS.Z1 N v0 v1 k) (by kernel_rfl) (f64t1 N (K := seqK (fun σ => f64i N (f64c 3) f64p2 σ (joinK (some f64lE) K)) (joinK (some f64lE) K)) ..) (fx2 fun v0 v1 => f64t2 N v0 v1 K) (by kernel_rfl)
theorem f64m (N : Nat) (v0 : LI) (v1 : Int) : f64i N (f64c 1) f64p0 (f64s0 v0 v1) (joinK (some f64lE) (finK tab f64sig Try.f64.results.toList)) = laws_heldIntS.Z0 N v0 v1 (fun v4 => some ((), (v4, ()))) :=
  (f64t0 N v0 v1 (finK tab f64sig Try.f64.results.toList)).trans (by kernel_rfl)
theorem f64ok (h : laws_heldIntS.Spec) : EntryOk Try.prog 64 e64 :=
  entry_of_code (sig := f64sig) (c := (f64c 1)) (pl := f64p0) (je := (some f64lE)) (B := f64B) Try.func64 (by kernel_rfl) (by kernel_rfl) (by kernel_rfl) tabOk f64GOk (by kernel_rfl) (by kernel_rfl) (by kernel_rfl) (by kernel_rfl) fun X hb hp => by
    obtain ⟨v0, v1, _⟩ := X
    obtain ⟨N, h⟩ := h v0 v1 hb.1
    exact ⟨N, (f64m N v0 v1).trans (h N (Nat.le_refl N))⟩
theorem e64ok : EntryOk Try.prog 64 e64 := f64ok laws_heldIntS.ok
end Go.Fw
namespace Go.Fw
variable {ρ : Type}
open Go.Proofs
noncomputable def f24sig : Sig := ⟨[⟨.sl 22 (.sl 3 (.int .i64)), false, false⟩, ⟨.int .i64, false, false⟩], [⟨.int .i64, false, false⟩]⟩
noncomputable def e24 : Entry := ⟨f24sig, none, fun X => ((), ((laws_heldIntSS.g X.1 X.2.1), ()))⟩
noncomputable def f24G : Nat → Option Entry := addG (fun _ => none) 64 e64
theorem f24GOk : GOk Try.prog f24G := (GOk.nil).add e64ok (by kernel_rfl)
noncomputable def f24lE : Clean := ⟨[], [], [], [], []⟩
noncomputable def f24s0 (v0 : LL) (v1 : Int) : St := initSt f24sig.ps (v0, (v1, ()))
noncomputable def f24s1 (v0 : LL) (v1 : Int) : St := stOf [(0, .c (.sn 22 (.sl 3 tI) v0 none)), (1, xi v1)] [] []
noncomputable def f24l1 : Clean := ⟨[0, 1], [], [], [], []⟩
noncomputable def f24s2 (v0 : LL) (v1 v5 : Int) : St := stOf [(0, .c (.sn 22 (.sl 3 tI) v0 none)), (1, xi v1), (5, xi v5)] [] []
noncomputable def f24l2 : Clean := ⟨[0, 1, 5], [], [], [], []⟩
noncomputable def f24s3 (v1 : Int) : St := stOf [(1, xi v1)] [] []
noncomputable def f24l3 : Clean := ⟨[1], [], [], [], []⟩
noncomputable def f24s4 (v4 : Int) : St := stOf [(4, xi v4)] [] []
noncomputable def f24l4 : Clean := ⟨[4], [], [], [], []⟩
noncomputable def f24B : Nat → Option Clean := lookL [(0, f24l3), (1000000, f24l4)]
noncomputable abbrev f24i {ρ : Type} (N : Nat) (c : Code) (p : Plan) (σ : St) (K : KT ρ) : Option ρ := iCode f24G tab f24B N c p σ K
noncomputable def f24c (n : Nat) : Code := codeN 99 (bodyOf Try.f24) n
theorem f24t1 N v0 v1 (K : KT ρ) : f24i N (f24c 2) .n (f24s0 v0 v1) (joinK (some f24l1) K) =
  laws_heldIntSS.Z1 N v0 v1 (fun v0 v1 => K .nrm (f24s1 v0 v1)) := by kernel_rfl
theorem f24t4 N v0 v1 (K : KT ρ) : f24i N (f24c 9) .n (f24s1 v0 v1) (joinK (some f24l2) K) =
  laws_heldIntSS.Z4 N v0 v1 (fun v0 v1 v5 => K .nrm (f24s2 v0 v1 v5)) := by kernel_rfl
theorem f24t7 N v0 v1 v5 (K : KT ρ) : f24i N (f24c 37) .n (f24s2 v0 v1 v5) (joinK (some f24l2) K) =
  laws_heldIntSS.Z7 N v0 v1 v5 (fun v0 v1 v5 => K .nrm (f24s2 v0 v1 v5)) (fun v1 => K (.exit 0) (f24s3 v1)) (fun v4 => K .ret (f24s4 v4)) := by kernel_rfl
noncomputable def f24p6 : Plan := .mk none (some f24l2) .n .n
noncomputable abbrev f24w6 {ρ : Type} (N M : Nat) (σ : St) (K : KT ρ) : Option ρ := loopC (fun σ K => f24i N (f24c 37) .n σ K) f24l2 M σ K
theorem f24t6L {ρ : Type} (N : Nat) (K : KT ρ) : ∀ (M : Nat) (v0 : LL) (v1 v5 : Int), f24w6 N M (f24s2 v0 v1 v5) K =
  laws_heldIntSS.Z6L N (fun v1 => K (.exit 0) (f24s3 v1)) (fun v4 => K .ret (f24s4 v4)) M v0 v1 v5
  | 0, _, _, _ => rfl
  | M + 1, v0, v1, v5 => viaRoundS (fun k => laws_heldIntSS.Z7 N v0 v1 v5 k (fun v1 => K (.exit 0) (f24s3 v1)) (fun v4 => K .ret (f24s4 v4))) (f24t7 N (K := seqK (fun σ => f24w6 N M σ K) K) ..) (fx3 fun v0 v1 v5 => f24t6L N K M v0 v1 v5) (by kernel_rfl)
theorem f24t6 N v0 v1 v5 (K : KT ρ) : f24i N (f24c 21) f24p6 (f24s2 v0 v1 v5) (joinK (some f24l3) K) =
  laws_heldIntSS.Z6 N v0 v1 v5 (fun v1 => K (.exit 0) (f24s3 v1)) (fun v4 => K .ret (f24s4 v4)) :=
 viaLoopS (by kernel_rfl) (f24t6L N (joinK (some f24l3) K) N v0 v1 v5) (by kernel_rfl)
noncomputable def f24p5 : Plan := .mk (some f24l3) none f24p6 .n
theorem f24t5 N v0 v1 v5 (K : KT ρ) : f24i N (f24c 13) f24p5 (f24s2 v0 v1 v5) (joinK (some f24l3) K) =
  laws_heldIntSS.Z5 N v0 v1 v5 (fun v1 => K .nrm (f24s3 v1)) (fun v4 => K .ret (f24s4 v4)) :=
 viaBlockS (by kernel_rfl) (f24t6 N (K := blockK 0 (joinK (some f24l3) K)) ..) (by kernel_rfl)
noncomputable def f24p3 : Plan := .mk (some f24l2) none .n f24p5
theorem f24t3 N v0 v1 (K : KT ρ) : f24i N (f24c 5) f24p3 (f24s1 v0 v1) (joinK (some f24l3) K) =
  laws_heldIntSS.Z3 N v0 v1 (fun v1 => K .nrm (f24s3 v1)) (fun v4 => K .ret (f24s4 v4)) :=
 viaSeqS (fun k => laws_heldIntSS.Z4 N v0 v1 k) (by kernel_rfl) (f24t4 N (K := seqK (fun σ => f24i N (f24c 13) f24p5 σ (joinK (some f24l3) K)) (joinK (some f24l3) K)) ..) (fx3 fun v0 v1 v5 => f24t5 N v0 v1 v5 K) (by kernel_rfl)
theorem f24t8 N v1 (K : KT ρ) : f24i N (f24c 7) .n (f24s3 v1) (joinK (some f24lE) K) =
  laws_heldIntSS.Z8 N v1 (fun v4 => K .ret (f24s4 v4)) := by kernel_rfl
noncomputable def f24p2 : Plan := .mk (some f24l3) none f24p3 .n
theorem f24t2 N v0 v1 (K : KT ρ) : f24i N (f24c 3) f24p2 (f24s1 v0 v1) (joinK (some f24lE) K) =
  laws_heldIntSS.Z2 N v0 v1 (fun v4 => K .ret (f24s4 v4)) :=
 viaSeqS (fun k => laws_heldIntSS.Z3 N v0 v1 k (fun v4 => K .ret (f24s4 v4))) (by kernel_rfl) (f24t3 N (K := seqK (fun σ => f24i N (f24c 7) .n σ (joinK (some f24lE) K)) (joinK (some f24lE) K)) ..) (funext fun v1 => f24t8 N v1 K) (by kernel_rfl)
noncomputable def f24p0 : Plan := .mk (some f24l1) none .n f24p2
theorem f24t0 N v0 v1 (K : KT ρ) : f24i N (f24c 1) f24p0 (f24s0 v0 v1) (joinK (some f24lE) K) =
  laws_heldIntSS.Z0 N v0 v1 (fun v4 => K .ret (f24s4 v4)) :=
 viaSeqS (fun k => laws_heldIntSS.Z1 N v0 v1 k) (by kernel_rfl) (f24t1 N (K := seqK (fun σ => f24i N (f24c 3) f24p2 σ (joinK (some f24lE) K)) (joinK (some f24lE) K)) ..) (fx2 fun v0 v1 => f24t2 N v0 v1 K) (by kernel_rfl)
theorem f24m (N : Nat) (v0 : LL) (v1 : Int) : f24i N (f24c 1) f24p0 (f24s0 v0 v1) (joinK (some f24lE) (finK tab f24sig Try.f24.results.toList)) = laws_heldIntSS.Z0 N v0 v1 (fun v4 => some ((), (v4, ()))) :=
  (f24t0 N v0 v1 (finK tab f24sig Try.f24.results.toList)).trans (by kernel_rfl)
theorem f24ok (h : laws_heldIntSS.Spec) : EntryOk Try.prog 24 e24 :=
  entry_of_code (sig := f24sig) (c := (f24c 1)) (pl := f24p0) (je := (some f24lE)) (B := f24B) Try.func24 (by kernel_rfl) (by kernel_rfl) (by kernel_rfl) tabOk f24GOk (by kernel_rfl) (by kernel_rfl) (by kernel_rfl) (by kernel_rfl) fun X hb hp => by
    obtain ⟨v0, v1, _⟩ := X
    obtain ⟨N, h⟩ := h v0 v1 hb.1
    exact ⟨N, (f24m N v0 v1).trans (h N (Nat.le_refl N))⟩
theorem e24ok : EntryOk Try.prog 24 e24 := f24ok laws_heldIntSS.ok
end Go.Fw
namespace Go.Fw
variable {ρ : Type}
open Go.Proofs
noncomputable def f6sig : Sig := ⟨[⟨.pair (.int .i64) (.pair (.int .i64) (.sl 3 (.int .i64))), true, false⟩, ⟨.sl 3 (.int .i64), false, false⟩], [⟨.bool, false, false⟩]⟩
noncomputable def e6 : Entry := ⟨f6sig, none, fun X => ((), ((laws_FnExactGVectorsOf.g X.1 X.2.1), ()))⟩
noncomputable def f6G : Nat → Option Entry := addG (addG (addG (addG (addG (addG (addG (addG (addG (addG (addG (addG (fun _ => none) 16 e16) 18 e18) 20 e20) 21 e21) 22 e22) 23 e23) 24 e24) 34 e34) 35 e35) 36 e36) 37 e37) 38 e38
theorem f6GOk : GOk Try.prog f6G := ((((((((((((GOk.nil).add e16ok (by kernel_rfl)).add e18ok (by kernel_rfl)).add e20ok (by kernel_rfl)).add e21ok (by kernel_rfl)).add e22ok (by kernel_rfl)).add e23ok (by kernel_rfl)).add e24ok (by kernel_rfl)).add e34ok (by kernel_rfl)).add e35ok (by kernel_rfl)).add e36ok (by kernel_rfl)).add e37ok (by kernel_rfl)).add e38ok (by kernel_rfl)
noncomputable def f6lE : Clean := ⟨[], [], [], [], []⟩
noncomputable def f6s0 (v0 : MT) (v1 : LI) : St := initSt f6sig.ps (v0, (v1, ()))
noncomputable def f6s1 (v1 : LI) (v2_0 v2_1 : Int) (v2_2 : LI) : St := stOf [(1, .c (.sn 3 tI v1 none)), (2, xb 2)] [(2, (24, [yi v2_0, yi v2_1, .sn 3 tI v2_2 none]))] []
noncomputable def f6l1 : Clean := ⟨[1, 2], [2], [], [], []⟩
noncomputable def f6s2 (v1 : LI) (v5 v2_0 v2_1 : Int) (v2_2 : LI) : St := stOf [(1, .c (.sn 3 tI v1 none)), (2, xb 2), (5, xi v5)] [(2, (24, [yi v2_0, yi v2_1, .sn 3 tI v2_2 none]))] []
noncomputable def f6l2 : Clean := ⟨[1, 2, 5], [2], [], [], []⟩
noncomputable def f6s3 (v6 : LL) (v1 : LI) (v7 : Bool) (v2_0 v2_1 : Int) (v2_2 : LI) : St := stOf [(1, .c (.sn 3 tI v1 none)), (2, xb 2), (6, xo 1000384), (7, xB v7)] [(2, (24, [yi v2_0, yi v2_1, .sn 3 tI v2_2 none]))] [(1000384, (⟨22, .sl 3 tI, v6, true, false⟩ : Row))]
noncomputable def f6l3 : Clean := ⟨[1, 2, 6, 7], [2], [], [], [(⟨false, 6, 0⟩, 1000384)]⟩
noncomputable def f6s4 (v6 : LL) (v8_2 v1 : LI) (v7 : Bool) (v2_0 v2_1 : Int) (v2_2 : LI) (v8_0 v8_1 : Int) : St := stOf [(1, .c (.sn 3 tI v1 none)), (2, xb 2), (6, xo 1000384), (7, xB v7), (8, xb 8)] [(2, (24, [yi v2_0, yi v2_1, .sn 3 tI v2_2 none])), (8, (30, [yi v8_0, yi v8_1, .own 20000514]))] [(1000384, (⟨22, .sl 3 tI, v6, true, false⟩ : Row)), (20000514, (⟨3, .int .i64, v8_2, true, false⟩ : Row))]
noncomputable def f6l4 : Clean := ⟨[1, 2, 6, 7, 8], [2, 8], [], [], [(⟨false, 6, 0⟩, 1000384), (⟨true, 8, 2⟩, 20000514)]⟩
noncomputable def f6s5 (v6 : LL) (v9 v8_2 v1 : LI) (v7 : Bool) (v2_0 v2_1 : Int) (v2_2 : LI) (v8_0 v8_1 : Int) : St := stOf [(1, .c (.sn 3 tI v1 none)), (2, xb 2), (6, xo 1000384), (7, xB v7), (8, xb 8), (9, xo 1000576)] [(2, (24, [yi v2_0, yi v2_1, .sn 3 tI v2_2 none])), (8, (30, [yi v8_0, yi v8_1, .own 20000514]))] [(1000384, (⟨22, .sl 3 tI, v6, true, false⟩ : Row)), (1000576, (⟨3, .int .i64, v9, true, false⟩ : Row)), (20000514, (⟨3, .int .i64, v8_2, true, false⟩ : Row))]
noncomputable def f6l5 : Clean := ⟨[1, 2, 6, 7, 8, 9], [2, 8], [], [], [(⟨false, 6, 0⟩, 1000384), (⟨false, 9, 0⟩, 1000576), (⟨true, 8, 2⟩, 20000514)]⟩
noncomputable def f6s6 (v6 : LL) (v9 : LI) (v10 : LL) (v8_2 v1 : LI) (v7 v11 : Bool) (v2_0 v2_1 : Int) (v2_2 : LI) (v8_0 v8_1 : Int) : St := stOf [(1, .c (.sn 3 tI v1 none)), (2, xb 2), (6, xo 1000384), (7, xB v7), (8, xb 8), (9, xo 1000576), (10, xo 1000640), (11, xB v11)] [(2, (24, [yi v2_0, yi v2_1, .sn 3 tI v2_2 none])), (8, (30, [yi v8_0, yi v8_1, .own 20000514]))] [(1000384, (⟨22, .sl 3 tI, v6, true, false⟩ : Row)), (1000576, (⟨3, .int .i64, v9, true, false⟩ : Row)), (1000640, (⟨22, .sl 3 tI, v10, true, false⟩ : Row)), (20000514, (⟨3, .int .i64, v8_2, true, false⟩ : Row))]
noncomputable def f6l6 : Clean := ⟨[1, 2, 6, 7, 8, 9, 10, 11], [2, 8], [], [], [(⟨false, 6, 0⟩, 1000384), (⟨false, 9, 0⟩, 1000576), (⟨false, 10, 0⟩, 1000640), (⟨true, 8, 2⟩, 20000514)]⟩
noncomputable def f6s7 (v6 : LL) (v9 : LI) (v10 : LL) (v8_2 v1 : LI) (v7 v11 : Bool) (v12 v2_0 v2_1 : Int) (v2_2 : LI) (v8_0 v8_1 : Int) : St := stOf [(1, .c (.sn 3 tI v1 none)), (2, xb 2), (6, xo 1000384), (7, xB v7), (8, xb 8), (9, xo 1000576), (10, xo 1000640), (11, xB v11), (12, xi v12)] [(2, (24, [yi v2_0, yi v2_1, .sn 3 tI v2_2 none])), (8, (30, [yi v8_0, yi v8_1, .own 20000514]))] [(1000384, (⟨22, .sl 3 tI, v6, true, false⟩ : Row)), (1000576, (⟨3, .int .i64, v9, true, false⟩ : Row)), (1000640, (⟨22, .sl 3 tI, v10, true, false⟩ : Row)), (20000514, (⟨3, .int .i64, v8_2, true, false⟩ : Row))]
noncomputable def f6l7 : Clean := ⟨[1, 2, 6, 7, 8, 9, 10, 11, 12], [2, 8], [], [], [(⟨false, 6, 0⟩, 1000384), (⟨false, 9, 0⟩, 1000576), (⟨false, 10, 0⟩, 1000640), (⟨true, 8, 2⟩, 20000514)]⟩
noncomputable def f6s8 (v6 : LL) (v9 : LI) (v10 : LL) (v1 : LI) (v7 v11 : Bool) (v12 v2_0 v2_1 : Int) (v2_2 : LI) : St := stOf [(1, .c (.sn 3 tI v1 none)), (2, xb 2), (6, xo 1000384), (7, xB v7), (9, xo 1000576), (10, xo 1000640), (11, xB v11), (12, xi v12)] [(2, (24, [yi v2_0, yi v2_1, .sn 3 tI v2_2 none]))] [(1000384, (⟨22, .sl 3 tI, v6, true, false⟩ : Row)), (1000576, (⟨3, .int .i64, v9, true, false⟩ : Row)), (1000640, (⟨22, .sl 3 tI, v10, true, false⟩ : Row))]
noncomputable def f6l8 : Clean := ⟨[1, 2, 6, 7, 9, 10, 11, 12], [2], [], [], [(⟨false, 6, 0⟩, 1000384), (⟨false, 9, 0⟩, 1000576), (⟨false, 10, 0⟩, 1000640)]⟩
noncomputable def f6s9 (v6 v10 : LL) (v1 : LI) (v7 v11 : Bool) (v12 v2_0 v2_1 : Int) (v2_2 : LI) : St := stOf [(1, .c (.sn 3 tI v1 none)), (2, xb 2), (6, xo 1000384), (7, xB v7), (10, xo 1000640), (11, xB v11), (12, xi v12)] [(2, (24, [yi v2_0, yi v2_1, .sn 3 tI v2_2 none]))] [(1000384, (⟨22, .sl 3 tI, v6, true, false⟩ : Row)), (1000640, (⟨22, .sl 3 tI, v10, true, false⟩ : Row))]
noncomputable def f6l9 : Clean := ⟨[1, 2, 6, 7, 10, 11, 12], [2], [], [], [(⟨false, 6, 0⟩, 1000384), (⟨false, 10, 0⟩, 1000640)]⟩
noncomputable def f6s10 (v6 v10 : LL) (v1 : LI) (v7 : Bool) (v2_0 v2_1 : Int) (v2_2 : LI) : St := stOf [(1, .c (.sn 3 tI v1 none)), (2, xb 2), (6, xo 1000384), (7, xB v7), (10, xo 1000640)] [(2, (24, [yi v2_0, yi v2_1, .sn 3 tI v2_2 none]))] [(1000384, (⟨22, .sl 3 tI, v6, true, false⟩ : Row)), (1000640, (⟨22, .sl 3 tI, v10, true, false⟩ : Row))]
noncomputable def f6l10 : Clean := ⟨[1, 2, 6, 7, 10], [2], [], [], [(⟨false, 6, 0⟩, 1000384), (⟨false, 10, 0⟩, 1000640)]⟩
noncomputable def f6s11 (v4 : Bool) : St := stOf [(4, xB v4)] [] []
noncomputable def f6l11 : Clean := ⟨[4], [], [], [], []⟩
noncomputable def f6B : Nat → Option Clean := lookL [(1000000, f6l11)]
noncomputable abbrev f6i {ρ : Type} (N : Nat) (c : Code) (p : Plan) (σ : St) (K : KT ρ) : Option ρ := iCode f6G tab f6B N c p σ K
noncomputable def f6c (n : Nat) : Code := codeN 99 (bodyOf Try.f6) n
theorem f6t1 N v0 v1 (K : KT ρ) : f6i N (f6c 2) .n (f6s0 v0 v1) (joinK (some f6l1) K) =
  laws_FnExactGVectorsOf.Z1 N v0 v1 (fun v1 v2_0 v2_1 v2_2 => K .nrm (f6s1 v1 v2_0 v2_1 v2_2)) := by kernel_rfl
theorem f6t3 N v1 v2_0 v2_1 v2_2 (K : KT ρ) : f6i N (f6c 5) .n (f6s1 v1 v2_0 v2_1 v2_2) (joinK (some f6l1) K) =
  laws_FnExactGVectorsOf.Z3 N v1 v2_0 v2_1 v2_2 (fun v1 v2_0 v2_1 v2_2 => K .nrm (f6s1 v1 v2_0 v2_1 v2_2)) (fun v4 => K .ret (f6s11 v4)) := by kernel_rfl
theorem f6t5 N v1 v2_0 v2_1 v2_2 (K : KT ρ) : f6i N (f6c 11) .n (f6s1 v1 v2_0 v2_1 v2_2) (joinK (some f6l2) K) =
  laws_FnExactGVectorsOf.Z5 N v1 v2_0 v2_1 v2_2 (fun v1 v5 v2_0 v2_1 v2_2 => K .nrm (f6s2 v1 v5 v2_0 v2_1 v2_2)) := by kernel_rfl
theorem f6t7 N v1 v5 v2_0 v2_1 v2_2 (K : KT ρ) : f6i N (f6c 23) .n (f6s2 v1 v5 v2_0 v2_1 v2_2) (joinK (some f6l2) K) =
  laws_FnExactGVectorsOf.Z7 N v1 v5 v2_0 v2_1 v2_2 (fun v1 v5 v2_0 v2_1 v2_2 => K .nrm (f6s2 v1 v5 v2_0 v2_1 v2_2)) := by kernel_rfl
theorem f6t9 N v1 v5 v2_0 v2_1 v2_2 (K : KT ρ) : f6i N (f6c 47) .n (f6s2 v1 v5 v2_0 v2_1 v2_2) (joinK (some f6l1) K) =
  laws_FnExactGVectorsOf.Z9 N v1 v5 v2_0 v2_1 v2_2 (fun v1 v2_0 v2_1 v2_2 => K .nrm (f6s1 v1 v2_0 v2_1 v2_2)) (fun v4 => K .ret (f6s11 v4)) := by kernel_rfl
theorem f6t11 N v1 v2_0 v2_1 v2_2 (K : KT ρ) : f6i N (f6c 95) .n (f6s1 v1 v2_0 v2_1 v2_2) (joinK (some f6l3) K) =
  laws_FnExactGVectorsOf.Z11 N v1 v2_0 v2_1 v2_2 (fun v6 v1 v7 v2_0 v2_1 v2_2 => K .nrm (f6s3 v6 v1 v7 v2_0 v2_1 v2_2)) := by kernel_rfl
theorem f6t13 N v6 v1 v7 v2_0 v2_1 v2_2 (K : KT ρ) : f6i N (f6c 191) .n (f6s3 v6 v1 v7 v2_0 v2_1 v2_2) (joinK (some f6l4) K) =
  laws_FnExactGVectorsOf.Z13 N v6 v1 v7 v2_0 v2_1 v2_2 (fun v6 v8_2 v1 v7 v2_0 v2_1 v2_2 v8_0 v8_1 => K .nrm (f6s4 v6 v8_2 v1 v7 v2_0 v2_1 v2_2 v8_0 v8_1)) := by kernel_rfl
theorem f6t15 N v6 v8_2 v1 v7 v2_0 v2_1 v2_2 v8_0 v8_1 (K : KT ρ) : f6i N (f6c 383) .n (f6s4 v6 v8_2 v1 v7 v2_0 v2_1 v2_2 v8_0 v8_1) (joinK (some f6l5) K) =
  laws_FnExactGVectorsOf.Z15 N v6 v8_2 v1 v7 v2_0 v2_1 v2_2 v8_0 v8_1 (fun v6 v9 v8_2 v1 v7 v2_0 v2_1 v2_2 v8_0 v8_1 => K .nrm (f6s5 v6 v9 v8_2 v1 v7 v2_0 v2_1 v2_2 v8_0 v8_1)) := by kernel_rfl
theorem f6t17 N v6 v9 v8_2 v1 v7 v2_0 v2_1 v2_2 v8_0 v8_1 (K : KT ρ) : f6i N (f6c 767) .n (f6s5 v6 v9 v8_2 v1 v7 v2_0 v2_1 v2_2 v8_0 v8_1) (joinK (some f6l6) K) =
  laws_FnExactGVectorsOf.Z17 N v6 v9 v8_2 v1 v7 v2_0 v2_1 v2_2 v8_0 v8_1 (fun v6 v9 v10 v8_2 v1 v7 v11 v2_0 v2_1 v2_2 v8_0 v8_1 => K .nrm (f6s6 v6 v9 v10 v8_2 v1 v7 v11 v2_0 v2_1 v2_2 v8_0 v8_1)) := by kernel_rfl
theorem f6t19 N v6 v9 v10 v8_2 v1 v7 v11 v2_0 v2_1 v2_2 v8_0 v8_1 (K : KT ρ) : f6i N (f6c 1535) .n (f6s6 v6 v9 v10 v8_2 v1 v7 v11 v2_0 v2_1 v2_2 v8_0 v8_1) (joinK (some f6l6) K) =
  laws_FnExactGVectorsOf.Z19 N v6 v9 v10 v8_2 v1 v7 v11 v2_0 v2_1 v2_2 v8_0 v8_1 (fun v6 v9 v10 v8_2 v1 v7 v11 v2_0 v2_1 v2_2 v8_0 v8_1 => K .nrm (f6s6 v6 v9 v10 v8_2 v1 v7 v11 v2_0 v2_1 v2_2 v8_0 v8_1)) (fun v4 => K .ret (f6s11 v4)) := by kernel_rfl
theorem f6t21 N v6 v9 v10 v8_2 v1 v7 v11 v2_0 v2_1 v2_2 v8_0 v8_1 (K : KT ρ) : f6i N (f6c 3071) .n (f6s6 v6 v9 v10 v8_2 v1 v7 v11 v2_0 v2_1 v2_2 v8_0 v8_1) (joinK (some f6l6) K) =
  laws_FnExactGVectorsOf.Z21 N v6 v9 v10 v8_2 v1 v7 v11 v2_0 v2_1 v2_2 v8_0 v8_1 (fun v6 v9 v10 v8_2 v1 v7 v11 v2_0 v2_1 v2_2 v8_0 v8_1 => K .nrm (f6s6 v6 v9 v10 v8_2 v1 v7 v11 v2_0 v2_1 v2_2 v8_0 v8_1)) (fun v4 => K .ret (f6s11 v4)) := by kernel_rfl
theorem f6t23 N v6 v9 v10 v8_2 v1 v7 v11 v2_0 v2_1 v2_2 v8_0 v8_1 (K : KT ρ) : f6i N (f6c 6143) .n (f6s6 v6 v9 v10 v8_2 v1 v7 v11 v2_0 v2_1 v2_2 v8_0 v8_1) (joinK (some f6l6) K) =
  laws_FnExactGVectorsOf.Z23 N v6 v9 v10 v8_2 v1 v7 v11 v2_0 v2_1 v2_2 v8_0 v8_1 (fun v6 v9 v10 v8_2 v1 v7 v11 v2_0 v2_1 v2_2 v8_0 v8_1 => K .nrm (f6s6 v6 v9 v10 v8_2 v1 v7 v11 v2_0 v2_1 v2_2 v8_0 v8_1)) (fun v4 => K .ret (f6s11 v4)) := by kernel_rfl
theorem f6t25 N v6 v9 v10 v8_2 v1 v7 v11 v2_0 v2_1 v2_2 v8_0 v8_1 (K : KT ρ) : f6i N (f6c 12287) .n (f6s6 v6 v9 v10 v8_2 v1 v7 v11 v2_0 v2_1 v2_2 v8_0 v8_1) (joinK (some f6l7) K) =
  laws_FnExactGVectorsOf.Z25 N v6 v9 v10 v8_2 v1 v7 v11 v2_0 v2_1 v2_2 v8_0 v8_1 (fun v6 v9 v10 v8_2 v1 v7 v11 v12 v2_0 v2_1 v2_2 v8_0 v8_1 => K .nrm (f6s7 v6 v9 v10 v8_2 v1 v7 v11 v12 v2_0 v2_1 v2_2 v8_0 v8_1)) := by kernel_rfl
theorem f6t27 N v6 v9 v10 v8_2 v1 v7 v11 v12 v2_0 v2_1 v2_2 v8_0 v8_1 (K : KT ρ) : f6i N (f6c 24575) .n (f6s7 v6 v9 v10 v8_2 v1 v7 v11 v12 v2_0 v2_1 v2_2 v8_0 v8_1) (joinK (some f6l8) K) =
  laws_FnExactGVectorsOf.Z27 N v6 v9 v10 v8_2 v1 v7 v11 v12 v2_0 v2_1 v2_2 v8_0 v8_1 (fun v6 v9 v10 v1 v7 v11 v12 v2_0 v2_1 v2_2 => K .nrm (f6s8 v6 v9 v10 v1 v7 v11 v12 v2_0 v2_1 v2_2)) := by kernel_rfl
theorem f6t29 N v6 v9 v10 v1 v7 v11 v12 v2_0 v2_1 v2_2 (K : KT ρ) : f6i N (f6c 49151) .n (f6s8 v6 v9 v10 v1 v7 v11 v12 v2_0 v2_1 v2_2) (joinK (some f6l9) K) =
  laws_FnExactGVectorsOf.Z29 N v6 v9 v10 v1 v7 v11 v12 v2_0 v2_1 v2_2 (fun v6 v10 v1 v7 v11 v12 v2_0 v2_1 v2_2 => K .nrm (f6s9 v6 v10 v1 v7 v11 v12 v2_0 v2_1 v2_2)) := by kernel_rfl
theorem f6t31 N v6 v10 v1 v7 v11 v12 v2_0 v2_1 v2_2 (K : KT ρ) : f6i N (f6c 98303) .n (f6s9 v6 v10 v1 v7 v11 v12 v2_0 v2_1 v2_2) (joinK (some f6l10) K) =
  laws_FnExactGVectorsOf.Z31 N v6 v10 v1 v7 v11 v12 v2_0 v2_1 v2_2 (fun v6 v10 v1 v7 v2_0 v2_1 v2_2 => K .nrm (f6s10 v6 v10 v1 v7 v2_0 v2_1 v2_2)) (fun v4 => K .ret (f6s11 v4)) := by kernel_rfl
theorem f6t32 N v6 v10 v1 v7 v2_0 v2_1 v2_2 (K : KT ρ) : f6i N (f6c 131071) .n (f6s10 v6 v10 v1 v7 v2_0 v2_1 v2_2) (joinK (some f6lE) K) =
  laws_FnExactGVectorsOf.Z32 N v6 v10 v1 v7 v2_0 v2_1 v2_2 (fun v4 => K .ret (f6s11 v4)) := by kernel_rfl
noncomputable def f6p30 : Plan := .mk (some f6l10) none .n .n
theorem f6t30 N v6 v10 v1 v7 v11 v12 v2_0 v2_1 v2_2 (K : KT ρ) : f6i N (f6c 65535) f6p30 (f6s9 v6 v10 v1 v7 v11 v12 v2_0 v2_1 v2_2) (joinK (some f6lE) K) =
  laws_FnExactGVectorsOf.Z30 N v6 v10 v1 v7 v11 v12 v2_0 v2_1 v2_2 (fun v4 => K .ret (f6s11 v4)) :=
 viaSeqS (fun k => laws_FnExactGVectorsOf.Z31 N v6 v10 v1 v7 v11 v12 v2_0 v2_1 v2_2 k (fun v4 => K .ret (f6s11 v4))) (by kernel_rfl) (f6t31 N (K := seqK (fun σ => f6i N (f6c 131071) .n σ (joinK (some f6lE) K)) (joinK (some f6lE) K)) ..) (fx7 fun v6 v10 v1 v7 v2_0 v2_1 v2_2 => f6t32 N v6 v10 v1 v7 v2_0 v2_1 v2_2 K) (by kernel_rfl)
noncomputable def f6p28 : Plan := .mk (some f6l9) none .n f6p30
theorem f6t28 N v6 v9 v10 v1 v7 v11 v12 v2_0 v2_1 v2_2 (K : KT ρ) : f6i N (f6c 32767) f6p28 (f6s8 v6 v9 v10 v1 v7 v11 v12 v2_0 v2_1 v2_2) (joinK (some f6lE) K) =
  laws_FnExactGVectorsOf.Z28 N v6 v9 v10 v1 v7 v11 v12 v2_0 v2_1 v2_2 (fun v4 => K .ret (f6s11 v4)) :=
 viaSeqS (fun k => laws_FnExactGVectorsOf.Z29 N v6 v9 v10 v1 v7 v11 v12 v2_0 v2_1 v2_2 k) (by kernel_rfl) (f6t29 N (K := seqK (fun σ => f6i N (f6c 65535) f6p30 σ (joinK (some f6lE) K)) (joinK (some f6lE) K)) ..) (fx9 fun v6 v10 v1 v7 v11 v12 v2_0 v2_1 v2_2 => f6t30 N v6 v10 v1 v7 v11 v12 v2_0 v2_1 v2_2 K) (by kernel_rfl)
noncomputable def f6p26 : Plan := .mk (some f6l8) none .n f6p28
theorem f6t26 N v6 v9 v10 v8_2 v1 v7 v11 v12 v2_0 v2_1 v2_2 v8_0 v8_1 (K : KT ρ) : f6i N (f6c 16383) f6p26 (f6s7 v6 v9 v10 v8_2 v1 v7 v11 v12 v2_0 v2_1 v2_2 v8_0 v8_1) (joinK (some f6lE) K) =
  laws_FnExactGVectorsOf.Z26 N v6 v9 v10 v8_2 v1 v7 v11 v12 v2_0 v2_1 v2_2 v8_0 v8_1 (fun v4 => K .ret (f6s11 v4)) :=
 viaSeqS (fun k => laws_FnExactGVectorsOf.Z27 N v6 v9 v10 v8_2 v1 v7 v11 v12 v2_0 v2_1 v2_2 v8_0 v8_1 k) (by kernel_rfl) (f6t27 N (K := seqK (fun σ => f6i N (f6c 32767) f6p28 σ (joinK (some f6lE) K)) (joinK (some f6lE) K)) ..) (fx10 fun v6 v9 v10 v1 v7 v11 v12 v2_0 v2_1 v2_2 => f6t28 N v6 v9 v10 v1 v7 v11 v12 v2_0 v2_1 v2_2 K) (by kernel_rfl)
noncomputable def f6p24 : Plan := .mk (some f6l7) none .n f6p26
theorem f6t24 N v6 v9 v10 v8_2 v1 v7 v11 v2_0 v2_1 v2_2 v8_0 v8_1 (K : KT ρ) : f6i N (f6c 8191) f6p24 (f6s6 v6 v9 v10 v8_2 v1 v7 v11 v2_0 v2_1 v2_2 v8_0 v8_1) (joinK (some f6lE) K) =
  laws_FnExactGVectorsOf.Z24 N v6 v9 v10 v8_2 v1 v7 v11 v2_0 v2_1 v2_2 v8_0 v8_1 (fun v4 => K .ret (f6s11 v4)) :=
 viaSeqS (fun k => laws_FnExactGVectorsOf.Z25 N v6 v9 v10 v8_2 v1 v7 v11 v2_0 v2_1 v2_2 v8_0 v8_1 k) (by kernel_rfl) (f6t25 N (K := seqK (fun σ => f6i N (f6c 16383) f6p26 σ (joinK (some f6lE) K)) (joinK (some f6lE) K)) ..) (fx13 fun v6 v9 v10 v8_2 v1 v7 v11 v12 v2_0 v2_1 v2_2 v8_0 v8_1 => f6t26 N v6 v9 v10 v8_2 v1 v7 v11 v12 v2_0 v2_1 v2_2 v8_0 v8_1 K) (by kernel_rfl)
noncomputable def f6p22 : Plan := .mk (some f6l6) none .n f6p24
theorem f6t22 N v6 v9 v10 v8_2 v1 v7 v11 v2_0 v2_1 v2_2 v8_0 v8_1 (K : KT ρ) : f6i N (f6c 4095) f6p22 (f6s6 v6 v9 v10 v8_2 v1 v7 v11 v2_0 v2_1 v2_2 v8_0 v8_1) (joinK (some f6lE) K) =
  laws_FnExactGVectorsOf.Z22 N v6 v9 v10 v8_2 v1 v7 v11 v2_0 v2_1 v2_2 v8_0 v8_1 (fun v4 => K .ret (f6s11 v4)) :=
 viaSeqS (fun k => laws_FnExactGVectorsOf.Z23 N v6 v9 v10 v8_2 v1 v7 v11 v2_0 v2_1 v2_2 v8_0 v8_1 k (fun v4 => K .ret (f6s11 v4))) (by kernel_rfl) (f6t23 N (K := seqK (fun σ => f6i N (f6c 8191) f6p24 σ (joinK (some f6lE) K)) (joinK (some f6lE) K)) ..) (fx12 fun v6 v9 v10 v8_2 v1 v7 v11 v2_0 v2_1 v2_2 v8_0 v8_1 => f6t24 N v6 v9 v10 v8_2 v1 v7 v11 v2_0 v2_1 v2_2 v8_0 v8_1 K) (by kernel_rfl)
noncomputable def f6p20 : Plan := .mk (some f6l6) none .n f6p22
theorem f6t20 N v6 v9 v10 v8_2 v1 v7 v11 v2_0 v2_1 v2_2 v8_0 v8_1 (K : KT ρ) : f6i N (f6c 2047) f6p20 (f6s6 v6 v9 v10 v8_2 v1 v7 v11 v2_0 v2_1 v2_2 v8_0 v8_1) (joinK (some f6lE) K) =
  laws_FnExactGVectorsOf.Z20 N v6 v9 v10 v8_2 v1 v7 v11 v2_0 v2_1 v2_2 v8_0 v8_1 (fun v4 => K .ret (f6s11 v4)) :=
 viaSeqS (fun k => laws_FnExactGVectorsOf.Z21 N v6 v9 v10 v8_2 v1 v7 v11 v2_0 v2_1 v2_2 v8_0 v8_1 k (fun v4 => K .ret (f6s11 v4))) (by kernel_rfl) (f6t21 N (K := seqK (fun σ => f6i N (f6c 4095) f6p22 σ (joinK (some f6lE) K)) (joinK (some f6lE) K)) ..) (fx12 fun v6 v9 v10 v8_2 v1 v7 v11 v2_0 v2_1 v2_2 v8_0 v8_1 => f6t22 N v6 v9 v10 v8_2 v1 v7 v11 v2_0 v2_1 v2_2 v8_0 v8_1 K) (by kernel_rfl)
noncomputable def f6p18 : Plan := .mk (some f6l6) none .n f6p20
theorem f6t18 N v6 v9 v10 v8_2 v1 v7 v11 v2_0 v2_1 v2_2 v8_0 v8_1 (K : KT ρ) : f6i N (f6c 1023) f6p18 (f6s6 v6 v9 v10 v8_2 v1 v7 v11 v2_0 v2_1 v2_2 v8_0 v8_1) (joinK (some f6lE) K) =
  laws_FnExactGVectorsOf.Z18 N v6 v9 v10 v8_2 v1 v7 v11 v2_0 v2_1 v2_2 v8_0 v8_1 (fun v4 => K .ret (f6s11 v4)) :=
 viaSeqS (fun k => laws_FnExactGVectorsOf.Z19 N v6 v9 v10 v8_2 v1 v7 v11 v2_0 v2_1 v2_2 v8_0 v8_1 k (fun v4 => K .ret (f6s11 v4))) (by kernel_rfl) (f6t19 N (K := seqK (fun σ => f6i N (f6c 2047) f6p20 σ (joinK (some f6lE) K)) (joinK (some f6lE) K)) ..) (fx12 fun v6 v9 v10 v8_2 v1 v7 v11 v2_0 v2_1 v2_2 v8_0 v8_1 => f6t20 N v6 v9 v10 v8_2 v1 v7 v11 v2_0 v2_1 v2_2 v8_0 v8_1 K) (by kernel_rfl)
noncomputable def f6p16 : Plan := .mk (some f6l6) none .n f6p18
theorem f6t16 N v6 v9 v8_2 v1 v7 v2_0 v2_1 v2_2 v8_0 v8_1 (K : KT ρ) : f6i N (f6c 511) f6p16 (f6s5 v6 v9 v8_2 v1 v7 v2_0 v2_1 v2_2 v8_0 v8_1) (joinK (some f6lE) K) =
  laws_FnExactGVectorsOf.Z16 N v6 v9 v8_2 v1 v7 v2_0 v2_1 v2_2 v8_0 v8_1 (fun v4 => K .ret (f6s11 v4)) :=
 viaSeqS (fun k => laws_FnExactGVectorsOf.Z17 N v6 v9 v8_2 v1 v7 v2_0 v2_1 v2_2 v8_0 v8_1 k) (by kernel_rfl) (f6t17 N (K := seqK (fun σ => f6i N (f6c 1023) f6p18 σ (joinK (some f6lE) K)) (joinK (some f6lE) K)) ..) (fx12 fun v6 v9 v10 v8_2 v1 v7 v11 v2_0 v2_1 v2_2 v8_0 v8_1 => f6t18 N v6 v9 v10 v8_2 v1 v7 v11 v2_0 v2_1 v2_2 v8_0 v8_1 K) (by kernel_rfl)
noncomputable def f6p14 : Plan := .mk (some f6l5) none .n f6p16
theorem f6t14 N v6 v8_2 v1 v7 v2_0 v2_1 v2_2 v8_0 v8_1 (K : KT ρ) : f6i N (f6c 255) f6p14 (f6s4 v6 v8_2 v1 v7 v2_0 v2_1 v2_2 v8_0 v8_1) (joinK (some f6lE) K) =
  laws_FnExactGVectorsOf.Z14 N v6 v8_2 v1 v7 v2_0 v2_1 v2_2 v8_0 v8_1 (fun v4 => K .ret (f6s11 v4)) :=
 viaSeqS (fun k => laws_FnExactGVectorsOf.Z15 N v6 v8_2 v1 v7 v2_0 v2_1 v2_2 v8_0 v8_1 k) (by kernel_rfl) (f6t15 N (K := seqK (fun σ => f6i N (f6c 511) f6p16 σ (joinK (some f6lE) K)) (joinK (some f6lE) K)) ..) (fx10 fun v6 v9 v8_2 v1 v7 v2_0 v2_1 v2_2 v8_0 v8_1 => f6t16 N v6 v9 v8_2 v1 v7 v2_0 v2_1 v2_2 v8_0 v8_1 K) (by kernel_rfl)
noncomputable def f6p12 : Plan := .mk (some f6l4) none .n f6p14
theorem f6t12 N v6 v1 v7 v2_0 v2_1 v2_2 (K : KT ρ) : f6i N (f6c 127) f6p12 (f6s3 v6 v1 v7 v2_0 v2_1 v2_2) (joinK (some f6lE) K) =
  laws_FnExactGVectorsOf.Z12 N v6 v1 v7 v2_0 v2_1 v2_2 (fun v4 => K .ret (f6s11 v4)) :=
 viaSeqS (fun k => laws_FnExactGVectorsOf.Z13 N v6 v1 v7 v2_0 v2_1 v2_2 k) (by kernel_rfl) (f6t13 N (K := seqK (fun σ => f6i N (f6c 255) f6p14 σ (joinK (some f6lE) K)) (joinK (some f6lE) K)) ..) (fx9 fun v6 v8_2 v1 v7 v2_0 v2_1 v2_2 v8_0 v8_1 => f6t14 N v6 v8_2 v1 v7 v2_0 v2_1 v2_2 v8_0 v8_1 K) (by kernel_rfl)
noncomputable def f6p10 : Plan := .mk (some f6l3) none .n f6p12
theorem f6t10 N v1 v2_0 v2_1 v2_2 (K : KT ρ) : f6i N (f6c 63) f6p10 (f6s1 v1 v2_0 v2_1 v2_2) (joinK (some f6lE) K) =
  laws_FnExactGVectorsOf.Z10 N v1 v2_0 v2_1 v2_2 (fun v4 => K .ret (f6s11 v4)) :=
 viaSeqS (fun k => laws_FnExactGVectorsOf.Z11 N v1 v2_0 v2_1 v2_2 k) (by kernel_rfl) (f6t11 N (K := seqK (fun σ => f6i N (f6c 127) f6p12 σ (joinK (some f6lE) K)) (joinK (some f6lE) K)) ..) (fx6 fun v6 v1 v7 v2_0 v2_1 v2_2 => f6t12 N v6 v1 v7 v2_0 v2_1 v2_2 K) (by kernel_rfl)
noncomputable def f6p8 : Plan := .mk (some f6l1) none .n f6p10
theorem f6t8 N v1 v5 v2_0 v2_1 v2_2 (K : KT ρ) : f6i N (f6c 31) f6p8 (f6s2 v1 v5 v2_0 v2_1 v2_2) (joinK (some f6lE) K) =
  laws_FnExactGVectorsOf.Z8 N v1 v5 v2_0 v2_1 v2_2 (fun v4 => K .ret (f6s11 v4)) :=
 viaSeqS (fun k => laws_FnExactGVectorsOf.Z9 N v1 v5 v2_0 v2_1 v2_2 k (fun v4 => K .ret (f6s11 v4))) (by kernel_rfl) (f6t9 N (K := seqK (fun σ => f6i N (f6c 63) f6p10 σ (joinK (some f6lE) K)) (joinK (some f6lE) K)) ..) (fx4 fun v1 v2_0 v2_1 v2_2 => f6t10 N v1 v2_0 v2_1 v2_2 K) (by kernel_rfl)
noncomputable def f6p6 : Plan := .mk (some f6l2) none .n f6p8
theorem f6t6 N v1 v5 v2_0 v2_1 v2_2 (K : KT ρ) : f6i N (f6c 15) f6p6 (f6s2 v1 v5 v2_0 v2_1 v2_2) (joinK (some f6lE) K) =
  laws_FnExactGVectorsOf.Z6 N v1 v5 v2_0 v2_1 v2_2 (fun v4 => K .ret (f6s11 v4)) :=
 viaSeqS (fun k => laws_FnExactGVectorsOf.Z7 N v1 v5 v2_0 v2_1 v2_2 k) (by kernel_rfl) (f6t7 N (K := seqK (fun σ => f6i N (f6c 31) f6p8 σ (joinK (some f6lE) K)) (joinK (some f6lE) K)) ..) (fx5 fun v1 v5 v2_0 v2_1 v2_2 => f6t8 N v1 v5 v2_0 v2_1 v2_2 K) (by kernel_rfl)
noncomputable def f6p4 : Plan := .mk (some f6l2) none .n f6p6
theorem f6t4 N v1 v2_0 v2_1 v2_2 (K : KT ρ) : f6i N (f6c 7) f6p4 (f6s1 v1 v2_0 v2_1 v2_2) (joinK (some f6lE) K) =
  laws_FnExactGVectorsOf.Z4 N v1 v2_0 v2_1 v2_2 (fun v4 => K .ret (f6s11 v4)) :=
 viaSeqS (fun k => laws_FnExactGVectorsOf.Z5 N v1 v2_0 v2_1 v2_2 k) (by kernel_rfl) (f6t5 N (K := seqK (fun σ => f6i N (f6c 15) f6p6 σ (joinK (some f6lE) K)) (joinK (some f6lE) K)) ..) (fx5 fun v1 v5 v2_0 v2_1 v2_2 => f6t6 N v1 v5 v2_0 v2_1 v2_2 K) (by kernel_rfl)
noncomputable def f6p2 : Plan := .mk (some f6l1) none .n f6p4
theorem f6t2 N v1 v2_0 v2_1 v2_2 (K : KT ρ) : f6i N (f6c 3) f6p2 (f6s1 v1 v2_0 v2_1 v2_2) (joinK (some f6lE) K) =
  laws_FnExactGVectorsOf.Z2 N v1 v2_0 v2_1 v2_2 (fun v4 => K .ret (f6s11 v4)) :=
 viaSeqS (fun k => laws_FnExactGVectorsOf.Z3 N v1 v2_0 v2_1 v2_2 k (fun v4 => K .ret (f6s11 v4))) (by kernel_rfl) (f6t3 N (K := seqK (fun σ => f6i N (f6c 7) f6p4 σ (joinK (some f6lE) K)) (joinK (some f6lE) K)) ..) (fx4 fun v1 v2_0 v2_1 v2_2 => f6t4 N v1 v2_0 v2_1 v2_2 K) (by kernel_rfl)
noncomputable def f6p0 : Plan := .mk (some f6l1) none .n f6p2
theorem f6t0 N v0 v1 (K : KT ρ) : f6i N (f6c 1) f6p0 (f6s0 v0 v1) (joinK (some f6lE) K) =
  laws_FnExactGVectorsOf.Z0 N v0 v1 (fun v4 => K .ret (f6s11 v4)) :=
 viaSeqS (fun k => laws_FnExactGVectorsOf.Z1 N v0 v1 k) (by kernel_rfl) (f6t1 N (K := seqK (fun σ => f6i N (f6c 3) f6p2 σ (joinK (some f6lE) K)) (joinK (some f6lE) K)) ..) (fx4 fun v1 v2_0 v2_1 v2_2 => f6t2 N v1 v2_0 v2_1 v2_2 K) (by kernel_rfl)
theorem f6m (N : Nat) (v0 : MT) (v1 : LI) : f6i N (f6c 1) f6p0 (f6s0 v0 v1) (joinK (some f6lE) (finK tab f6sig Try.f6.results.toList)) = laws_FnExactGVectorsOf.Z0 N v0 v1 (fun v4 => some ((), (v4, ()))) :=
  (f6t0 N v0 v1 (finK tab f6sig Try.f6.results.toList)).trans (by kernel_rfl)
theorem f6ok (h : laws_FnExactGVectorsOf.Spec) : EntryOk Try.prog 6 e6 :=
  entry_of_code (sig := f6sig) (c := (f6c 1)) (pl := f6p0) (je := (some f6lE)) (B := f6B) Try.func6 (by kernel_rfl) (by kernel_rfl) (by kernel_rfl) tabOk f6GOk (by kernel_rfl) (by kernel_rfl) (by kernel_rfl) (by kernel_rfl) fun X hb hp => by
    obtain ⟨v0, v1, _⟩ := X
    obtain ⟨N, h⟩ := h v0 v1 hb.1 hb.2.1
    exact ⟨N, (f6m N v0 v1).trans (h N (Nat.le_refl N))⟩
theorem e6ok : EntryOk Try.prog 6 e6 := f6ok laws_FnExactGVectorsOf.ok
end Go.Fw
