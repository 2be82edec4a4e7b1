/- The ties: the program's text comes to the plain functions. Nothing is assumed. -/
import Derived.Test.YtkjnhmjfdfiklaaDoorPuFnExactParseMatrixb
import Derived.Test.YtkjnhmjfdfiklaaDoorTiFnExactParseMatrixa
import Derived.Test.YtkjnhmjfdfiklaaDoorPuFnExactParseMatrixa
set_option linter.unusedVariables false
set_option linter.unusedSimpArgs false
set_option maxRecDepth 100000
namespace Go.Fw
variable {ρ : Type}
open Go.Proofs
noncomputable def f63sig : Sig := ⟨[⟨.pair (.int .i64) (.pair (.int .i64) (.sl 3 (.int .i64))), true, false⟩], [⟨.sl 3 (.int .i64), false, true⟩]⟩
noncomputable def e63 : Entry := ⟨f63sig, (some fun X => impl_factors.P X.1), fun X => ((), ((impl_factors.g X.1), ()))⟩
noncomputable def f63G : Gm := addG (addG emptyG 93 e93) 94 e94
theorem f63GOk : GOk Tryd.prog f63G := ((GOk.nil).add e93ok (by kernel_rfl)).add e94ok (by kernel_rfl)
noncomputable def f63lE : Clean := ⟨[], [], [], [], []⟩
noncomputable def f63s0 (v0 : MT) : St := initSt f63sig.ps (v0, ())
noncomputable def f63s1 (v1_0 v1_1 : Int) (v1_2 : LI) : St := stOf [(1, xb 1)] [(1, (29, [yi v1_0, yi v1_1, .sn 3 tI v1_2 none]))] []
noncomputable def f63l1 : Clean := ⟨[1], [1], [], [], []⟩
noncomputable def f63s2 (v3 v4 : LI) (v1_0 v1_1 : Int) (v1_2 : LI) : St := stOf [(1, xb 1), (3, xo 1000192), (4, xo 1000256)] [(1, (29, [yi v1_0, yi v1_1, .sn 3 tI v1_2 none]))] [(1000192, (⟨3, .int .i64, v3, true, false⟩ : Row)), (1000256, (⟨3, .int .i64, v4, true, false⟩ : Row))]
noncomputable def f63l2 : Clean := ⟨[1, 3, 4], [1], [], [], [(⟨false, 3, 0⟩, 1000192), (⟨false, 4, 0⟩, 1000256)]⟩
noncomputable def f63s3 (v3 v4 v5 : LI) (v1_0 v1_1 : Int) (v1_2 : LI) : St := stOf [(1, xb 1), (3, xo 1000192), (4, xo 1000256), (5, xo 1000320)] [(1, (29, [yi v1_0, yi v1_1, .sn 3 tI v1_2 none]))] [(1000192, (⟨3, .int .i64, v3, true, false⟩ : Row)), (1000256, (⟨3, .int .i64, v4, true, false⟩ : Row)), (1000320, (⟨3, .int .i64, v5, true, false⟩ : Row))]
noncomputable def f63l3 : Clean := ⟨[1, 3, 4, 5], [1], [], [], [(⟨false, 3, 0⟩, 1000192), (⟨false, 4, 0⟩, 1000256), (⟨false, 5, 0⟩, 1000320)]⟩
noncomputable def f63s4 (v3 v4 v5 : LI) (v34 v35 v1_0 v1_1 : Int) (v1_2 : LI) : St := stOf [(1, xb 1), (3, xo 1000192), (4, xo 1000256), (5, xo 1000320), (34, xi v34), (35, xi v35)] [(1, (29, [yi v1_0, yi v1_1, .sn 3 tI v1_2 none]))] [(1000192, (⟨3, .int .i64, v3, true, false⟩ : Row)), (1000256, (⟨3, .int .i64, v4, true, false⟩ : Row)), (1000320, (⟨3, .int .i64, v5, true, false⟩ : Row))]
noncomputable def f63l4 : Clean := ⟨[1, 3, 4, 5, 34, 35], [1], [], [], [(⟨false, 3, 0⟩, 1000192), (⟨false, 4, 0⟩, 1000256), (⟨false, 5, 0⟩, 1000320)]⟩
noncomputable def f63s5 (v3 v4 v5 : LI) (v34 v35 : Int) (v36 : Bool) (v1_0 v1_1 : Int) (v1_2 : LI) : St := stOf [(1, xb 1), (3, xo 1000192), (4, xo 1000256), (5, xo 1000320), (34, xi v34), (35, xi v35), (36, xB v36)] [(1, (29, [yi v1_0, yi v1_1, .sn 3 tI v1_2 none]))] [(1000192, (⟨3, .int .i64, v3, true, false⟩ : Row)), (1000256, (⟨3, .int .i64, v4, true, false⟩ : Row)), (1000320, (⟨3, .int .i64, v5, true, false⟩ : Row))]
noncomputable def f63l5 : Clean := ⟨[1, 3, 4, 5, 34, 35, 36], [1], [], [], [(⟨false, 3, 0⟩, 1000192), (⟨false, 4, 0⟩, 1000256), (⟨false, 5, 0⟩, 1000320)]⟩
noncomputable def f63s6 (v3 v4 v5 : LI) (v6 v34 v35 v1_0 v1_1 : Int) (v1_2 : LI) : St := stOf [(1, xb 1), (3, xo 1000192), (4, xo 1000256), (5, xo 1000320), (6, xi v6), (34, xi v34), (35, xi v35)] [(1, (29, [yi v1_0, yi v1_1, .sn 3 tI v1_2 none]))] [(1000192, (⟨3, .int .i64, v3, true, false⟩ : Row)), (1000256, (⟨3, .int .i64, v4, true, false⟩ : Row)), (1000320, (⟨3, .int .i64, v5, true, false⟩ : Row))]
noncomputable def f63l6 : Clean := ⟨[1, 3, 4, 5, 6, 34, 35], [1], [], [], [(⟨false, 3, 0⟩, 1000192), (⟨false, 4, 0⟩, 1000256), (⟨false, 5, 0⟩, 1000320)]⟩
noncomputable def f63s7 (v3 v4 v5 v7 : LI) (v34 v35 v1_0 v1_1 : Int) (v1_2 : LI) : St := stOf [(1, xb 1), (3, xo 1000192), (4, xo 1000256), (5, xo 1000320), (7, xo 1000448), (34, xi v34), (35, xi v35)] [(1, (29, [yi v1_0, yi v1_1, .sn 3 tI v1_2 none]))] [(1000192, (⟨3, .int .i64, v3, true, false⟩ : Row)), (1000256, (⟨3, .int .i64, v4, true, false⟩ : Row)), (1000320, (⟨3, .int .i64, v5, true, false⟩ : Row)), (1000448, (⟨3, .int .i64, v7, true, false⟩ : Row))]
noncomputable def f63l7 : Clean := ⟨[1, 3, 4, 5, 7, 34, 35], [1], [], [], [(⟨false, 3, 0⟩, 1000192), (⟨false, 4, 0⟩, 1000256), (⟨false, 5, 0⟩, 1000320), (⟨false, 7, 0⟩, 1000448)]⟩
noncomputable def f63s8 (v3 v4 v5 v7 : LI) (v8 v34 v35 v1_0 v1_1 : Int) (v1_2 : LI) : St := stOf [(1, xb 1), (3, xo 1000192), (4, xo 1000256), (5, xo 1000320), (7, xo 1000448), (8, xi v8), (34, xi v34), (35, xi v35)] [(1, (29, [yi v1_0, yi v1_1, .sn 3 tI v1_2 none]))] [(1000192, (⟨3, .int .i64, v3, true, false⟩ : Row)), (1000256, (⟨3, .int .i64, v4, true, false⟩ : Row)), (1000320, (⟨3, .int .i64, v5, true, false⟩ : Row)), (1000448, (⟨3, .int .i64, v7, true, false⟩ : Row))]
noncomputable def f63l8 : Clean := ⟨[1, 3, 4, 5, 7, 8, 34, 35], [1], [], [], [(⟨false, 3, 0⟩, 1000192), (⟨false, 4, 0⟩, 1000256), (⟨false, 5, 0⟩, 1000320), (⟨false, 7, 0⟩, 1000448)]⟩
noncomputable def f63s9 (v3 v4 v5 v7 : LI) (v8 v9 v34 v35 v1_0 v1_1 : Int) (v1_2 : LI) : St := stOf [(1, xb 1), (3, xo 1000192), (4, xo 1000256), (5, xo 1000320), (7, xo 1000448), (8, xi v8), (9, xi v9), (34, xi v34), (35, xi v35)] [(1, (29, [yi v1_0, yi v1_1, .sn 3 tI v1_2 none]))] [(1000192, (⟨3, .int .i64, v3, true, false⟩ : Row)), (1000256, (⟨3, .int .i64, v4, true, false⟩ : Row)), (1000320, (⟨3, .int .i64, v5, true, false⟩ : Row)), (1000448, (⟨3, .int .i64, v7, true, false⟩ : Row))]
noncomputable def f63l9 : Clean := ⟨[1, 3, 4, 5, 7, 8, 9, 34, 35], [1], [], [], [(⟨false, 3, 0⟩, 1000192), (⟨false, 4, 0⟩, 1000256), (⟨false, 5, 0⟩, 1000320), (⟨false, 7, 0⟩, 1000448)]⟩
noncomputable def f63s10 (v3 v4 v5 v7 : LI) (v8 v9 v34 v35 v62 v63 v1_0 v1_1 : Int) (v1_2 : LI) : St := stOf [(1, xb 1), (3, xo 1000192), (4, xo 1000256), (5, xo 1000320), (7, xo 1000448), (8, xi v8), (9, xi v9), (34, xi v34), (35, xi v35), (62, xi v62), (63, xi v63)] [(1, (29, [yi v1_0, yi v1_1, .sn 3 tI v1_2 none]))] [(1000192, (⟨3, .int .i64, v3, true, false⟩ : Row)), (1000256, (⟨3, .int .i64, v4, true, false⟩ : Row)), (1000320, (⟨3, .int .i64, v5, true, false⟩ : Row)), (1000448, (⟨3, .int .i64, v7, true, false⟩ : Row))]
noncomputable def f63l10 : Clean := ⟨[1, 3, 4, 5, 7, 8, 9, 34, 35, 62, 63], [1], [], [], [(⟨false, 3, 0⟩, 1000192), (⟨false, 4, 0⟩, 1000256), (⟨false, 5, 0⟩, 1000320), (⟨false, 7, 0⟩, 1000448)]⟩
noncomputable def f63s11 (v3 v4 v5 v7 : LI) (v8 v9 v34 v35 v62 v63 : Int) (v64 : Bool) (v1_0 v1_1 : Int) (v1_2 : LI) : St := stOf [(1, xb 1), (3, xo 1000192), (4, xo 1000256), (5, xo 1000320), (7, xo 1000448), (8, xi v8), (9, xi v9), (34, xi v34), (35, xi v35), (62, xi v62), (63, xi v63), (64, xB v64)] [(1, (29, [yi v1_0, yi v1_1, .sn 3 tI v1_2 none]))] [(1000192, (⟨3, .int .i64, v3, true, false⟩ : Row)), (1000256, (⟨3, .int .i64, v4, true, false⟩ : Row)), (1000320, (⟨3, .int .i64, v5, true, false⟩ : Row)), (1000448, (⟨3, .int .i64, v7, true, false⟩ : Row))]
noncomputable def f63l11 : Clean := ⟨[1, 3, 4, 5, 7, 8, 9, 34, 35, 62, 63, 64], [1], [], [], [(⟨false, 3, 0⟩, 1000192), (⟨false, 4, 0⟩, 1000256), (⟨false, 5, 0⟩, 1000320), (⟨false, 7, 0⟩, 1000448)]⟩
noncomputable def f63s12 (v3 v4 v5 v7 : LI) (v8 v9 v10 v34 v35 v62 v63 v1_0 v1_1 : Int) (v1_2 : LI) : St := stOf [(1, xb 1), (3, xo 1000192), (4, xo 1000256), (5, xo 1000320), (7, xo 1000448), (8, xi v8), (9, xi v9), (10, xi v10), (34, xi v34), (35, xi v35), (62, xi v62), (63, xi v63)] [(1, (29, [yi v1_0, yi v1_1, .sn 3 tI v1_2 none]))] [(1000192, (⟨3, .int .i64, v3, true, false⟩ : Row)), (1000256, (⟨3, .int .i64, v4, true, false⟩ : Row)), (1000320, (⟨3, .int .i64, v5, true, false⟩ : Row)), (1000448, (⟨3, .int .i64, v7, true, false⟩ : Row))]
noncomputable def f63l12 : Clean := ⟨[1, 3, 4, 5, 7, 8, 9, 10, 34, 35, 62, 63], [1], [], [], [(⟨false, 3, 0⟩, 1000192), (⟨false, 4, 0⟩, 1000256), (⟨false, 5, 0⟩, 1000320), (⟨false, 7, 0⟩, 1000448)]⟩
noncomputable def f63s13 (v3 v4 v5 v7 : LI) (v8 v9 v10 v11 v12 v34 v35 v62 v63 v1_0 v1_1 : Int) (v1_2 : LI) : St := stOf [(1, xb 1), (3, xo 1000192), (4, xo 1000256), (5, xo 1000320), (7, xo 1000448), (8, xi v8), (9, xi v9), (10, xi v10), (11, xi v11), (12, xi v12), (34, xi v34), (35, xi v35), (62, xi v62), (63, xi v63)] [(1, (29, [yi v1_0, yi v1_1, .sn 3 tI v1_2 none]))] [(1000192, (⟨3, .int .i64, v3, true, false⟩ : Row)), (1000256, (⟨3, .int .i64, v4, true, false⟩ : Row)), (1000320, (⟨3, .int .i64, v5, true, false⟩ : Row)), (1000448, (⟨3, .int .i64, v7, true, false⟩ : Row))]
noncomputable def f63l13 : Clean := ⟨[1, 3, 4, 5, 7, 8, 9, 10, 11, 12, 34, 35, 62, 63], [1], [], [], [(⟨false, 3, 0⟩, 1000192), (⟨false, 4, 0⟩, 1000256), (⟨false, 5, 0⟩, 1000320), (⟨false, 7, 0⟩, 1000448)]⟩
noncomputable def f63s14 (v3 v4 v5 v7 : LI) (v16 v34 v35 v1_0 v1_1 : Int) (v1_2 : LI) : St := stOf [(1, xb 1), (3, xo 1000192), (4, xo 1000256), (5, xo 1000320), (7, xo 1000448), (16, xi v16), (34, xi v34), (35, xi v35)] [(1, (29, [yi v1_0, yi v1_1, .sn 3 tI v1_2 none]))] [(1000192, (⟨3, .int .i64, v3, true, false⟩ : Row)), (1000256, (⟨3, .int .i64, v4, true, false⟩ : Row)), (1000320, (⟨3, .int .i64, v5, true, false⟩ : Row)), (1000448, (⟨3, .int .i64, v7, true, false⟩ : Row))]
noncomputable def f63l14 : Clean := ⟨[1, 3, 4, 5, 7, 16, 34, 35], [1], [], [], [(⟨false, 3, 0⟩, 1000192), (⟨false, 4, 0⟩, 1000256), (⟨false, 5, 0⟩, 1000320), (⟨false, 7, 0⟩, 1000448)]⟩
noncomputable def f63s15 (v3 v4 v5 v7 : LI) (v16 v34 v35 v159 v160 v1_0 v1_1 : Int) (v1_2 : LI) : St := stOf [(1, xb 1), (3, xo 1000192), (4, xo 1000256), (5, xo 1000320), (7, xo 1000448), (16, xi v16), (34, xi v34), (35, xi v35), (158, xo 1000448), (159, xi v159), (160, xi v160)] [(1, (29, [yi v1_0, yi v1_1, .sn 3 tI v1_2 none]))] [(1000192, (⟨3, .int .i64, v3, true, false⟩ : Row)), (1000256, (⟨3, .int .i64, v4, true, false⟩ : Row)), (1000320, (⟨3, .int .i64, v5, true, false⟩ : Row)), (1000448, (⟨3, .int .i64, v7, true, false⟩ : Row))]
noncomputable def f63l15 : Clean := ⟨[1, 3, 4, 5, 7, 16, 34, 35, 158, 159, 160], [1], [], [], [(⟨false, 3, 0⟩, 1000192), (⟨false, 4, 0⟩, 1000256), (⟨false, 5, 0⟩, 1000320), (⟨false, 7, 0⟩, 1000448)]⟩
noncomputable def f63s16 (v3 v4 v5 v7 : LI) (v16 v19 v34 v35 v1_0 v1_1 : Int) (v1_2 : LI) : St := stOf [(1, xb 1), (3, xo 1000192), (4, xo 1000256), (5, xo 1000320), (7, xo 1000448), (16, xi v16), (19, xi v19), (34, xi v34), (35, xi v35)] [(1, (29, [yi v1_0, yi v1_1, .sn 3 tI v1_2 none]))] [(1000192, (⟨3, .int .i64, v3, true, false⟩ : Row)), (1000256, (⟨3, .int .i64, v4, true, false⟩ : Row)), (1000320, (⟨3, .int .i64, v5, true, false⟩ : Row)), (1000448, (⟨3, .int .i64, v7, true, false⟩ : Row))]
noncomputable def f63l16 : Clean := ⟨[1, 3, 4, 5, 7, 16, 19, 34, 35], [1], [], [], [(⟨false, 3, 0⟩, 1000192), (⟨false, 4, 0⟩, 1000256), (⟨false, 5, 0⟩, 1000320), (⟨false, 7, 0⟩, 1000448)]⟩
noncomputable def f63s17 (v3 v4 v5 v7 : LI) (v16 v19 v34 v35 v179 v180 v1_0 v1_1 : Int) (v1_2 : LI) : St := stOf [(1, xb 1), (3, xo 1000192), (4, xo 1000256), (5, xo 1000320), (7, xo 1000448), (16, xi v16), (19, xi v19), (34, xi v34), (35, xi v35), (178, xo 1000448), (179, xi v179), (180, xi v180)] [(1, (29, [yi v1_0, yi v1_1, .sn 3 tI v1_2 none]))] [(1000192, (⟨3, .int .i64, v3, true, false⟩ : Row)), (1000256, (⟨3, .int .i64, v4, true, false⟩ : Row)), (1000320, (⟨3, .int .i64, v5, true, false⟩ : Row)), (1000448, (⟨3, .int .i64, v7, true, false⟩ : Row))]
noncomputable def f63l17 : Clean := ⟨[1, 3, 4, 5, 7, 16, 19, 34, 35, 178, 179, 180], [1], [], [], [(⟨false, 3, 0⟩, 1000192), (⟨false, 4, 0⟩, 1000256), (⟨false, 5, 0⟩, 1000320), (⟨false, 7, 0⟩, 1000448)]⟩
noncomputable def f63s18 (v3 v4 v5 v7 : LI) (v19 v34 v35 v1_0 v1_1 : Int) (v1_2 : LI) : St := stOf [(1, xb 1), (3, xo 1000192), (4, xo 1000256), (5, xo 1000320), (7, xo 1000448), (19, xi v19), (34, xi v34), (35, xi v35)] [(1, (29, [yi v1_0, yi v1_1, .sn 3 tI v1_2 none]))] [(1000192, (⟨3, .int .i64, v3, true, false⟩ : Row)), (1000256, (⟨3, .int .i64, v4, true, false⟩ : Row)), (1000320, (⟨3, .int .i64, v5, true, false⟩ : Row)), (1000448, (⟨3, .int .i64, v7, true, false⟩ : Row))]
noncomputable def f63l18 : Clean := ⟨[1, 3, 4, 5, 7, 19, 34, 35], [1], [], [], [(⟨false, 3, 0⟩, 1000192), (⟨false, 4, 0⟩, 1000256), (⟨false, 5, 0⟩, 1000320), (⟨false, 7, 0⟩, 1000448)]⟩
noncomputable def f63s19 (v3 v4 v5 v205 : LI) (v19 v34 v35 v206 v207 v1_0 v1_1 : Int) (v1_2 : LI) : St := stOf [(1, xb 1), (3, xo 1000192), (4, xo 1000256), (5, xo 1000320), (19, xi v19), (34, xi v34), (35, xi v35), (205, xo 1013120), (206, xi v206), (207, xi v207)] [(1, (29, [yi v1_0, yi v1_1, .sn 3 tI v1_2 none]))] [(1000192, (⟨3, .int .i64, v3, true, false⟩ : Row)), (1000256, (⟨3, .int .i64, v4, true, false⟩ : Row)), (1000320, (⟨3, .int .i64, v5, true, false⟩ : Row)), (1013120, (⟨3, .int .i64, v205, true, false⟩ : Row))]
noncomputable def f63l19 : Clean := ⟨[1, 3, 4, 5, 19, 34, 35, 205, 206, 207], [1], [], [], [(⟨false, 3, 0⟩, 1000192), (⟨false, 4, 0⟩, 1000256), (⟨false, 5, 0⟩, 1000320), (⟨false, 205, 0⟩, 1013120)]⟩
noncomputable def f63s20 (v5 : LI) : St := stOf [(5, xo 1000320)] [] [(1000320, (⟨3, .int .i64, v5, true, false⟩ : Row))]
noncomputable def f63l20 : Clean := ⟨[5], [], [], [], [(⟨false, 5, 0⟩, 1000320)]⟩
noncomputable def f63s21 (v2 : LI) : St := stOf [(2, xo 1001000128)] [] [(1001000128, (⟨3, .int .i64, v2, true, true⟩ : Row))]
noncomputable def f63l21 : Clean := ⟨[2], [], [⟨⟨false, 2, 0⟩, 30000000, 3, .int .i64, true⟩], [], [(⟨false, 2, 0⟩, 1001000128)]⟩
noncomputable def f63B : Nat → Option Clean := lookL [(5, f63l10), (4, f63l8), (3, f63l8), (2, f63l7), (6, f63l14), (8, f63l18), (10, f63l4), (1, f63l4), (0, f63l20), (1000000, f63l21)]
noncomputable abbrev f63i {ρ : Type} (N : Nat) (c : Code) (p : Plan) (σ : St) (K : KT ρ) : Option ρ := iCode f63G tab f63B N c p σ K
noncomputable def f63c (n : Nat) : Code := codeN 99 (bodyOf Tryd.f63) n
theorem f63t1 N v0 (K : KT ρ) : f63i N (f63c 2) .n (f63s0 v0) (joinK (some f63l1) K) =
  impl_factors.Z1 N v0 (fun v1_0 v1_1 v1_2 => K .nrm (f63s1 v1_0 v1_1 v1_2)) := by kernel_rfl
theorem f63t3 N v1_0 v1_1 v1_2 (K : KT ρ) : f63i N (f63c 5) .n (f63s1 v1_0 v1_1 v1_2) (joinK (some f63l2) K) =
  impl_factors.Z3 N v1_0 v1_1 v1_2 (fun v3 v4 v1_0 v1_1 v1_2 => K .nrm (f63s2 v3 v4 v1_0 v1_1 v1_2)) := by kernel_rfl
theorem f63t5 N v3 v4 v1_0 v1_1 v1_2 (K : KT ρ) : f63i N (f63c 11) .n (f63s2 v3 v4 v1_0 v1_1 v1_2) (joinK (some f63l3) K) =
  impl_factors.Z5 N v3 v4 v1_0 v1_1 v1_2 (fun v3 v4 v5 v1_0 v1_1 v1_2 => K .nrm (f63s3 v3 v4 v5 v1_0 v1_1 v1_2)) := by kernel_rfl
theorem f63t8 N v3 v4 v5 v1_0 v1_1 v1_2 (K : KT ρ) : f63i N (f63c 39) .n (f63s3 v3 v4 v5 v1_0 v1_1 v1_2) (joinK (some f63l4) K) =
  impl_factors.Z8 N v3 v4 v5 v1_0 v1_1 v1_2 (fun v3 v4 v5 v34 v35 v1_0 v1_1 v1_2 => K .nrm (f63s4 v3 v4 v5 v34 v35 v1_0 v1_1 v1_2)) := by kernel_rfl
theorem f63t12 N v3 v4 v5 v34 v35 v1_0 v1_1 v1_2 (K : KT ρ) : f63i N (f63c 279) .n (f63s4 v3 v4 v5 v34 v35 v1_0 v1_1 v1_2) (joinK (some f63l5) K) =
  impl_factors.Z12 N v3 v4 v5 v34 v35 v1_0 v1_1 v1_2 (fun v3 v4 v5 v34 v35 v36 v1_0 v1_1 v1_2 => K .nrm (f63s5 v3 v4 v5 v34 v35 v36 v1_0 v1_1 v1_2)) := by kernel_rfl
theorem f63t14 N v3 v4 v5 v34 v35 v36 v1_0 v1_1 v1_2 (K : KT ρ) : f63i N (f63c 663) .n (f63s5 v3 v4 v5 v34 v35 v36 v1_0 v1_1 v1_2) (joinK (some f63l4) K) =
  impl_factors.Z14 N v3 v4 v5 v34 v35 v36 v1_0 v1_1 v1_2 (fun v3 v4 v5 v34 v35 v1_0 v1_1 v1_2 => K .nrm (f63s4 v3 v4 v5 v34 v35 v1_0 v1_1 v1_2)) (fun v5 => K (.exit 0) (f63s20 v5)) := by kernel_rfl
theorem f63t18 N v3 v4 v5 v34 v35 v1_0 v1_1 v1_2 (K : KT ρ) : f63i N (f63c 4503) .n (f63s4 v3 v4 v5 v34 v35 v1_0 v1_1 v1_2) (joinK (some f63l6) K) =
  impl_factors.Z18 N v3 v4 v5 v34 v35 v1_0 v1_1 v1_2 (fun v3 v4 v5 v6 v34 v35 v1_0 v1_1 v1_2 => K .nrm (f63s6 v3 v4 v5 v6 v34 v35 v1_0 v1_1 v1_2)) := by kernel_rfl
theorem f63t20 N v3 v4 v5 v6 v34 v35 v1_0 v1_1 v1_2 (K : KT ρ) : f63i N (f63c 10647) .n (f63s6 v3 v4 v5 v6 v34 v35 v1_0 v1_1 v1_2) (joinK (some f63l6) K) =
  impl_factors.Z20 N v3 v4 v5 v6 v34 v35 v1_0 v1_1 v1_2 (fun v3 v4 v5 v6 v34 v35 v1_0 v1_1 v1_2 => K .nrm (f63s6 v3 v4 v5 v6 v34 v35 v1_0 v1_1 v1_2)) (fun v3 v4 v5 v34 v35 v1_0 v1_1 v1_2 => K (.exit 1) (f63s4 v3 v4 v5 v34 v35 v1_0 v1_1 v1_2)) := by kernel_rfl
theorem f63t22 N v3 v4 v5 v6 v34 v35 v1_0 v1_1 v1_2 (K : KT ρ) : f63i N (f63c 22935) .n (f63s6 v3 v4 v5 v6 v34 v35 v1_0 v1_1 v1_2) (joinK (some f63l6) K) =
  impl_factors.Z22 N v3 v4 v5 v6 v34 v35 v1_0 v1_1 v1_2 (fun v3 v4 v5 v6 v34 v35 v1_0 v1_1 v1_2 => K .nrm (f63s6 v3 v4 v5 v6 v34 v35 v1_0 v1_1 v1_2)) := by kernel_rfl
theorem f63t24 N v3 v4 v5 v6 v34 v35 v1_0 v1_1 v1_2 (K : KT ρ) : f63i N (f63c 47511) .n (f63s6 v3 v4 v5 v6 v34 v35 v1_0 v1_1 v1_2) (joinK (some f63l7) K) =
  impl_factors.Z24 N v3 v4 v5 v6 v34 v35 v1_0 v1_1 v1_2 (fun v3 v4 v5 v7 v34 v35 v1_0 v1_1 v1_2 => K .nrm (f63s7 v3 v4 v5 v7 v34 v35 v1_0 v1_1 v1_2)) := by kernel_rfl
theorem f63t27 N v3 v4 v5 v7 v34 v35 v1_0 v1_1 v1_2 (K : KT ρ) : f63i N (f63c 162199) .n (f63s7 v3 v4 v5 v7 v34 v35 v1_0 v1_1 v1_2) (joinK (some f63l8) K) =
  impl_factors.Z27 N v3 v4 v5 v7 v34 v35 v1_0 v1_1 v1_2 (fun v3 v4 v5 v7 v8 v34 v35 v1_0 v1_1 v1_2 => K .nrm (f63s8 v3 v4 v5 v7 v8 v34 v35 v1_0 v1_1 v1_2)) := by kernel_rfl
theorem f63t31 N v3 v4 v5 v7 v8 v34 v35 v1_0 v1_1 v1_2 (K : KT ρ) : f63i N (f63c 1145239) .n (f63s8 v3 v4 v5 v7 v8 v34 v35 v1_0 v1_1 v1_2) (joinK (some f63l8) K) =
  impl_factors.Z31 N v3 v4 v5 v7 v8 v34 v35 v1_0 v1_1 v1_2 (fun v3 v4 v5 v7 v8 v34 v35 v1_0 v1_1 v1_2 => K .nrm (f63s8 v3 v4 v5 v7 v8 v34 v35 v1_0 v1_1 v1_2)) (fun v3 v4 v5 v7 v34 v35 v1_0 v1_1 v1_2 => K (.exit 2) (f63s7 v3 v4 v5 v7 v34 v35 v1_0 v1_1 v1_2)) := by kernel_rfl
theorem f63t35 N v3 v4 v5 v7 v8 v34 v35 v1_0 v1_1 v1_2 (K : KT ρ) : f63i N (f63c 9009559) .n (f63s8 v3 v4 v5 v7 v8 v34 v35 v1_0 v1_1 v1_2) (joinK (some f63l9) K) =
  impl_factors.Z35 N v3 v4 v5 v7 v8 v34 v35 v1_0 v1_1 v1_2 (fun v3 v4 v5 v7 v8 v9 v34 v35 v1_0 v1_1 v1_2 => K .nrm (f63s9 v3 v4 v5 v7 v8 v9 v34 v35 v1_0 v1_1 v1_2)) := by kernel_rfl
theorem f63t37 N v3 v4 v5 v7 v8 v9 v34 v35 v1_0 v1_1 v1_2 (K : KT ρ) : f63i N (f63c 21592471) .n (f63s9 v3 v4 v5 v7 v8 v9 v34 v35 v1_0 v1_1 v1_2) (joinK (some f63l10) K) =
  impl_factors.Z37 N v3 v4 v5 v7 v8 v9 v34 v35 v1_0 v1_1 v1_2 (fun v3 v4 v5 v7 v8 v9 v34 v35 v62 v63 v1_0 v1_1 v1_2 => K .nrm (f63s10 v3 v4 v5 v7 v8 v9 v34 v35 v62 v63 v1_0 v1_1 v1_2)) := by kernel_rfl
theorem f63t41 N v3 v4 v5 v7 v8 v9 v34 v35 v62 v63 v1_0 v1_1 v1_2 (K : KT ρ) : f63i N (f63c 147421591) .n (f63s10 v3 v4 v5 v7 v8 v9 v34 v35 v62 v63 v1_0 v1_1 v1_2) (joinK (some f63l11) K) =
  impl_factors.Z41 N v3 v4 v5 v7 v8 v9 v34 v35 v62 v63 v1_0 v1_1 v1_2 (fun v3 v4 v5 v7 v8 v9 v34 v35 v62 v63 v64 v1_0 v1_1 v1_2 => K .nrm (f63s11 v3 v4 v5 v7 v8 v9 v34 v35 v62 v63 v64 v1_0 v1_1 v1_2)) := by kernel_rfl
theorem f63t43 N v3 v4 v5 v7 v8 v9 v34 v35 v62 v63 v64 v1_0 v1_1 v1_2 (K : KT ρ) : f63i N (f63c 348748183) .n (f63s11 v3 v4 v5 v7 v8 v9 v34 v35 v62 v63 v64 v1_0 v1_1 v1_2) (joinK (some f63l10) K) =
  impl_factors.Z43 N v3 v4 v5 v7 v8 v9 v34 v35 v62 v63 v64 v1_0 v1_1 v1_2 (fun v3 v4 v5 v7 v8 v9 v34 v35 v62 v63 v1_0 v1_1 v1_2 => K .nrm (f63s10 v3 v4 v5 v7 v8 v9 v34 v35 v62 v63 v1_0 v1_1 v1_2)) (fun v3 v4 v5 v7 v8 v34 v35 v1_0 v1_1 v1_2 => K (.exit 4) (f63s8 v3 v4 v5 v7 v8 v34 v35 v1_0 v1_1 v1_2)) := by kernel_rfl
theorem f63t47 N v3 v4 v5 v7 v8 v9 v34 v35 v62 v63 v1_0 v1_1 v1_2 (K : KT ρ) : f63i N (f63c 2362014103) .n (f63s10 v3 v4 v5 v7 v8 v9 v34 v35 v62 v63 v1_0 v1_1 v1_2) (joinK (some f63l12) K) =
  impl_factors.Z47 N v3 v4 v5 v7 v8 v9 v34 v35 v62 v63 v1_0 v1_1 v1_2 (fun v3 v4 v5 v7 v8 v9 v10 v34 v35 v62 v63 v1_0 v1_1 v1_2 => K .nrm (f63s12 v3 v4 v5 v7 v8 v9 v10 v34 v35 v62 v63 v1_0 v1_1 v1_2)) := by kernel_rfl
theorem f63t49 N v3 v4 v5 v7 v8 v9 v10 v34 v35 v62 v63 v1_0 v1_1 v1_2 (K : KT ρ) : f63i N (f63c 5583239575) .n (f63s12 v3 v4 v5 v7 v8 v9 v10 v34 v35 v62 v63 v1_0 v1_1 v1_2) (joinK (some f63l13) K) =
  impl_factors.Z49 N v3 v4 v5 v7 v8 v9 v10 v34 v35 v62 v63 v1_0 v1_1 v1_2 (fun v3 v4 v5 v7 v8 v9 v10 v11 v12 v34 v35 v62 v63 v1_0 v1_1 v1_2 => K .nrm (f63s13 v3 v4 v5 v7 v8 v9 v10 v11 v12 v34 v35 v62 v63 v1_0 v1_1 v1_2)) := by kernel_rfl
theorem f63t51 N v3 v4 v5 v7 v8 v9 v10 v11 v12 v34 v35 v62 v63 v1_0 v1_1 v1_2 (K : KT ρ) : f63i N (f63c 12025690519) .n (f63s13 v3 v4 v5 v7 v8 v9 v10 v11 v12 v34 v35 v62 v63 v1_0 v1_1 v1_2) (joinK (some f63l13) K) =
  impl_factors.Z51 N v3 v4 v5 v7 v8 v9 v10 v11 v12 v34 v35 v62 v63 v1_0 v1_1 v1_2 (fun v3 v4 v5 v7 v8 v9 v10 v11 v12 v34 v35 v62 v63 v1_0 v1_1 v1_2 => K .nrm (f63s13 v3 v4 v5 v7 v8 v9 v10 v11 v12 v34 v35 v62 v63 v1_0 v1_1 v1_2)) (fun v3 v4 v5 v7 v8 v9 v34 v35 v62 v63 v1_0 v1_1 v1_2 => K (.exit 5) (f63s10 v3 v4 v5 v7 v8 v9 v34 v35 v62 v63 v1_0 v1_1 v1_2)) := by kernel_rfl
theorem f63t52 N v3 v4 v5 v7 v8 v9 v10 v11 v12 v34 v35 v62 v63 v1_0 v1_1 v1_2 (K : KT ρ) : f63i N (f63c 16320657815) .n (f63s13 v3 v4 v5 v7 v8 v9 v10 v11 v12 v34 v35 v62 v63 v1_0 v1_1 v1_2) (joinK (some f63l10) K) =
  impl_factors.Z52 N v3 v4 v5 v7 v8 v9 v10 v11 v12 v34 v35 v62 v63 v1_0 v1_1 v1_2 (fun v3 v4 v5 v7 v8 v9 v34 v35 v62 v63 v1_0 v1_1 v1_2 => K .nrm (f63s10 v3 v4 v5 v7 v8 v9 v34 v35 v62 v63 v1_0 v1_1 v1_2)) (fun v2 => K .ret (f63s21 v2)) := by kernel_rfl
noncomputable def f63p50 : Plan := .mk (some f63l13) none .n .n
theorem f63t50 N v3 v4 v5 v7 v8 v9 v10 v11 v12 v34 v35 v62 v63 v1_0 v1_1 v1_2 (K : KT ρ) : f63i N (f63c 7730723223) f63p50 (f63s13 v3 v4 v5 v7 v8 v9 v10 v11 v12 v34 v35 v62 v63 v1_0 v1_1 v1_2) (joinK (some f63l10) K) =
  impl_factors.Z50 N v3 v4 v5 v7 v8 v9 v10 v11 v12 v34 v35 v62 v63 v1_0 v1_1 v1_2 (fun v3 v4 v5 v7 v8 v9 v34 v35 v62 v63 v1_0 v1_1 v1_2 => K .nrm (f63s10 v3 v4 v5 v7 v8 v9 v34 v35 v62 v63 v1_0 v1_1 v1_2)) (fun v3 v4 v5 v7 v8 v9 v34 v35 v62 v63 v1_0 v1_1 v1_2 => K (.exit 5) (f63s10 v3 v4 v5 v7 v8 v9 v34 v35 v62 v63 v1_0 v1_1 v1_2)) (fun v2 => K .ret (f63s21 v2)) :=
 viaSeqS (fun k => impl_factors.Z51 N v3 v4 v5 v7 v8 v9 v10 v11 v12 v34 v35 v62 v63 v1_0 v1_1 v1_2 k (fun v3 v4 v5 v7 v8 v9 v34 v35 v62 v63 v1_0 v1_1 v1_2 => K (.exit 5) (f63s10 v3 v4 v5 v7 v8 v9 v34 v35 v62 v63 v1_0 v1_1 v1_2))) (by kernel_rfl) (f63t51 N (K := seqK (fun σ => f63i N (f63c 16320657815) .n σ (joinK (some f63l10) K)) (joinK (some f63l10) K)) ..) (fx16 fun v3 v4 v5 v7 v8 v9 v10 v11 v12 v34 v35 v62 v63 v1_0 v1_1 v1_2 => f63t52 N v3 v4 v5 v7 v8 v9 v10 v11 v12 v34 v35 v62 v63 v1_0 v1_1 v1_2 K) (by kernel_rfl)
noncomputable def f63p48 : Plan := .mk (some f63l13) none .n f63p50
theorem f63t48 N v3 v4 v5 v7 v8 v9 v10 v34 v35 v62 v63 v1_0 v1_1 v1_2 (K : KT ρ) : f63i N (f63c 3435755927) f63p48 (f63s12 v3 v4 v5 v7 v8 v9 v10 v34 v35 v62 v63 v1_0 v1_1 v1_2) (joinK (some f63l10) K) =
  impl_factors.Z48 N v3 v4 v5 v7 v8 v9 v10 v34 v35 v62 v63 v1_0 v1_1 v1_2 (fun v3 v4 v5 v7 v8 v9 v34 v35 v62 v63 v1_0 v1_1 v1_2 => K .nrm (f63s10 v3 v4 v5 v7 v8 v9 v34 v35 v62 v63 v1_0 v1_1 v1_2)) (fun v3 v4 v5 v7 v8 v9 v34 v35 v62 v63 v1_0 v1_1 v1_2 => K (.exit 5) (f63s10 v3 v4 v5 v7 v8 v9 v34 v35 v62 v63 v1_0 v1_1 v1_2)) (fun v2 => K .ret (f63s21 v2)) :=
 viaSeqS (fun k => impl_factors.Z49 N v3 v4 v5 v7 v8 v9 v10 v34 v35 v62 v63 v1_0 v1_1 v1_2 k) (by kernel_rfl) (f63t49 N (K := seqK (fun σ => f63i N (f63c 7730723223) f63p50 σ (joinK (some f63l10) K)) (joinK (some f63l10) K)) ..) (fx16 fun v3 v4 v5 v7 v8 v9 v10 v11 v12 v34 v35 v62 v63 v1_0 v1_1 v1_2 => f63t50 N v3 v4 v5 v7 v8 v9 v10 v11 v12 v34 v35 v62 v63 v1_0 v1_1 v1_2 K) (by kernel_rfl)
noncomputable def f63p46 : Plan := .mk (some f63l12) none .n f63p48
theorem f63t46 N v3 v4 v5 v7 v8 v9 v34 v35 v62 v63 v1_0 v1_1 v1_2 (K : KT ρ) : f63i N (f63c 1288272279) f63p46 (f63s10 v3 v4 v5 v7 v8 v9 v34 v35 v62 v63 v1_0 v1_1 v1_2) (joinK (some f63l10) K) =
  impl_factors.Z46 N v3 v4 v5 v7 v8 v9 v34 v35 v62 v63 v1_0 v1_1 v1_2 (fun v3 v4 v5 v7 v8 v9 v34 v35 v62 v63 v1_0 v1_1 v1_2 => K .nrm (f63s10 v3 v4 v5 v7 v8 v9 v34 v35 v62 v63 v1_0 v1_1 v1_2)) (fun v3 v4 v5 v7 v8 v9 v34 v35 v62 v63 v1_0 v1_1 v1_2 => K (.exit 5) (f63s10 v3 v4 v5 v7 v8 v9 v34 v35 v62 v63 v1_0 v1_1 v1_2)) (fun v2 => K .ret (f63s21 v2)) :=
 viaSeqS (fun k => impl_factors.Z47 N v3 v4 v5 v7 v8 v9 v34 v35 v62 v63 v1_0 v1_1 v1_2 k) (by kernel_rfl) (f63t47 N (K := seqK (fun σ => f63i N (f63c 3435755927) f63p48 σ (joinK (some f63l10) K)) (joinK (some f63l10) K)) ..) (fx14 fun v3 v4 v5 v7 v8 v9 v10 v34 v35 v62 v63 v1_0 v1_1 v1_2 => f63t48 N v3 v4 v5 v7 v8 v9 v10 v34 v35 v62 v63 v1_0 v1_1 v1_2 K) (by kernel_rfl)
noncomputable def f63p45 : Plan := .mk (some f63l10) none f63p46 .n
theorem f63t45 N v3 v4 v5 v7 v8 v9 v34 v35 v62 v63 v1_0 v1_1 v1_2 (K : KT ρ) : f63i N (f63c 751401367) f63p45 (f63s10 v3 v4 v5 v7 v8 v9 v34 v35 v62 v63 v1_0 v1_1 v1_2) (joinK (some f63l10) K) =
  impl_factors.Z45 N v3 v4 v5 v7 v8 v9 v34 v35 v62 v63 v1_0 v1_1 v1_2 (fun v3 v4 v5 v7 v8 v9 v34 v35 v62 v63 v1_0 v1_1 v1_2 => K .nrm (f63s10 v3 v4 v5 v7 v8 v9 v34 v35 v62 v63 v1_0 v1_1 v1_2)) (fun v2 => K .ret (f63s21 v2)) :=
 viaBlockS (by kernel_rfl) (f63t46 N (K := blockK 5 (joinK (some f63l10) K)) ..) (by kernel_rfl)
theorem f63t53 N v3 v4 v5 v7 v8 v9 v34 v35 v62 v63 v1_0 v1_1 v1_2 (K : KT ρ) : f63i N (f63c 1019836823) .n (f63s10 v3 v4 v5 v7 v8 v9 v34 v35 v62 v63 v1_0 v1_1 v1_2) (joinK (some f63l10) K) =
  impl_factors.Z53 N v3 v4 v5 v7 v8 v9 v34 v35 v62 v63 v1_0 v1_1 v1_2 (fun v3 v4 v5 v7 v8 v9 v34 v35 v62 v63 v1_0 v1_1 v1_2 => K .nrm (f63s10 v3 v4 v5 v7 v8 v9 v34 v35 v62 v63 v1_0 v1_1 v1_2)) := by kernel_rfl
noncomputable def f63p44 : Plan := .mk (some f63l10) none f63p45 .n
theorem f63t44 N v3 v4 v5 v7 v8 v9 v34 v35 v62 v63 v1_0 v1_1 v1_2 (K : KT ρ) : f63i N (f63c 482965911) f63p44 (f63s10 v3 v4 v5 v7 v8 v9 v34 v35 v62 v63 v1_0 v1_1 v1_2) (joinK (some f63l10) K) =
  impl_factors.Z44 N v3 v4 v5 v7 v8 v9 v34 v35 v62 v63 v1_0 v1_1 v1_2 (fun v3 v4 v5 v7 v8 v9 v34 v35 v62 v63 v1_0 v1_1 v1_2 => K .nrm (f63s10 v3 v4 v5 v7 v8 v9 v34 v35 v62 v63 v1_0 v1_1 v1_2)) (fun v2 => K .ret (f63s21 v2)) :=
 viaSeqS (fun k => impl_factors.Z45 N v3 v4 v5 v7 v8 v9 v34 v35 v62 v63 v1_0 v1_1 v1_2 k (fun v2 => K .ret (f63s21 v2))) (by kernel_rfl) (f63t45 N (K := seqK (fun σ => f63i N (f63c 1019836823) .n σ (joinK (some f63l10) K)) (joinK (some f63l10) K)) ..) (fx13 fun v3 v4 v5 v7 v8 v9 v34 v35 v62 v63 v1_0 v1_1 v1_2 => f63t53 N v3 v4 v5 v7 v8 v9 v34 v35 v62 v63 v1_0 v1_1 v1_2 K) (by kernel_rfl)
noncomputable def f63p42 : Plan := .mk (some f63l10) none .n f63p44
theorem f63t42 N v3 v4 v5 v7 v8 v9 v34 v35 v62 v63 v64 v1_0 v1_1 v1_2 (K : KT ρ) : f63i N (f63c 214530455) f63p42 (f63s11 v3 v4 v5 v7 v8 v9 v34 v35 v62 v63 v64 v1_0 v1_1 v1_2) (joinK (some f63l10) K) =
  impl_factors.Z42 N v3 v4 v5 v7 v8 v9 v34 v35 v62 v63 v64 v1_0 v1_1 v1_2 (fun v3 v4 v5 v7 v8 v9 v34 v35 v62 v63 v1_0 v1_1 v1_2 => K .nrm (f63s10 v3 v4 v5 v7 v8 v9 v34 v35 v62 v63 v1_0 v1_1 v1_2)) (fun v3 v4 v5 v7 v8 v34 v35 v1_0 v1_1 v1_2 => K (.exit 4) (f63s8 v3 v4 v5 v7 v8 v34 v35 v1_0 v1_1 v1_2)) (fun v2 => K .ret (f63s21 v2)) :=
 viaSeqS (fun k => impl_factors.Z43 N v3 v4 v5 v7 v8 v9 v34 v35 v62 v63 v64 v1_0 v1_1 v1_2 k (fun v3 v4 v5 v7 v8 v34 v35 v1_0 v1_1 v1_2 => K (.exit 4) (f63s8 v3 v4 v5 v7 v8 v34 v35 v1_0 v1_1 v1_2))) (by kernel_rfl) (f63t43 N (K := seqK (fun σ => f63i N (f63c 482965911) f63p44 σ (joinK (some f63l10) K)) (joinK (some f63l10) K)) ..) (fx13 fun v3 v4 v5 v7 v8 v9 v34 v35 v62 v63 v1_0 v1_1 v1_2 => f63t44 N v3 v4 v5 v7 v8 v9 v34 v35 v62 v63 v1_0 v1_1 v1_2 K) (by kernel_rfl)
noncomputable def f63p40 : Plan := .mk (some f63l11) none .n f63p42
theorem f63t40 N v3 v4 v5 v7 v8 v9 v34 v35 v62 v63 v1_0 v1_1 v1_2 (K : KT ρ) : f63i N (f63c 80312727) f63p40 (f63s10 v3 v4 v5 v7 v8 v9 v34 v35 v62 v63 v1_0 v1_1 v1_2) (joinK (some f63l10) K) =
  impl_factors.Z40 N v3 v4 v5 v7 v8 v9 v34 v35 v62 v63 v1_0 v1_1 v1_2 (fun v3 v4 v5 v7 v8 v9 v34 v35 v62 v63 v1_0 v1_1 v1_2 => K .nrm (f63s10 v3 v4 v5 v7 v8 v9 v34 v35 v62 v63 v1_0 v1_1 v1_2)) (fun v3 v4 v5 v7 v8 v34 v35 v1_0 v1_1 v1_2 => K (.exit 4) (f63s8 v3 v4 v5 v7 v8 v34 v35 v1_0 v1_1 v1_2)) (fun v2 => K .ret (f63s21 v2)) :=
 viaSeqS (fun k => impl_factors.Z41 N v3 v4 v5 v7 v8 v9 v34 v35 v62 v63 v1_0 v1_1 v1_2 k) (by kernel_rfl) (f63t41 N (K := seqK (fun σ => f63i N (f63c 214530455) f63p42 σ (joinK (some f63l10) K)) (joinK (some f63l10) K)) ..) (fx14 fun v3 v4 v5 v7 v8 v9 v34 v35 v62 v63 v64 v1_0 v1_1 v1_2 => f63t42 N v3 v4 v5 v7 v8 v9 v34 v35 v62 v63 v64 v1_0 v1_1 v1_2 K) (by kernel_rfl)
noncomputable def f63p39 : Plan := .mk none (some f63l10) f63p40 .n
noncomputable abbrev f63w39 {ρ : Type} (N M : Nat) (σ : St) (K : KT ρ) : Option ρ := loopC (fun σ K => f63i N (f63c 80312727) f63p40 σ K) f63l10 M σ K
theorem f63t39L {ρ : Type} (N : Nat) (K : KT ρ) : ∀ (M : Nat) (v3 v4 v5 v7 : LI) (v8 v9 v34 v35 v62 v63 v1_0 v1_1 : Int) (v1_2 : LI), f63w39 N M (f63s10 v3 v4 v5 v7 v8 v9 v34 v35 v62 v63 v1_0 v1_1 v1_2) K =
  impl_factors.Z39L N (fun v3 v4 v5 v7 v8 v34 v35 v1_0 v1_1 v1_2 => K (.exit 4) (f63s8 v3 v4 v5 v7 v8 v34 v35 v1_0 v1_1 v1_2)) (fun v2 => K .ret (f63s21 v2)) M v3 v4 v5 v7 v8 v9 v34 v35 v62 v63 v1_0 v1_1 v1_2
  | 0, _, _, _, _, _, _, _, _, _, _, _, _, _ => rfl
  | M + 1, v3, v4, v5, v7, v8, v9, v34, v35, v62, v63, v1_0, v1_1, v1_2 => viaRoundS (fun k => impl_factors.Z40 N v3 v4 v5 v7 v8 v9 v34 v35 v62 v63 v1_0 v1_1 v1_2 k (fun v3 v4 v5 v7 v8 v34 v35 v1_0 v1_1 v1_2 => K (.exit 4) (f63s8 v3 v4 v5 v7 v8 v34 v35 v1_0 v1_1 v1_2)) (fun v2 => K .ret (f63s21 v2))) (f63t40 N (K := seqK (fun σ => f63w39 N M σ K) K) ..) (fx13 fun v3 v4 v5 v7 v8 v9 v34 v35 v62 v63 v1_0 v1_1 v1_2 => f63t39L N K M v3 v4 v5 v7 v8 v9 v34 v35 v62 v63 v1_0 v1_1 v1_2) (by kernel_rfl)
theorem f63t39 N v3 v4 v5 v7 v8 v9 v34 v35 v62 v63 v1_0 v1_1 v1_2 (K : KT ρ) : f63i N (f63c 46758295) f63p39 (f63s10 v3 v4 v5 v7 v8 v9 v34 v35 v62 v63 v1_0 v1_1 v1_2) (joinK (some f63l8) K) =
  impl_factors.Z39 N v3 v4 v5 v7 v8 v9 v34 v35 v62 v63 v1_0 v1_1 v1_2 (fun v3 v4 v5 v7 v8 v34 v35 v1_0 v1_1 v1_2 => K (.exit 4) (f63s8 v3 v4 v5 v7 v8 v34 v35 v1_0 v1_1 v1_2)) (fun v2 => K .ret (f63s21 v2)) :=
 viaLoopS (by kernel_rfl) (f63t39L N (joinK (some f63l8) K) N v3 v4 v5 v7 v8 v9 v34 v35 v62 v63 v1_0 v1_1 v1_2) (by kernel_rfl)
noncomputable def f63p38 : Plan := .mk (some f63l8) none f63p39 .n
theorem f63t38 N v3 v4 v5 v7 v8 v9 v34 v35 v62 v63 v1_0 v1_1 v1_2 (K : KT ρ) : f63i N (f63c 29981079) f63p38 (f63s10 v3 v4 v5 v7 v8 v9 v34 v35 v62 v63 v1_0 v1_1 v1_2) (joinK (some f63l8) K) =
  impl_factors.Z38 N v3 v4 v5 v7 v8 v9 v34 v35 v62 v63 v1_0 v1_1 v1_2 (fun v3 v4 v5 v7 v8 v34 v35 v1_0 v1_1 v1_2 => K .nrm (f63s8 v3 v4 v5 v7 v8 v34 v35 v1_0 v1_1 v1_2)) (fun v2 => K .ret (f63s21 v2)) :=
 viaBlockS (by kernel_rfl) (f63t39 N (K := blockK 4 (joinK (some f63l8) K)) ..) (by kernel_rfl)
noncomputable def f63p36 : Plan := .mk (some f63l10) none .n f63p38
theorem f63t36 N v3 v4 v5 v7 v8 v9 v34 v35 v1_0 v1_1 v1_2 (K : KT ρ) : f63i N (f63c 13203863) f63p36 (f63s9 v3 v4 v5 v7 v8 v9 v34 v35 v1_0 v1_1 v1_2) (joinK (some f63l8) K) =
  impl_factors.Z36 N v3 v4 v5 v7 v8 v9 v34 v35 v1_0 v1_1 v1_2 (fun v3 v4 v5 v7 v8 v34 v35 v1_0 v1_1 v1_2 => K .nrm (f63s8 v3 v4 v5 v7 v8 v34 v35 v1_0 v1_1 v1_2)) (fun v2 => K .ret (f63s21 v2)) :=
 viaSeqS (fun k => impl_factors.Z37 N v3 v4 v5 v7 v8 v9 v34 v35 v1_0 v1_1 v1_2 k) (by kernel_rfl) (f63t37 N (K := seqK (fun σ => f63i N (f63c 29981079) f63p38 σ (joinK (some f63l8) K)) (joinK (some f63l8) K)) ..) (fx13 fun v3 v4 v5 v7 v8 v9 v34 v35 v62 v63 v1_0 v1_1 v1_2 => f63t38 N v3 v4 v5 v7 v8 v9 v34 v35 v62 v63 v1_0 v1_1 v1_2 K) (by kernel_rfl)
noncomputable def f63p34 : Plan := .mk (some f63l9) none .n f63p36
theorem f63t34 N v3 v4 v5 v7 v8 v34 v35 v1_0 v1_1 v1_2 (K : KT ρ) : f63i N (f63c 4815255) f63p34 (f63s8 v3 v4 v5 v7 v8 v34 v35 v1_0 v1_1 v1_2) (joinK (some f63l8) K) =
  impl_factors.Z34 N v3 v4 v5 v7 v8 v34 v35 v1_0 v1_1 v1_2 (fun v3 v4 v5 v7 v8 v34 v35 v1_0 v1_1 v1_2 => K .nrm (f63s8 v3 v4 v5 v7 v8 v34 v35 v1_0 v1_1 v1_2)) (fun v2 => K .ret (f63s21 v2)) :=
 viaSeqS (fun k => impl_factors.Z35 N v3 v4 v5 v7 v8 v34 v35 v1_0 v1_1 v1_2 k) (by kernel_rfl) (f63t35 N (K := seqK (fun σ => f63i N (f63c 13203863) f63p36 σ (joinK (some f63l8) K)) (joinK (some f63l8) K)) ..) (fx11 fun v3 v4 v5 v7 v8 v9 v34 v35 v1_0 v1_1 v1_2 => f63t36 N v3 v4 v5 v7 v8 v9 v34 v35 v1_0 v1_1 v1_2 K) (by kernel_rfl)
noncomputable def f63p33 : Plan := .mk (some f63l8) none f63p34 .n
theorem f63t33 N v3 v4 v5 v7 v8 v34 v35 v1_0 v1_1 v1_2 (K : KT ρ) : f63i N (f63c 2718103) f63p33 (f63s8 v3 v4 v5 v7 v8 v34 v35 v1_0 v1_1 v1_2) (joinK (some f63l8) K) =
  impl_factors.Z33 N v3 v4 v5 v7 v8 v34 v35 v1_0 v1_1 v1_2 (fun v3 v4 v5 v7 v8 v34 v35 v1_0 v1_1 v1_2 => K .nrm (f63s8 v3 v4 v5 v7 v8 v34 v35 v1_0 v1_1 v1_2)) (fun v2 => K .ret (f63s21 v2)) :=
 viaBlockS (by kernel_rfl) (f63t34 N (K := blockK 3 (joinK (some f63l8) K)) ..) (by kernel_rfl)
theorem f63t54 N v3 v4 v5 v7 v8 v34 v35 v1_0 v1_1 v1_2 (K : KT ρ) : f63i N (f63c 3766679) .n (f63s8 v3 v4 v5 v7 v8 v34 v35 v1_0 v1_1 v1_2) (joinK (some f63l8) K) =
  impl_factors.Z54 N v3 v4 v5 v7 v8 v34 v35 v1_0 v1_1 v1_2 (fun v3 v4 v5 v7 v8 v34 v35 v1_0 v1_1 v1_2 => K .nrm (f63s8 v3 v4 v5 v7 v8 v34 v35 v1_0 v1_1 v1_2)) := by kernel_rfl
noncomputable def f63p32 : Plan := .mk (some f63l8) none f63p33 .n
theorem f63t32 N v3 v4 v5 v7 v8 v34 v35 v1_0 v1_1 v1_2 (K : KT ρ) : f63i N (f63c 1669527) f63p32 (f63s8 v3 v4 v5 v7 v8 v34 v35 v1_0 v1_1 v1_2) (joinK (some f63l8) K) =
  impl_factors.Z32 N v3 v4 v5 v7 v8 v34 v35 v1_0 v1_1 v1_2 (fun v3 v4 v5 v7 v8 v34 v35 v1_0 v1_1 v1_2 => K .nrm (f63s8 v3 v4 v5 v7 v8 v34 v35 v1_0 v1_1 v1_2)) (fun v2 => K .ret (f63s21 v2)) :=
 viaSeqS (fun k => impl_factors.Z33 N v3 v4 v5 v7 v8 v34 v35 v1_0 v1_1 v1_2 k (fun v2 => K .ret (f63s21 v2))) (by kernel_rfl) (f63t33 N (K := seqK (fun σ => f63i N (f63c 3766679) .n σ (joinK (some f63l8) K)) (joinK (some f63l8) K)) ..) (fx10 fun v3 v4 v5 v7 v8 v34 v35 v1_0 v1_1 v1_2 => f63t54 N v3 v4 v5 v7 v8 v34 v35 v1_0 v1_1 v1_2 K) (by kernel_rfl)
noncomputable def f63p30 : Plan := .mk (some f63l8) none .n f63p32
theorem f63t30 N v3 v4 v5 v7 v8 v34 v35 v1_0 v1_1 v1_2 (K : KT ρ) : f63i N (f63c 620951) f63p30 (f63s8 v3 v4 v5 v7 v8 v34 v35 v1_0 v1_1 v1_2) (joinK (some f63l8) K) =
  impl_factors.Z30 N v3 v4 v5 v7 v8 v34 v35 v1_0 v1_1 v1_2 (fun v3 v4 v5 v7 v8 v34 v35 v1_0 v1_1 v1_2 => K .nrm (f63s8 v3 v4 v5 v7 v8 v34 v35 v1_0 v1_1 v1_2)) (fun v3 v4 v5 v7 v34 v35 v1_0 v1_1 v1_2 => K (.exit 2) (f63s7 v3 v4 v5 v7 v34 v35 v1_0 v1_1 v1_2)) (fun v2 => K .ret (f63s21 v2)) :=
 viaSeqS (fun k => impl_factors.Z31 N v3 v4 v5 v7 v8 v34 v35 v1_0 v1_1 v1_2 k (fun v3 v4 v5 v7 v34 v35 v1_0 v1_1 v1_2 => K (.exit 2) (f63s7 v3 v4 v5 v7 v34 v35 v1_0 v1_1 v1_2))) (by kernel_rfl) (f63t31 N (K := seqK (fun σ => f63i N (f63c 1669527) f63p32 σ (joinK (some f63l8) K)) (joinK (some f63l8) K)) ..) (fx10 fun v3 v4 v5 v7 v8 v34 v35 v1_0 v1_1 v1_2 => f63t32 N v3 v4 v5 v7 v8 v34 v35 v1_0 v1_1 v1_2 K) (by kernel_rfl)
noncomputable def f63p29 : Plan := .mk none (some f63l8) f63p30 .n
noncomputable abbrev f63w29 {ρ : Type} (N M : Nat) (σ : St) (K : KT ρ) : Option ρ := loopC (fun σ K => f63i N (f63c 620951) f63p30 σ K) f63l8 M σ K
theorem f63t29L {ρ : Type} (N : Nat) (K : KT ρ) : ∀ (M : Nat) (v3 v4 v5 v7 : LI) (v8 v34 v35 v1_0 v1_1 : Int) (v1_2 : LI), f63w29 N M (f63s8 v3 v4 v5 v7 v8 v34 v35 v1_0 v1_1 v1_2) K =
  impl_factors.Z29L N (fun v3 v4 v5 v7 v34 v35 v1_0 v1_1 v1_2 => K (.exit 2) (f63s7 v3 v4 v5 v7 v34 v35 v1_0 v1_1 v1_2)) (fun v2 => K .ret (f63s21 v2)) M v3 v4 v5 v7 v8 v34 v35 v1_0 v1_1 v1_2
  | 0, _, _, _, _, _, _, _, _, _, _ => rfl
  | M + 1, v3, v4, v5, v7, v8, v34, v35, v1_0, v1_1, v1_2 => viaRoundS (fun k => impl_factors.Z30 N v3 v4 v5 v7 v8 v34 v35 v1_0 v1_1 v1_2 k (fun v3 v4 v5 v7 v34 v35 v1_0 v1_1 v1_2 => K (.exit 2) (f63s7 v3 v4 v5 v7 v34 v35 v1_0 v1_1 v1_2)) (fun v2 => K .ret (f63s21 v2))) (f63t30 N (K := seqK (fun σ => f63w29 N M σ K) K) ..) (fx10 fun v3 v4 v5 v7 v8 v34 v35 v1_0 v1_1 v1_2 => f63t29L N K M v3 v4 v5 v7 v8 v34 v35 v1_0 v1_1 v1_2) (by kernel_rfl)
theorem f63t29 N v3 v4 v5 v7 v8 v34 v35 v1_0 v1_1 v1_2 (K : KT ρ) : f63i N (f63c 358807) f63p29 (f63s8 v3 v4 v5 v7 v8 v34 v35 v1_0 v1_1 v1_2) (joinK (some f63l7) K) =
  impl_factors.Z29 N v3 v4 v5 v7 v8 v34 v35 v1_0 v1_1 v1_2 (fun v3 v4 v5 v7 v34 v35 v1_0 v1_1 v1_2 => K (.exit 2) (f63s7 v3 v4 v5 v7 v34 v35 v1_0 v1_1 v1_2)) (fun v2 => K .ret (f63s21 v2)) :=
 viaLoopS (by kernel_rfl) (f63t29L N (joinK (some f63l7) K) N v3 v4 v5 v7 v8 v34 v35 v1_0 v1_1 v1_2) (by kernel_rfl)
noncomputable def f63p28 : Plan := .mk (some f63l7) none f63p29 .n
theorem f63t28 N v3 v4 v5 v7 v8 v34 v35 v1_0 v1_1 v1_2 (K : KT ρ) : f63i N (f63c 227735) f63p28 (f63s8 v3 v4 v5 v7 v8 v34 v35 v1_0 v1_1 v1_2) (joinK (some f63l7) K) =
  impl_factors.Z28 N v3 v4 v5 v7 v8 v34 v35 v1_0 v1_1 v1_2 (fun v3 v4 v5 v7 v34 v35 v1_0 v1_1 v1_2 => K .nrm (f63s7 v3 v4 v5 v7 v34 v35 v1_0 v1_1 v1_2)) (fun v2 => K .ret (f63s21 v2)) :=
 viaBlockS (by kernel_rfl) (f63t29 N (K := blockK 2 (joinK (some f63l7) K)) ..) (by kernel_rfl)
noncomputable def f63p26 : Plan := .mk (some f63l8) none .n f63p28
theorem f63t26 N v3 v4 v5 v7 v34 v35 v1_0 v1_1 v1_2 (K : KT ρ) : f63i N (f63c 96663) f63p26 (f63s7 v3 v4 v5 v7 v34 v35 v1_0 v1_1 v1_2) (joinK (some f63l7) K) =
  impl_factors.Z26 N v3 v4 v5 v7 v34 v35 v1_0 v1_1 v1_2 (fun v3 v4 v5 v7 v34 v35 v1_0 v1_1 v1_2 => K .nrm (f63s7 v3 v4 v5 v7 v34 v35 v1_0 v1_1 v1_2)) (fun v2 => K .ret (f63s21 v2)) :=
 viaSeqS (fun k => impl_factors.Z27 N v3 v4 v5 v7 v34 v35 v1_0 v1_1 v1_2 k) (by kernel_rfl) (f63t27 N (K := seqK (fun σ => f63i N (f63c 227735) f63p28 σ (joinK (some f63l7) K)) (joinK (some f63l7) K)) ..) (fx10 fun v3 v4 v5 v7 v8 v34 v35 v1_0 v1_1 v1_2 => f63t28 N v3 v4 v5 v7 v8 v34 v35 v1_0 v1_1 v1_2 K) (by kernel_rfl)
theorem f63t56 N v3 v4 v5 v7 v34 v35 v1_0 v1_1 v1_2 (K : KT ρ) : f63i N (f63c 194967) .n (f63s7 v3 v4 v5 v7 v34 v35 v1_0 v1_1 v1_2) (joinK (some f63l14) K) =
  impl_factors.Z56 N v3 v4 v5 v7 v34 v35 v1_0 v1_1 v1_2 (fun v3 v4 v5 v7 v16 v34 v35 v1_0 v1_1 v1_2 => K .nrm (f63s14 v3 v4 v5 v7 v16 v34 v35 v1_0 v1_1 v1_2)) := by kernel_rfl
theorem f63t59 N v3 v4 v5 v7 v16 v34 v35 v1_0 v1_1 v1_2 (K : KT ρ) : f63i N (f63c 653719) .n (f63s14 v3 v4 v5 v7 v16 v34 v35 v1_0 v1_1 v1_2) (joinK (some f63l15) K) =
  impl_factors.Z59 N v3 v4 v5 v7 v16 v34 v35 v1_0 v1_1 v1_2 (fun v3 v4 v5 v7 v16 v34 v35 v159 v160 v1_0 v1_1 v1_2 => K .nrm (f63s15 v3 v4 v5 v7 v16 v34 v35 v159 v160 v1_0 v1_1 v1_2)) := by kernel_rfl
theorem f63t62 N v3 v4 v5 v7 v16 v34 v35 v159 v160 v1_0 v1_1 v1_2 (K : KT ρ) : f63i N (f63c 2488727) .n (f63s15 v3 v4 v5 v7 v16 v34 v35 v159 v160 v1_0 v1_1 v1_2) (joinK (some f63l15) K) =
  impl_factors.Z62 N v3 v4 v5 v7 v16 v34 v35 v159 v160 v1_0 v1_1 v1_2 (fun v3 v4 v5 v7 v16 v34 v35 v159 v160 v1_0 v1_1 v1_2 => K .nrm (f63s15 v3 v4 v5 v7 v16 v34 v35 v159 v160 v1_0 v1_1 v1_2)) (fun v3 v4 v5 v7 v16 v34 v35 v1_0 v1_1 v1_2 => K (.exit 6) (f63s14 v3 v4 v5 v7 v16 v34 v35 v1_0 v1_1 v1_2)) := by kernel_rfl
noncomputable def f63p61 : Plan := .mk none (some f63l15) .n .n
noncomputable abbrev f63w61 {ρ : Type} (N M : Nat) (σ : St) (K : KT ρ) : Option ρ := loopC (fun σ K => f63i N (f63c 2488727) .n σ K) f63l15 M σ K
theorem f63t61L {ρ : Type} (N : Nat) (K : KT ρ) : ∀ (M : Nat) (v3 v4 v5 v7 : LI) (v16 v34 v35 v159 v160 v1_0 v1_1 : Int) (v1_2 : LI), f63w61 N M (f63s15 v3 v4 v5 v7 v16 v34 v35 v159 v160 v1_0 v1_1 v1_2) K =
  impl_factors.Z61L N (fun v3 v4 v5 v7 v16 v34 v35 v1_0 v1_1 v1_2 => K (.exit 6) (f63s14 v3 v4 v5 v7 v16 v34 v35 v1_0 v1_1 v1_2)) M v3 v4 v5 v7 v16 v34 v35 v159 v160 v1_0 v1_1 v1_2
  | 0, _, _, _, _, _, _, _, _, _, _, _, _ => rfl
  | M + 1, v3, v4, v5, v7, v16, v34, v35, v159, v160, v1_0, v1_1, v1_2 => viaRoundS (fun k => impl_factors.Z62 N v3 v4 v5 v7 v16 v34 v35 v159 v160 v1_0 v1_1 v1_2 k (fun v3 v4 v5 v7 v16 v34 v35 v1_0 v1_1 v1_2 => K (.exit 6) (f63s14 v3 v4 v5 v7 v16 v34 v35 v1_0 v1_1 v1_2))) (f63t62 N (K := seqK (fun σ => f63w61 N M σ K) K) ..) (fx12 fun v3 v4 v5 v7 v16 v34 v35 v159 v160 v1_0 v1_1 v1_2 => f63t61L N K M v3 v4 v5 v7 v16 v34 v35 v159 v160 v1_0 v1_1 v1_2) (by kernel_rfl)
theorem f63t61 N v3 v4 v5 v7 v16 v34 v35 v159 v160 v1_0 v1_1 v1_2 (K : KT ρ) : f63i N (f63c 1440151) f63p61 (f63s15 v3 v4 v5 v7 v16 v34 v35 v159 v160 v1_0 v1_1 v1_2) (joinK (some f63l14) K) =
  impl_factors.Z61 N v3 v4 v5 v7 v16 v34 v35 v159 v160 v1_0 v1_1 v1_2 (fun v3 v4 v5 v7 v16 v34 v35 v1_0 v1_1 v1_2 => K (.exit 6) (f63s14 v3 v4 v5 v7 v16 v34 v35 v1_0 v1_1 v1_2)) :=
 viaLoopS (by kernel_rfl) (f63t61L N (joinK (some f63l14) K) N v3 v4 v5 v7 v16 v34 v35 v159 v160 v1_0 v1_1 v1_2) (by kernel_rfl)
noncomputable def f63p60 : Plan := .mk (some f63l14) none f63p61 .n
theorem f63t60 N v3 v4 v5 v7 v16 v34 v35 v159 v160 v1_0 v1_1 v1_2 (K : KT ρ) : f63i N (f63c 915863) f63p60 (f63s15 v3 v4 v5 v7 v16 v34 v35 v159 v160 v1_0 v1_1 v1_2) (joinK (some f63l14) K) =
  impl_factors.Z60 N v3 v4 v5 v7 v16 v34 v35 v159 v160 v1_0 v1_1 v1_2 (fun v3 v4 v5 v7 v16 v34 v35 v1_0 v1_1 v1_2 => K .nrm (f63s14 v3 v4 v5 v7 v16 v34 v35 v1_0 v1_1 v1_2)) :=
 viaBlockS (by kernel_rfl) (f63t61 N (K := blockK 6 (joinK (some f63l14) K)) ..) (by kernel_rfl)
noncomputable def f63p58 : Plan := .mk (some f63l15) none .n f63p60
theorem f63t58 N v3 v4 v5 v7 v16 v34 v35 v1_0 v1_1 v1_2 (K : KT ρ) : f63i N (f63c 391575) f63p58 (f63s14 v3 v4 v5 v7 v16 v34 v35 v1_0 v1_1 v1_2) (joinK (some f63l14) K) =
  impl_factors.Z58 N v3 v4 v5 v7 v16 v34 v35 v1_0 v1_1 v1_2 (fun v3 v4 v5 v7 v16 v34 v35 v1_0 v1_1 v1_2 => K .nrm (f63s14 v3 v4 v5 v7 v16 v34 v35 v1_0 v1_1 v1_2)) :=
 viaSeqS (fun k => impl_factors.Z59 N v3 v4 v5 v7 v16 v34 v35 v1_0 v1_1 v1_2 k) (by kernel_rfl) (f63t59 N (K := seqK (fun σ => f63i N (f63c 915863) f63p60 σ (joinK (some f63l14) K)) (joinK (some f63l14) K)) ..) (fx12 fun v3 v4 v5 v7 v16 v34 v35 v159 v160 v1_0 v1_1 v1_2 => f63t60 N v3 v4 v5 v7 v16 v34 v35 v159 v160 v1_0 v1_1 v1_2 K) (by kernel_rfl)
theorem f63t64 N v3 v4 v5 v7 v16 v34 v35 v1_0 v1_1 v1_2 (K : KT ρ) : f63i N (f63c 784791) .n (f63s14 v3 v4 v5 v7 v16 v34 v35 v1_0 v1_1 v1_2) (joinK (some f63l16) K) =
  impl_factors.Z64 N v3 v4 v5 v7 v16 v34 v35 v1_0 v1_1 v1_2 (fun v3 v4 v5 v7 v16 v19 v34 v35 v1_0 v1_1 v1_2 => K .nrm (f63s16 v3 v4 v5 v7 v16 v19 v34 v35 v1_0 v1_1 v1_2)) := by kernel_rfl
theorem f63t67 N v3 v4 v5 v7 v16 v19 v34 v35 v1_0 v1_1 v1_2 (K : KT ρ) : f63i N (f63c 2619799) .n (f63s16 v3 v4 v5 v7 v16 v19 v34 v35 v1_0 v1_1 v1_2) (joinK (some f63l17) K) =
  impl_factors.Z67 N v3 v4 v5 v7 v16 v19 v34 v35 v1_0 v1_1 v1_2 (fun v3 v4 v5 v7 v16 v19 v34 v35 v179 v180 v1_0 v1_1 v1_2 => K .nrm (f63s17 v3 v4 v5 v7 v16 v19 v34 v35 v179 v180 v1_0 v1_1 v1_2)) := by kernel_rfl
theorem f63t70 N v3 v4 v5 v7 v16 v19 v34 v35 v179 v180 v1_0 v1_1 v1_2 (K : KT ρ) : f63i N (f63c 9959831) .n (f63s17 v3 v4 v5 v7 v16 v19 v34 v35 v179 v180 v1_0 v1_1 v1_2) (joinK (some f63l17) K) =
  impl_factors.Z70 N v3 v4 v5 v7 v16 v19 v34 v35 v179 v180 v1_0 v1_1 v1_2 (fun v3 v4 v5 v7 v16 v19 v34 v35 v179 v180 v1_0 v1_1 v1_2 => K .nrm (f63s17 v3 v4 v5 v7 v16 v19 v34 v35 v179 v180 v1_0 v1_1 v1_2)) (fun v3 v4 v5 v7 v19 v34 v35 v1_0 v1_1 v1_2 => K (.exit 8) (f63s18 v3 v4 v5 v7 v19 v34 v35 v1_0 v1_1 v1_2)) := by kernel_rfl
noncomputable def f63p69 : Plan := .mk none (some f63l17) .n .n
noncomputable abbrev f63w69 {ρ : Type} (N M : Nat) (σ : St) (K : KT ρ) : Option ρ := loopC (fun σ K => f63i N (f63c 9959831) .n σ K) f63l17 M σ K
theorem f63t69L {ρ : Type} (N : Nat) (K : KT ρ) : ∀ (M : Nat) (v3 v4 v5 v7 : LI) (v16 v19 v34 v35 v179 v180 v1_0 v1_1 : Int) (v1_2 : LI), f63w69 N M (f63s17 v3 v4 v5 v7 v16 v19 v34 v35 v179 v180 v1_0 v1_1 v1_2) K =
  impl_factors.Z69L N (fun v3 v4 v5 v7 v19 v34 v35 v1_0 v1_1 v1_2 => K (.exit 8) (f63s18 v3 v4 v5 v7 v19 v34 v35 v1_0 v1_1 v1_2)) M v3 v4 v5 v7 v16 v19 v34 v35 v179 v180 v1_0 v1_1 v1_2
  | 0, _, _, _, _, _, _, _, _, _, _, _, _, _ => rfl
  | M + 1, v3, v4, v5, v7, v16, v19, v34, v35, v179, v180, v1_0, v1_1, v1_2 => viaRoundS (fun k => impl_factors.Z70 N v3 v4 v5 v7 v16 v19 v34 v35 v179 v180 v1_0 v1_1 v1_2 k (fun v3 v4 v5 v7 v19 v34 v35 v1_0 v1_1 v1_2 => K (.exit 8) (f63s18 v3 v4 v5 v7 v19 v34 v35 v1_0 v1_1 v1_2))) (f63t70 N (K := seqK (fun σ => f63w69 N M σ K) K) ..) (fx13 fun v3 v4 v5 v7 v16 v19 v34 v35 v179 v180 v1_0 v1_1 v1_2 => f63t69L N K M v3 v4 v5 v7 v16 v19 v34 v35 v179 v180 v1_0 v1_1 v1_2) (by kernel_rfl)
theorem f63t69 N v3 v4 v5 v7 v16 v19 v34 v35 v179 v180 v1_0 v1_1 v1_2 (K : KT ρ) : f63i N (f63c 5765527) f63p69 (f63s17 v3 v4 v5 v7 v16 v19 v34 v35 v179 v180 v1_0 v1_1 v1_2) (joinK (some f63l18) K) =
  impl_factors.Z69 N v3 v4 v5 v7 v16 v19 v34 v35 v179 v180 v1_0 v1_1 v1_2 (fun v3 v4 v5 v7 v19 v34 v35 v1_0 v1_1 v1_2 => K (.exit 8) (f63s18 v3 v4 v5 v7 v19 v34 v35 v1_0 v1_1 v1_2)) :=
 viaLoopS (by kernel_rfl) (f63t69L N (joinK (some f63l18) K) N v3 v4 v5 v7 v16 v19 v34 v35 v179 v180 v1_0 v1_1 v1_2) (by kernel_rfl)
noncomputable def f63p68 : Plan := .mk (some f63l18) none f63p69 .n
theorem f63t68 N v3 v4 v5 v7 v16 v19 v34 v35 v179 v180 v1_0 v1_1 v1_2 (K : KT ρ) : f63i N (f63c 3668375) f63p68 (f63s17 v3 v4 v5 v7 v16 v19 v34 v35 v179 v180 v1_0 v1_1 v1_2) (joinK (some f63l18) K) =
  impl_factors.Z68 N v3 v4 v5 v7 v16 v19 v34 v35 v179 v180 v1_0 v1_1 v1_2 (fun v3 v4 v5 v7 v19 v34 v35 v1_0 v1_1 v1_2 => K .nrm (f63s18 v3 v4 v5 v7 v19 v34 v35 v1_0 v1_1 v1_2)) :=
 viaBlockS (by kernel_rfl) (f63t69 N (K := blockK 8 (joinK (some f63l18) K)) ..) (by kernel_rfl)
noncomputable def f63p66 : Plan := .mk (some f63l17) none .n f63p68
theorem f63t66 N v3 v4 v5 v7 v16 v19 v34 v35 v1_0 v1_1 v1_2 (K : KT ρ) : f63i N (f63c 1571223) f63p66 (f63s16 v3 v4 v5 v7 v16 v19 v34 v35 v1_0 v1_1 v1_2) (joinK (some f63l18) K) =
  impl_factors.Z66 N v3 v4 v5 v7 v16 v19 v34 v35 v1_0 v1_1 v1_2 (fun v3 v4 v5 v7 v19 v34 v35 v1_0 v1_1 v1_2 => K .nrm (f63s18 v3 v4 v5 v7 v19 v34 v35 v1_0 v1_1 v1_2)) :=
 viaSeqS (fun k => impl_factors.Z67 N v3 v4 v5 v7 v16 v19 v34 v35 v1_0 v1_1 v1_2 k) (by kernel_rfl) (f63t67 N (K := seqK (fun σ => f63i N (f63c 3668375) f63p68 σ (joinK (some f63l18) K)) (joinK (some f63l18) K)) ..) (fx13 fun v3 v4 v5 v7 v16 v19 v34 v35 v179 v180 v1_0 v1_1 v1_2 => f63t68 N v3 v4 v5 v7 v16 v19 v34 v35 v179 v180 v1_0 v1_1 v1_2 K) (by kernel_rfl)
theorem f63t72 N v3 v4 v5 v7 v19 v34 v35 v1_0 v1_1 v1_2 (K : KT ρ) : f63i N (f63c 3144087) .n (f63s18 v3 v4 v5 v7 v19 v34 v35 v1_0 v1_1 v1_2) (joinK (some f63l19) K) =
  impl_factors.Z72 N v3 v4 v5 v7 v19 v34 v35 v1_0 v1_1 v1_2 (fun v3 v4 v5 v205 v19 v34 v35 v206 v207 v1_0 v1_1 v1_2 => K .nrm (f63s19 v3 v4 v5 v205 v19 v34 v35 v206 v207 v1_0 v1_1 v1_2)) := by kernel_rfl
theorem f63t75 N v3 v4 v5 v205 v19 v34 v35 v206 v207 v1_0 v1_1 v1_2 (K : KT ρ) : f63i N (f63c 10484119) .n (f63s19 v3 v4 v5 v205 v19 v34 v35 v206 v207 v1_0 v1_1 v1_2) (joinK (some f63l19) K) =
  impl_factors.Z75 N v3 v4 v5 v205 v19 v34 v35 v206 v207 v1_0 v1_1 v1_2 (fun v3 v4 v5 v205 v19 v34 v35 v206 v207 v1_0 v1_1 v1_2 => K .nrm (f63s19 v3 v4 v5 v205 v19 v34 v35 v206 v207 v1_0 v1_1 v1_2)) (fun v3 v4 v5 v34 v35 v1_0 v1_1 v1_2 => K (.exit 10) (f63s4 v3 v4 v5 v34 v35 v1_0 v1_1 v1_2)) := by kernel_rfl
noncomputable def f63p74 : Plan := .mk none (some f63l19) .n .n
noncomputable abbrev f63w74 {ρ : Type} (N M : Nat) (σ : St) (K : KT ρ) : Option ρ := loopC (fun σ K => f63i N (f63c 10484119) .n σ K) f63l19 M σ K
theorem f63t74L {ρ : Type} (N : Nat) (K : KT ρ) : ∀ (M : Nat) (v3 v4 v5 v205 : LI) (v19 v34 v35 v206 v207 v1_0 v1_1 : Int) (v1_2 : LI), f63w74 N M (f63s19 v3 v4 v5 v205 v19 v34 v35 v206 v207 v1_0 v1_1 v1_2) K =
  impl_factors.Z74L N (fun v3 v4 v5 v34 v35 v1_0 v1_1 v1_2 => K (.exit 10) (f63s4 v3 v4 v5 v34 v35 v1_0 v1_1 v1_2)) M v3 v4 v5 v205 v19 v34 v35 v206 v207 v1_0 v1_1 v1_2
  | 0, _, _, _, _, _, _, _, _, _, _, _, _ => rfl
  | M + 1, v3, v4, v5, v205, v19, v34, v35, v206, v207, v1_0, v1_1, v1_2 => viaRoundS (fun k => impl_factors.Z75 N v3 v4 v5 v205 v19 v34 v35 v206 v207 v1_0 v1_1 v1_2 k (fun v3 v4 v5 v34 v35 v1_0 v1_1 v1_2 => K (.exit 10) (f63s4 v3 v4 v5 v34 v35 v1_0 v1_1 v1_2))) (f63t75 N (K := seqK (fun σ => f63w74 N M σ K) K) ..) (fx12 fun v3 v4 v5 v205 v19 v34 v35 v206 v207 v1_0 v1_1 v1_2 => f63t74L N K M v3 v4 v5 v205 v19 v34 v35 v206 v207 v1_0 v1_1 v1_2) (by kernel_rfl)
theorem f63t74 N v3 v4 v5 v205 v19 v34 v35 v206 v207 v1_0 v1_1 v1_2 (K : KT ρ) : f63i N (f63c 6289815) f63p74 (f63s19 v3 v4 v5 v205 v19 v34 v35 v206 v207 v1_0 v1_1 v1_2) (joinK (some f63l4) K) =
  impl_factors.Z74 N v3 v4 v5 v205 v19 v34 v35 v206 v207 v1_0 v1_1 v1_2 (fun v3 v4 v5 v34 v35 v1_0 v1_1 v1_2 => K (.exit 10) (f63s4 v3 v4 v5 v34 v35 v1_0 v1_1 v1_2)) :=
 viaLoopS (by kernel_rfl) (f63t74L N (joinK (some f63l4) K) N v3 v4 v5 v205 v19 v34 v35 v206 v207 v1_0 v1_1 v1_2) (by kernel_rfl)
noncomputable def f63p73 : Plan := .mk (some f63l4) none f63p74 .n
theorem f63t73 N v3 v4 v5 v205 v19 v34 v35 v206 v207 v1_0 v1_1 v1_2 (K : KT ρ) : f63i N (f63c 4192663) f63p73 (f63s19 v3 v4 v5 v205 v19 v34 v35 v206 v207 v1_0 v1_1 v1_2) (joinK (some f63l4) K) =
  impl_factors.Z73 N v3 v4 v5 v205 v19 v34 v35 v206 v207 v1_0 v1_1 v1_2 (fun v3 v4 v5 v34 v35 v1_0 v1_1 v1_2 => K .nrm (f63s4 v3 v4 v5 v34 v35 v1_0 v1_1 v1_2)) :=
 viaBlockS (by kernel_rfl) (f63t74 N (K := blockK 10 (joinK (some f63l4) K)) ..) (by kernel_rfl)
noncomputable def f63p71 : Plan := .mk (some f63l19) none .n f63p73
theorem f63t71 N v3 v4 v5 v7 v19 v34 v35 v1_0 v1_1 v1_2 (K : KT ρ) : f63i N (f63c 2095511) f63p71 (f63s18 v3 v4 v5 v7 v19 v34 v35 v1_0 v1_1 v1_2) (joinK (some f63l4) K) =
  impl_factors.Z71 N v3 v4 v5 v7 v19 v34 v35 v1_0 v1_1 v1_2 (fun v3 v4 v5 v34 v35 v1_0 v1_1 v1_2 => K .nrm (f63s4 v3 v4 v5 v34 v35 v1_0 v1_1 v1_2)) :=
 viaSeqS (fun k => impl_factors.Z72 N v3 v4 v5 v7 v19 v34 v35 v1_0 v1_1 v1_2 k) (by kernel_rfl) (f63t72 N (K := seqK (fun σ => f63i N (f63c 4192663) f63p73 σ (joinK (some f63l4) K)) (joinK (some f63l4) K)) ..) (fx12 fun v3 v4 v5 v205 v19 v34 v35 v206 v207 v1_0 v1_1 v1_2 => f63t73 N v3 v4 v5 v205 v19 v34 v35 v206 v207 v1_0 v1_1 v1_2 K) (by kernel_rfl)
noncomputable def f63p65 : Plan := .mk (some f63l18) none f63p66 f63p71
theorem f63t65 N v3 v4 v5 v7 v16 v19 v34 v35 v1_0 v1_1 v1_2 (K : KT ρ) : f63i N (f63c 1046935) f63p65 (f63s16 v3 v4 v5 v7 v16 v19 v34 v35 v1_0 v1_1 v1_2) (joinK (some f63l4) K) =
  impl_factors.Z65 N v3 v4 v5 v7 v16 v19 v34 v35 v1_0 v1_1 v1_2 (fun v3 v4 v5 v34 v35 v1_0 v1_1 v1_2 => K .nrm (f63s4 v3 v4 v5 v34 v35 v1_0 v1_1 v1_2)) :=
 viaSeqS (fun k => impl_factors.Z66 N v3 v4 v5 v7 v16 v19 v34 v35 v1_0 v1_1 v1_2 k) (by kernel_rfl) (f63t66 N (K := seqK (fun σ => f63i N (f63c 2095511) f63p71 σ (joinK (some f63l4) K)) (joinK (some f63l4) K)) ..) (fx10 fun v3 v4 v5 v7 v19 v34 v35 v1_0 v1_1 v1_2 => f63t71 N v3 v4 v5 v7 v19 v34 v35 v1_0 v1_1 v1_2 K) (by kernel_rfl)
noncomputable def f63p63 : Plan := .mk (some f63l16) none .n f63p65
theorem f63t63 N v3 v4 v5 v7 v16 v34 v35 v1_0 v1_1 v1_2 (K : KT ρ) : f63i N (f63c 522647) f63p63 (f63s14 v3 v4 v5 v7 v16 v34 v35 v1_0 v1_1 v1_2) (joinK (some f63l4) K) =
  impl_factors.Z63 N v3 v4 v5 v7 v16 v34 v35 v1_0 v1_1 v1_2 (fun v3 v4 v5 v34 v35 v1_0 v1_1 v1_2 => K .nrm (f63s4 v3 v4 v5 v34 v35 v1_0 v1_1 v1_2)) :=
 viaSeqS (fun k => impl_factors.Z64 N v3 v4 v5 v7 v16 v34 v35 v1_0 v1_1 v1_2 k) (by kernel_rfl) (f63t64 N (K := seqK (fun σ => f63i N (f63c 1046935) f63p65 σ (joinK (some f63l4) K)) (joinK (some f63l4) K)) ..) (fx11 fun v3 v4 v5 v7 v16 v19 v34 v35 v1_0 v1_1 v1_2 => f63t65 N v3 v4 v5 v7 v16 v19 v34 v35 v1_0 v1_1 v1_2 K) (by kernel_rfl)
noncomputable def f63p57 : Plan := .mk (some f63l14) none f63p58 f63p63
theorem f63t57 N v3 v4 v5 v7 v16 v34 v35 v1_0 v1_1 v1_2 (K : KT ρ) : f63i N (f63c 260503) f63p57 (f63s14 v3 v4 v5 v7 v16 v34 v35 v1_0 v1_1 v1_2) (joinK (some f63l4) K) =
  impl_factors.Z57 N v3 v4 v5 v7 v16 v34 v35 v1_0 v1_1 v1_2 (fun v3 v4 v5 v34 v35 v1_0 v1_1 v1_2 => K .nrm (f63s4 v3 v4 v5 v34 v35 v1_0 v1_1 v1_2)) :=
 viaSeqS (fun k => impl_factors.Z58 N v3 v4 v5 v7 v16 v34 v35 v1_0 v1_1 v1_2 k) (by kernel_rfl) (f63t58 N (K := seqK (fun σ => f63i N (f63c 522647) f63p63 σ (joinK (some f63l4) K)) (joinK (some f63l4) K)) ..) (fx10 fun v3 v4 v5 v7 v16 v34 v35 v1_0 v1_1 v1_2 => f63t63 N v3 v4 v5 v7 v16 v34 v35 v1_0 v1_1 v1_2 K) (by kernel_rfl)
noncomputable def f63p55 : Plan := .mk (some f63l14) none .n f63p57
theorem f63t55 N v3 v4 v5 v7 v34 v35 v1_0 v1_1 v1_2 (K : KT ρ) : f63i N (f63c 129431) f63p55 (f63s7 v3 v4 v5 v7 v34 v35 v1_0 v1_1 v1_2) (joinK (some f63l4) K) =
  impl_factors.Z55 N v3 v4 v5 v7 v34 v35 v1_0 v1_1 v1_2 (fun v3 v4 v5 v34 v35 v1_0 v1_1 v1_2 => K .nrm (f63s4 v3 v4 v5 v34 v35 v1_0 v1_1 v1_2)) :=
 viaSeqS (fun k => impl_factors.Z56 N v3 v4 v5 v7 v34 v35 v1_0 v1_1 v1_2 k) (by kernel_rfl) (f63t56 N (K := seqK (fun σ => f63i N (f63c 260503) f63p57 σ (joinK (some f63l4) K)) (joinK (some f63l4) K)) ..) (fx10 fun v3 v4 v5 v7 v16 v34 v35 v1_0 v1_1 v1_2 => f63t57 N v3 v4 v5 v7 v16 v34 v35 v1_0 v1_1 v1_2 K) (by kernel_rfl)
noncomputable def f63p25 : Plan := .mk (some f63l7) none f63p26 f63p55
theorem f63t25 N v3 v4 v5 v7 v34 v35 v1_0 v1_1 v1_2 (K : KT ρ) : f63i N (f63c 63895) f63p25 (f63s7 v3 v4 v5 v7 v34 v35 v1_0 v1_1 v1_2) (joinK (some f63l4) K) =
  impl_factors.Z25 N v3 v4 v5 v7 v34 v35 v1_0 v1_1 v1_2 (fun v3 v4 v5 v34 v35 v1_0 v1_1 v1_2 => K .nrm (f63s4 v3 v4 v5 v34 v35 v1_0 v1_1 v1_2)) (fun v2 => K .ret (f63s21 v2)) :=
 viaSeqS (fun k => impl_factors.Z26 N v3 v4 v5 v7 v34 v35 v1_0 v1_1 v1_2 k (fun v2 => K .ret (f63s21 v2))) (by kernel_rfl) (f63t26 N (K := seqK (fun σ => f63i N (f63c 129431) f63p55 σ (joinK (some f63l4) K)) (joinK (some f63l4) K)) ..) (fx9 fun v3 v4 v5 v7 v34 v35 v1_0 v1_1 v1_2 => f63t55 N v3 v4 v5 v7 v34 v35 v1_0 v1_1 v1_2 K) (by kernel_rfl)
noncomputable def f63p23 : Plan := .mk (some f63l7) none .n f63p25
theorem f63t23 N v3 v4 v5 v6 v34 v35 v1_0 v1_1 v1_2 (K : KT ρ) : f63i N (f63c 31127) f63p23 (f63s6 v3 v4 v5 v6 v34 v35 v1_0 v1_1 v1_2) (joinK (some f63l4) K) =
  impl_factors.Z23 N v3 v4 v5 v6 v34 v35 v1_0 v1_1 v1_2 (fun v3 v4 v5 v34 v35 v1_0 v1_1 v1_2 => K .nrm (f63s4 v3 v4 v5 v34 v35 v1_0 v1_1 v1_2)) (fun v2 => K .ret (f63s21 v2)) :=
 viaSeqS (fun k => impl_factors.Z24 N v3 v4 v5 v6 v34 v35 v1_0 v1_1 v1_2 k) (by kernel_rfl) (f63t24 N (K := seqK (fun σ => f63i N (f63c 63895) f63p25 σ (joinK (some f63l4) K)) (joinK (some f63l4) K)) ..) (fx9 fun v3 v4 v5 v7 v34 v35 v1_0 v1_1 v1_2 => f63t25 N v3 v4 v5 v7 v34 v35 v1_0 v1_1 v1_2 K) (by kernel_rfl)
noncomputable def f63p21 : Plan := .mk (some f63l6) none .n f63p23
theorem f63t21 N v3 v4 v5 v6 v34 v35 v1_0 v1_1 v1_2 (K : KT ρ) : f63i N (f63c 14743) f63p21 (f63s6 v3 v4 v5 v6 v34 v35 v1_0 v1_1 v1_2) (joinK (some f63l4) K) =
  impl_factors.Z21 N v3 v4 v5 v6 v34 v35 v1_0 v1_1 v1_2 (fun v3 v4 v5 v34 v35 v1_0 v1_1 v1_2 => K .nrm (f63s4 v3 v4 v5 v34 v35 v1_0 v1_1 v1_2)) (fun v2 => K .ret (f63s21 v2)) :=
 viaSeqS (fun k => impl_factors.Z22 N v3 v4 v5 v6 v34 v35 v1_0 v1_1 v1_2 k) (by kernel_rfl) (f63t22 N (K := seqK (fun σ => f63i N (f63c 31127) f63p23 σ (joinK (some f63l4) K)) (joinK (some f63l4) K)) ..) (fx9 fun v3 v4 v5 v6 v34 v35 v1_0 v1_1 v1_2 => f63t23 N v3 v4 v5 v6 v34 v35 v1_0 v1_1 v1_2 K) (by kernel_rfl)
noncomputable def f63p19 : Plan := .mk (some f63l6) none .n f63p21
theorem f63t19 N v3 v4 v5 v6 v34 v35 v1_0 v1_1 v1_2 (K : KT ρ) : f63i N (f63c 6551) f63p19 (f63s6 v3 v4 v5 v6 v34 v35 v1_0 v1_1 v1_2) (joinK (some f63l4) K) =
  impl_factors.Z19 N v3 v4 v5 v6 v34 v35 v1_0 v1_1 v1_2 (fun v3 v4 v5 v34 v35 v1_0 v1_1 v1_2 => K .nrm (f63s4 v3 v4 v5 v34 v35 v1_0 v1_1 v1_2)) (fun v3 v4 v5 v34 v35 v1_0 v1_1 v1_2 => K (.exit 1) (f63s4 v3 v4 v5 v34 v35 v1_0 v1_1 v1_2)) (fun v2 => K .ret (f63s21 v2)) :=
 viaSeqS (fun k => impl_factors.Z20 N v3 v4 v5 v6 v34 v35 v1_0 v1_1 v1_2 k (fun v3 v4 v5 v34 v35 v1_0 v1_1 v1_2 => K (.exit 1) (f63s4 v3 v4 v5 v34 v35 v1_0 v1_1 v1_2))) (by kernel_rfl) (f63t20 N (K := seqK (fun σ => f63i N (f63c 14743) f63p21 σ (joinK (some f63l4) K)) (joinK (some f63l4) K)) ..) (fx9 fun v3 v4 v5 v6 v34 v35 v1_0 v1_1 v1_2 => f63t21 N v3 v4 v5 v6 v34 v35 v1_0 v1_1 v1_2 K) (by kernel_rfl)
noncomputable def f63p17 : Plan := .mk (some f63l6) none .n f63p19
theorem f63t17 N v3 v4 v5 v34 v35 v1_0 v1_1 v1_2 (K : KT ρ) : f63i N (f63c 2455) f63p17 (f63s4 v3 v4 v5 v34 v35 v1_0 v1_1 v1_2) (joinK (some f63l4) K) =
  impl_factors.Z17 N v3 v4 v5 v34 v35 v1_0 v1_1 v1_2 (fun v3 v4 v5 v34 v35 v1_0 v1_1 v1_2 => K .nrm (f63s4 v3 v4 v5 v34 v35 v1_0 v1_1 v1_2)) (fun v3 v4 v5 v34 v35 v1_0 v1_1 v1_2 => K (.exit 1) (f63s4 v3 v4 v5 v34 v35 v1_0 v1_1 v1_2)) (fun v2 => K .ret (f63s21 v2)) :=
 viaSeqS (fun k => impl_factors.Z18 N v3 v4 v5 v34 v35 v1_0 v1_1 v1_2 k) (by kernel_rfl) (f63t18 N (K := seqK (fun σ => f63i N (f63c 6551) f63p19 σ (joinK (some f63l4) K)) (joinK (some f63l4) K)) ..) (fx9 fun v3 v4 v5 v6 v34 v35 v1_0 v1_1 v1_2 => f63t19 N v3 v4 v5 v6 v34 v35 v1_0 v1_1 v1_2 K) (by kernel_rfl)
noncomputable def f63p16 : Plan := .mk (some f63l4) none f63p17 .n
theorem f63t16 N v3 v4 v5 v34 v35 v1_0 v1_1 v1_2 (K : KT ρ) : f63i N (f63c 1431) f63p16 (f63s4 v3 v4 v5 v34 v35 v1_0 v1_1 v1_2) (joinK (some f63l4) K) =
  impl_factors.Z16 N v3 v4 v5 v34 v35 v1_0 v1_1 v1_2 (fun v3 v4 v5 v34 v35 v1_0 v1_1 v1_2 => K .nrm (f63s4 v3 v4 v5 v34 v35 v1_0 v1_1 v1_2)) (fun v2 => K .ret (f63s21 v2)) :=
 viaBlockS (by kernel_rfl) (f63t17 N (K := blockK 1 (joinK (some f63l4) K)) ..) (by kernel_rfl)
theorem f63t76 N v3 v4 v5 v34 v35 v1_0 v1_1 v1_2 (K : KT ρ) : f63i N (f63c 1943) .n (f63s4 v3 v4 v5 v34 v35 v1_0 v1_1 v1_2) (joinK (some f63l4) K) =
  impl_factors.Z76 N v3 v4 v5 v34 v35 v1_0 v1_1 v1_2 (fun v3 v4 v5 v34 v35 v1_0 v1_1 v1_2 => K .nrm (f63s4 v3 v4 v5 v34 v35 v1_0 v1_1 v1_2)) := by kernel_rfl
noncomputable def f63p15 : Plan := .mk (some f63l4) none f63p16 .n
theorem f63t15 N v3 v4 v5 v34 v35 v1_0 v1_1 v1_2 (K : KT ρ) : f63i N (f63c 919) f63p15 (f63s4 v3 v4 v5 v34 v35 v1_0 v1_1 v1_2) (joinK (some f63l4) K) =
  impl_factors.Z15 N v3 v4 v5 v34 v35 v1_0 v1_1 v1_2 (fun v3 v4 v5 v34 v35 v1_0 v1_1 v1_2 => K .nrm (f63s4 v3 v4 v5 v34 v35 v1_0 v1_1 v1_2)) (fun v2 => K .ret (f63s21 v2)) :=
 viaSeqS (fun k => impl_factors.Z16 N v3 v4 v5 v34 v35 v1_0 v1_1 v1_2 k (fun v2 => K .ret (f63s21 v2))) (by kernel_rfl) (f63t16 N (K := seqK (fun σ => f63i N (f63c 1943) .n σ (joinK (some f63l4) K)) (joinK (some f63l4) K)) ..) (fx8 fun v3 v4 v5 v34 v35 v1_0 v1_1 v1_2 => f63t76 N v3 v4 v5 v34 v35 v1_0 v1_1 v1_2 K) (by kernel_rfl)
noncomputable def f63p13 : Plan := .mk (some f63l4) none .n f63p15
theorem f63t13 N v3 v4 v5 v34 v35 v36 v1_0 v1_1 v1_2 (K : KT ρ) : f63i N (f63c 407) f63p13 (f63s5 v3 v4 v5 v34 v35 v36 v1_0 v1_1 v1_2) (joinK (some f63l4) K) =
  impl_factors.Z13 N v3 v4 v5 v34 v35 v36 v1_0 v1_1 v1_2 (fun v3 v4 v5 v34 v35 v1_0 v1_1 v1_2 => K .nrm (f63s4 v3 v4 v5 v34 v35 v1_0 v1_1 v1_2)) (fun v5 => K (.exit 0) (f63s20 v5)) (fun v2 => K .ret (f63s21 v2)) :=
 viaSeqS (fun k => impl_factors.Z14 N v3 v4 v5 v34 v35 v36 v1_0 v1_1 v1_2 k (fun v5 => K (.exit 0) (f63s20 v5))) (by kernel_rfl) (f63t14 N (K := seqK (fun σ => f63i N (f63c 919) f63p15 σ (joinK (some f63l4) K)) (joinK (some f63l4) K)) ..) (fx8 fun v3 v4 v5 v34 v35 v1_0 v1_1 v1_2 => f63t15 N v3 v4 v5 v34 v35 v1_0 v1_1 v1_2 K) (by kernel_rfl)
noncomputable def f63p11 : Plan := .mk (some f63l5) none .n f63p13
theorem f63t11 N v3 v4 v5 v34 v35 v1_0 v1_1 v1_2 (K : KT ρ) : f63i N (f63c 151) f63p11 (f63s4 v3 v4 v5 v34 v35 v1_0 v1_1 v1_2) (joinK (some f63l4) K) =
  impl_factors.Z11 N v3 v4 v5 v34 v35 v1_0 v1_1 v1_2 (fun v3 v4 v5 v34 v35 v1_0 v1_1 v1_2 => K .nrm (f63s4 v3 v4 v5 v34 v35 v1_0 v1_1 v1_2)) (fun v5 => K (.exit 0) (f63s20 v5)) (fun v2 => K .ret (f63s21 v2)) :=
 viaSeqS (fun k => impl_factors.Z12 N v3 v4 v5 v34 v35 v1_0 v1_1 v1_2 k) (by kernel_rfl) (f63t12 N (K := seqK (fun σ => f63i N (f63c 407) f63p13 σ (joinK (some f63l4) K)) (joinK (some f63l4) K)) ..) (fx9 fun v3 v4 v5 v34 v35 v36 v1_0 v1_1 v1_2 => f63t13 N v3 v4 v5 v34 v35 v36 v1_0 v1_1 v1_2 K) (by kernel_rfl)
noncomputable def f63p10 : Plan := .mk none (some f63l4) f63p11 .n
noncomputable abbrev f63w10 {ρ : Type} (N M : Nat) (σ : St) (K : KT ρ) : Option ρ := loopC (fun σ K => f63i N (f63c 151) f63p11 σ K) f63l4 M σ K
theorem f63t10L {ρ : Type} (N : Nat) (K : KT ρ) : ∀ (M : Nat) (v3 v4 v5 : LI) (v34 v35 v1_0 v1_1 : Int) (v1_2 : LI), f63w10 N M (f63s4 v3 v4 v5 v34 v35 v1_0 v1_1 v1_2) K =
  impl_factors.Z10L N (fun v5 => K (.exit 0) (f63s20 v5)) (fun v2 => K .ret (f63s21 v2)) M v3 v4 v5 v34 v35 v1_0 v1_1 v1_2
  | 0, _, _, _, _, _, _, _, _ => rfl
  | M + 1, v3, v4, v5, v34, v35, v1_0, v1_1, v1_2 => viaRoundS (fun k => impl_factors.Z11 N v3 v4 v5 v34 v35 v1_0 v1_1 v1_2 k (fun v5 => K (.exit 0) (f63s20 v5)) (fun v2 => K .ret (f63s21 v2))) (f63t11 N (K := seqK (fun σ => f63w10 N M σ K) K) ..) (fx8 fun v3 v4 v5 v34 v35 v1_0 v1_1 v1_2 => f63t10L N K M v3 v4 v5 v34 v35 v1_0 v1_1 v1_2) (by kernel_rfl)
theorem f63t10 N v3 v4 v5 v34 v35 v1_0 v1_1 v1_2 (K : KT ρ) : f63i N (f63c 87) f63p10 (f63s4 v3 v4 v5 v34 v35 v1_0 v1_1 v1_2) (joinK (some f63l20) K) =
  impl_factors.Z10 N v3 v4 v5 v34 v35 v1_0 v1_1 v1_2 (fun v5 => K (.exit 0) (f63s20 v5)) (fun v2 => K .ret (f63s21 v2)) :=
 viaLoopS (by kernel_rfl) (f63t10L N (joinK (some f63l20) K) N v3 v4 v5 v34 v35 v1_0 v1_1 v1_2) (by kernel_rfl)
noncomputable def f63p9 : Plan := .mk (some f63l20) none f63p10 .n
theorem f63t9 N v3 v4 v5 v34 v35 v1_0 v1_1 v1_2 (K : KT ρ) : f63i N (f63c 55) f63p9 (f63s4 v3 v4 v5 v34 v35 v1_0 v1_1 v1_2) (joinK (some f63l20) K) =
  impl_factors.Z9 N v3 v4 v5 v34 v35 v1_0 v1_1 v1_2 (fun v5 => K .nrm (f63s20 v5)) (fun v2 => K .ret (f63s21 v2)) :=
 viaBlockS (by kernel_rfl) (f63t10 N (K := blockK 0 (joinK (some f63l20) K)) ..) (by kernel_rfl)
noncomputable def f63p7 : Plan := .mk (some f63l4) none .n f63p9
theorem f63t7 N v3 v4 v5 v1_0 v1_1 v1_2 (K : KT ρ) : f63i N (f63c 23) f63p7 (f63s3 v3 v4 v5 v1_0 v1_1 v1_2) (joinK (some f63l20) K) =
  impl_factors.Z7 N v3 v4 v5 v1_0 v1_1 v1_2 (fun v5 => K .nrm (f63s20 v5)) (fun v2 => K .ret (f63s21 v2)) :=
 viaSeqS (fun k => impl_factors.Z8 N v3 v4 v5 v1_0 v1_1 v1_2 k) (by kernel_rfl) (f63t8 N (K := seqK (fun σ => f63i N (f63c 55) f63p9 σ (joinK (some f63l20) K)) (joinK (some f63l20) K)) ..) (fx8 fun v3 v4 v5 v34 v35 v1_0 v1_1 v1_2 => f63t9 N v3 v4 v5 v34 v35 v1_0 v1_1 v1_2 K) (by kernel_rfl)
theorem f63t77 N v5 (K : KT ρ) : f63i N (f63c 31) .n (f63s20 v5) (joinK (some f63lE) K) =
  impl_factors.Z77 N v5 (fun v2 => K .ret (f63s21 v2)) := by kernel_rfl
noncomputable def f63p6 : Plan := .mk (some f63l20) none f63p7 .n
theorem f63t6 N v3 v4 v5 v1_0 v1_1 v1_2 (K : KT ρ) : f63i N (f63c 15) f63p6 (f63s3 v3 v4 v5 v1_0 v1_1 v1_2) (joinK (some f63lE) K) =
  impl_factors.Z6 N v3 v4 v5 v1_0 v1_1 v1_2 (fun v2 => K .ret (f63s21 v2)) :=
 viaSeqS (fun k => impl_factors.Z7 N v3 v4 v5 v1_0 v1_1 v1_2 k (fun v2 => K .ret (f63s21 v2))) (by kernel_rfl) (f63t7 N (K := seqK (fun σ => f63i N (f63c 31) .n σ (joinK (some f63lE) K)) (joinK (some f63lE) K)) ..) (funext fun v5 => f63t77 N v5 K) (by kernel_rfl)
noncomputable def f63p4 : Plan := .mk (some f63l3) none .n f63p6
theorem f63t4 N v3 v4 v1_0 v1_1 v1_2 (K : KT ρ) : f63i N (f63c 7) f63p4 (f63s2 v3 v4 v1_0 v1_1 v1_2) (joinK (some f63lE) K) =
  impl_factors.Z4 N v3 v4 v1_0 v1_1 v1_2 (fun v2 => K .ret (f63s21 v2)) :=
 viaSeqS (fun k => impl_factors.Z5 N v3 v4 v1_0 v1_1 v1_2 k) (by kernel_rfl) (f63t5 N (K := seqK (fun σ => f63i N (f63c 15) f63p6 σ (joinK (some f63lE) K)) (joinK (some f63lE) K)) ..) (fx6 fun v3 v4 v5 v1_0 v1_1 v1_2 => f63t6 N v3 v4 v5 v1_0 v1_1 v1_2 K) (by kernel_rfl)
noncomputable def f63p2 : Plan := .mk (some f63l2) none .n f63p4
theorem f63t2 N v1_0 v1_1 v1_2 (K : KT ρ) : f63i N (f63c 3) f63p2 (f63s1 v1_0 v1_1 v1_2) (joinK (some f63lE) K) =
  impl_factors.Z2 N v1_0 v1_1 v1_2 (fun v2 => K .ret (f63s21 v2)) :=
 viaSeqS (fun k => impl_factors.Z3 N v1_0 v1_1 v1_2 k) (by kernel_rfl) (f63t3 N (K := seqK (fun σ => f63i N (f63c 7) f63p4 σ (joinK (some f63lE) K)) (joinK (some f63lE) K)) ..) (fx5 fun v3 v4 v1_0 v1_1 v1_2 => f63t4 N v3 v4 v1_0 v1_1 v1_2 K) (by kernel_rfl)
noncomputable def f63p0 : Plan := .mk (some f63l1) none .n f63p2
theorem f63t0 N v0 (K : KT ρ) : f63i N (f63c 1) f63p0 (f63s0 v0) (joinK (some f63lE) K) =
  impl_factors.Z0 N v0 (fun v2 => K .ret (f63s21 v2)) :=
 viaSeqS (fun k => impl_factors.Z1 N v0 k) (by kernel_rfl) (f63t1 N (K := seqK (fun σ => f63i N (f63c 3) f63p2 σ (joinK (some f63lE) K)) (joinK (some f63lE) K)) ..) (fx3 fun v1_0 v1_1 v1_2 => f63t2 N v1_0 v1_1 v1_2 K) (by kernel_rfl)
theorem f63m (N : Nat) (v0 : MT) : f63i N (f63c 1) f63p0 (f63s0 v0) (joinK (some f63lE) (finK tab f63sig Tryd.f63.results.toList)) = impl_factors.Z0 N v0 (fun v2 => some ((), (v2, ()))) :=
  (f63t0 N v0 (finK tab f63sig Tryd.f63.results.toList)).trans (by kernel_rfl)
theorem f63ok (h : impl_factors.Spec) : EntryOk Tryd.prog 63 e63 :=
  entry_of_code (sig := f63sig) (c := (f63c 1)) (pl := f63p0) (je := (some f63lE)) (B := f63B) Tryd.func63 (by kernel_rfl) (by kernel_rfl) (by kernel_rfl) tabOk f63GOk (by kernel_rfl) (by kernel_rfl) (by kernel_rfl) (by kernel_rfl) fun X hb hp => by
    obtain ⟨v0, _⟩ := X
    obtain ⟨N, h⟩ := h v0 hb.1 hp
    exact ⟨N, (f63m N v0).trans (h N (Nat.le_refl N))⟩
theorem e63ok : EntryOk Tryd.prog 63 e63 := f63ok impl_factors.ok
end Go.Fw
namespace Go.Fw
variable {ρ : Type}
open Go.Proofs
noncomputable def f36sig : Sig := ⟨[⟨.pair (.int .i64) (.pair (.int .i64) (.sl 3 (.int .i64))), true, false⟩], [⟨.bool, false, false⟩]⟩
noncomputable def e36 : Entry := ⟨f36sig, none, fun X => ((), ((impl_MatrixOk.g X.1), ()))⟩
noncomputable def f36G : Gm := addG (addG emptyG 62 e62) 63 e63
theorem f36GOk : GOk Tryd.prog f36G := ((GOk.nil).add e62ok (by kernel_rfl)).add e63ok (by kernel_rfl)
noncomputable def f36lE : Clean := ⟨[], [], [], [], []⟩
noncomputable def f36s0 (v0 : MT) : St := initSt f36sig.ps (v0, ())
noncomputable def f36s1 (v2 : Bool) : St := stOf [(2, xB v2)] [] []
noncomputable def f36l1 : Clean := ⟨[2], [], [], [], []⟩
noncomputable def f36B : Nat → Option Clean := lookL [(1000000, f36l1)]
noncomputable abbrev f36i {ρ : Type} (N : Nat) (c : Code) (p : Plan) (σ : St) (K : KT ρ) : Option ρ := iCode f36G tab f36B N c p σ K
noncomputable def f36c (n : Nat) : Code := codeN 99 (bodyOf Tryd.f36) n
theorem f36t0 N v0 (K : KT ρ) : f36i N (f36c 1) .n (f36s0 v0) (joinK (some f36lE) K) =
  impl_MatrixOk.Z0 N v0 (fun v2 => K .ret (f36s1 v2)) := by kernel_rfl
theorem f36m (N : Nat) (v0 : MT) : f36i N (f36c 1) .n (f36s0 v0) (joinK (some f36lE) (finK tab f36sig Tryd.f36.results.toList)) = impl_MatrixOk.Z0 N v0 (fun v2 => some ((), (v2, ()))) :=
  (f36t0 N v0 (finK tab f36sig Tryd.f36.results.toList)).trans (by kernel_rfl)
theorem f36ok (h : impl_MatrixOk.Spec) : EntryOk Tryd.prog 36 e36 :=
  entry_of_code (sig := f36sig) (c := (f36c 1)) (pl := .n) (je := (some f36lE)) (B := f36B) Tryd.func36 (by kernel_rfl) (by kernel_rfl) (by kernel_rfl) tabOk f36GOk (by kernel_rfl) (by kernel_rfl) (by kernel_rfl) (by kernel_rfl) fun X hb hp => by
    obtain ⟨v0, _⟩ := X
    obtain ⟨N, h⟩ := h v0 hb.1
    exact ⟨N, (f36m N v0).trans (h N (Nat.le_refl N))⟩
theorem e36ok : EntryOk Tryd.prog 36 e36 := f36ok impl_MatrixOk.ok
end Go.Fw
namespace Go.Fw
variable {ρ : Type}
open Go.Proofs
noncomputable def f64sig : Sig := ⟨[⟨.sl 22 (.sl 3 (.int .i64)), false, false⟩], [⟨.str, false, false⟩]⟩
noncomputable def e64 : Entry := ⟨f64sig, (some fun X => impl_rowsText.P X.1), fun X => ((), ((impl_rowsText.g X.1), ()))⟩
noncomputable def f64G : Gm := addG (addG emptyG 34 e34) 50 e50
theorem f64GOk : GOk Tryd.prog f64G := ((GOk.nil).add e34ok (by kernel_rfl)).add e50ok (by kernel_rfl)
noncomputable def f64lE : Clean := ⟨[], [], [], [], []⟩
noncomputable def f64s0 (v0 : LL) : St := initSt f64sig.ps (v0, ())
noncomputable def f64s1 (v0 : LL) : St := stOf [(0, .c (.sn 22 (.sl 3 tI) v0 none))] [] []
noncomputable def f64l1 : Clean := ⟨[0], [], [], [], []⟩
noncomputable def f64s2 (v0 : LL) : St := stOf [(0, .c (.sn 22 (.sl 3 tI) v0 none)), (3, .c (.nil))] [] []
noncomputable def f64l2 : Clean := ⟨[0, 3], [], [], [], []⟩
noncomputable def f64s3 (v6 : LL) (v7 v8 : Int) : St := stOf [(3, .c (.nil)), (6, .c (.sn 22 (.sl 3 tI) v6 none)), (7, xi v7), (8, xi v8)] [] []
noncomputable def f64l3 : Clean := ⟨[3, 6, 7, 8], [], [], [], []⟩
noncomputable def f64s4 (v3 : List ByteArray) (v6 : LL) (v7 v8 : Int) : St := stOf [(3, xo 1000192), (6, .c (.sn 22 (.sl 3 tI) v6 none)), (7, xi v7), (8, xi v8)] [] [(1000192, (⟨9, .str, v3, true, false⟩ : Row))]
noncomputable def f64l4 : Clean := ⟨[3, 6, 7, 8], [], [⟨⟨false, 3, 0⟩, 30000000, 9, .str, true⟩], [], [(⟨false, 3, 0⟩, 1000192)]⟩
noncomputable def f64s5 (v3 : List ByteArray) : St := stOf [(3, xo 1000192)] [] [(1000192, (⟨9, .str, v3, true, false⟩ : Row))]
noncomputable def f64l5 : Clean := ⟨[3], [], [], [], [(⟨false, 3, 0⟩, 1000192)]⟩
noncomputable def f64s6 (v2 : ByteArray) : St := stOf [(2, .c (.str v2))] [] []
noncomputable def f64l6 : Clean := ⟨[2], [], [], [], []⟩
noncomputable def f64B : Nat → Option Clean := lookL [(0, f64l5), (1000000, f64l6)]
noncomputable abbrev f64i {ρ : Type} (N : Nat) (c : Code) (p : Plan) (σ : St) (K : KT ρ) : Option ρ := iCode f64G tab f64B N c p σ K
noncomputable def f64c (n : Nat) : Code := codeN 99 (bodyOf Tryd.f64) n
theorem f64t1 N v0 (K : KT ρ) : f64i N (f64c 2) .n (f64s0 v0) (joinK (some f64l1) K) =
  impl_rowsText.Z1 N v0 (fun v0 => K .nrm (f64s1 v0)) := by kernel_rfl
theorem f64t3 N v0 (K : KT ρ) : f64i N (f64c 5) .n (f64s1 v0) (joinK (some f64l2) K) =
  impl_rowsText.Z3 N v0 (fun v0 => K .nrm (f64s2 v0)) := by kernel_rfl
theorem f64t6 N v0 (K : KT ρ) : f64i N (f64c 19) .n (f64s2 v0) (joinK (some f64l3) K) =
  impl_rowsText.Z6 N v0 (fun v6 v7 v8 => K .nrm (f64s3 v6 v7 v8)) := by kernel_rfl
theorem f64t9 N v3 v6 v7 v8 (K : KT ρ) : f64i N (f64c 75) .n (f64s4 v3 v6 v7 v8) (joinK (some f64l4) K) =
  impl_rowsText.Z9 N v3 v6 v7 v8 (fun v3 v6 v7 v8 => K .nrm (f64s4 v3 v6 v7 v8)) (fun v3 => K (.exit 0) (f64s5 v3)) := by kernel_rfl
noncomputable def f64p8 : Plan := .mk none (some f64l4) .n .n
noncomputable abbrev f64w8 {ρ : Type} (N M : Nat) (σ : St) (K : KT ρ) : Option ρ := loopC (fun σ K => f64i N (f64c 75) .n σ K) f64l4 M σ K
theorem f64t8L {ρ : Type} (N : Nat) (K : KT ρ) : ∀ (M : Nat) (v3 : List ByteArray) (v6 : LL) (v7 v8 : Int), f64w8 N M (f64s4 v3 v6 v7 v8) K =
  impl_rowsText.Z8L N (fun v3 => K (.exit 0) (f64s5 v3)) M v3 v6 v7 v8
  | 0, _, _, _, _ => rfl
  | M + 1, v3, v6, v7, v8 => viaRoundS (fun k => impl_rowsText.Z9 N v3 v6 v7 v8 k (fun v3 => K (.exit 0) (f64s5 v3))) (f64t9 N (K := seqK (fun σ => f64w8 N M σ K) K) ..) (fx4 fun v3 v6 v7 v8 => f64t8L N K M v3 v6 v7 v8) (by kernel_rfl)
theorem f64t8 N v6 v7 v8 (K : KT ρ) : f64i N (f64c 43) f64p8 (f64s3 v6 v7 v8) (joinK (some f64l5) K) =
  impl_rowsText.Z8 N v6 v7 v8 (fun v3 => K (.exit 0) (f64s5 v3)) :=
 viaLoopS (by kernel_rfl) (f64t8L N (joinK (some f64l5) K) N ([] : List ByteArray) v6 v7 v8) (by kernel_rfl)
noncomputable def f64p7 : Plan := .mk (some f64l5) none f64p8 .n
theorem f64t7 N v6 v7 v8 (K : KT ρ) : f64i N (f64c 27) f64p7 (f64s3 v6 v7 v8) (joinK (some f64l5) K) =
  impl_rowsText.Z7 N v6 v7 v8 (fun v3 => K .nrm (f64s5 v3)) :=
 viaBlockS (by kernel_rfl) (f64t8 N (K := blockK 0 (joinK (some f64l5) K)) ..) (by kernel_rfl)
noncomputable def f64p5 : Plan := .mk (some f64l3) none .n f64p7
theorem f64t5 N v0 (K : KT ρ) : f64i N (f64c 11) f64p5 (f64s2 v0) (joinK (some f64l5) K) =
  impl_rowsText.Z5 N v0 (fun v3 => K .nrm (f64s5 v3)) :=
 viaSeqS (fun k => impl_rowsText.Z6 N v0 k) (by kernel_rfl) (f64t6 N (K := seqK (fun σ => f64i N (f64c 27) f64p7 σ (joinK (some f64l5) K)) (joinK (some f64l5) K)) ..) (fx3 fun v6 v7 v8 => f64t7 N v6 v7 v8 K) (by kernel_rfl)
theorem f64t10 N v3 (K : KT ρ) : f64i N (f64c 15) .n (f64s5 v3) (joinK (some f64lE) K) =
  impl_rowsText.Z10 N v3 (fun v2 => K .ret (f64s6 v2)) := by kernel_rfl
noncomputable def f64p4 : Plan := .mk (some f64l5) none f64p5 .n
theorem f64t4 N v0 (K : KT ρ) : f64i N (f64c 7) f64p4 (f64s2 v0) (joinK (some f64lE) K) =
  impl_rowsText.Z4 N v0 (fun v2 => K .ret (f64s6 v2)) :=
 viaSeqS (fun k => impl_rowsText.Z5 N v0 k) (by kernel_rfl) (f64t5 N (K := seqK (fun σ => f64i N (f64c 15) .n σ (joinK (some f64lE) K)) (joinK (some f64lE) K)) ..) (funext fun v3 => f64t10 N v3 K) (by kernel_rfl)
noncomputable def f64p2 : Plan := .mk (some f64l2) none .n f64p4
theorem f64t2 N v0 (K : KT ρ) : f64i N (f64c 3) f64p2 (f64s1 v0) (joinK (some f64lE) K) =
  impl_rowsText.Z2 N v0 (fun v2 => K .ret (f64s6 v2)) :=
 viaSeqS (fun k => impl_rowsText.Z3 N v0 k) (by kernel_rfl) (f64t3 N (K := seqK (fun σ => f64i N (f64c 7) f64p4 σ (joinK (some f64lE) K)) (joinK (some f64lE) K)) ..) (funext fun v0 => f64t4 N v0 K) (by kernel_rfl)
noncomputable def f64p0 : Plan := .mk (some f64l1) none .n f64p2
theorem f64t0 N v0 (K : KT ρ) : f64i N (f64c 1) f64p0 (f64s0 v0) (joinK (some f64lE) K) =
  impl_rowsText.Z0 N v0 (fun v2 => K .ret (f64s6 v2)) :=
 viaSeqS (fun k => impl_rowsText.Z1 N v0 k) (by kernel_rfl) (f64t1 N (K := seqK (fun σ => f64i N (f64c 3) f64p2 σ (joinK (some f64lE) K)) (joinK (some f64lE) K)) ..) (funext fun v0 => f64t2 N v0 K) (by kernel_rfl)
theorem f64m (N : Nat) (v0 : LL) : f64i N (f64c 1) f64p0 (f64s0 v0) (joinK (some f64lE) (finK tab f64sig Tryd.f64.results.toList)) = impl_rowsText.Z0 N v0 (fun v2 => some ((), (v2, ()))) :=
  (f64t0 N v0 (finK tab f64sig Tryd.f64.results.toList)).trans (by kernel_rfl)
theorem f64ok (h : impl_rowsText.Spec) : EntryOk Tryd.prog 64 e64 :=
  entry_of_code (sig := f64sig) (c := (f64c 1)) (pl := f64p0) (je := (some f64lE)) (B := f64B) Tryd.func64 (by kernel_rfl) (by kernel_rfl) (by kernel_rfl) tabOk f64GOk (by kernel_rfl) (by kernel_rfl) (by kernel_rfl) (by kernel_rfl) fun X hb hp => by
    obtain ⟨v0, _⟩ := X
    obtain ⟨N, h⟩ := h v0 hb.1 hp
    exact ⟨N, (f64m N v0).trans (h N (Nat.le_refl N))⟩
theorem e64ok : EntryOk Tryd.prog 64 e64 := f64ok impl_rowsText.ok
end Go.Fw
namespace Go.Fw
variable {ρ : Type}
open Go.Proofs
noncomputable def f37sig : Sig := ⟨[⟨.pair (.int .i64) (.pair (.int .i64) (.sl 3 (.int .i64))), true, false⟩], [⟨.str, false, false⟩]⟩
noncomputable def e37 : Entry := ⟨f37sig, none, fun X => ((), ((impl_FormatMatrix.g X.1), ()))⟩
noncomputable def f37G : Gm := addG (addG emptyG 36 e36) 64 e64
theorem f37GOk : GOk Tryd.prog f37G := ((GOk.nil).add e36ok (by kernel_rfl)).add e64ok (by kernel_rfl)
noncomputable def f37lE : Clean := ⟨[], [], [], [], []⟩
noncomputable def f37s0 (v0 : MT) : St := initSt f37sig.ps (v0, ())
noncomputable def f37s1 (v1_0 v1_1 : Int) (v1_2 : LI) : St := stOf [(1, xb 1)] [(1, (29, [yi v1_0, yi v1_1, .sn 3 tI v1_2 none]))] []
noncomputable def f37l1 : Clean := ⟨[1], [1], [], [], []⟩
noncomputable def f37s2 (v1_0 v1_1 : Int) (v1_2 : LI) : St := stOf [(1, xb 1), (3, .c (.nil))] [(1, (29, [yi v1_0, yi v1_1, .sn 3 tI v1_2 none]))] []
noncomputable def f37l2 : Clean := ⟨[1, 3], [1], [], [], []⟩
noncomputable def f37s3 (v4 v1_0 v1_1 : Int) (v1_2 : LI) : St := stOf [(1, xb 1), (3, .c (.nil)), (4, xi v4)] [(1, (29, [yi v1_0, yi v1_1, .sn 3 tI v1_2 none]))] []
noncomputable def f37l3 : Clean := ⟨[1, 3, 4], [1], [], [], []⟩
noncomputable def f37s4 (v3 : LL) (v4 v1_0 v1_1 : Int) (v1_2 : LI) : St := stOf [(1, xb 1), (3, xo 1000192), (4, xi v4)] [(1, (29, [yi v1_0, yi v1_1, .sn 3 tI v1_2 none]))] [(1000192, (⟨22, .sl 3 tI, v3, false, false⟩ : Row))]
noncomputable def f37l4 : Clean := ⟨[1, 3, 4], [1], [⟨⟨false, 3, 0⟩, 30000000, 22, .sl 3 (.int .i64), false⟩], [], [(⟨false, 3, 0⟩, 1000192)]⟩
noncomputable def f37s5 (v3 : LL) : St := stOf [(3, xo 1000192)] [] [(1000192, (⟨22, .sl 3 tI, v3, false, false⟩ : Row))]
noncomputable def f37l5 : Clean := ⟨[3], [], [], [], [(⟨false, 3, 0⟩, 1000192)]⟩
noncomputable def f37s6 (v2 : ByteArray) : St := stOf [(2, .c (.str v2))] [] []
noncomputable def f37l6 : Clean := ⟨[2], [], [], [], []⟩
noncomputable def f37B : Nat → Option Clean := lookL [(0, f37l5), (1000000, f37l6)]
noncomputable abbrev f37i {ρ : Type} (N : Nat) (c : Code) (p : Plan) (σ : St) (K : KT ρ) : Option ρ := iCode f37G tab f37B N c p σ K
noncomputable def f37c (n : Nat) : Code := codeN 99 (bodyOf Tryd.f37) n
theorem f37t1 N v0 (K : KT ρ) : f37i N (f37c 2) .n (f37s0 v0) (joinK (some f37l1) K) =
  impl_FormatMatrix.Z1 N v0 (fun v1_0 v1_1 v1_2 => K .nrm (f37s1 v1_0 v1_1 v1_2)) := by kernel_rfl
theorem f37t3 N v1_0 v1_1 v1_2 (K : KT ρ) : f37i N (f37c 5) .n (f37s1 v1_0 v1_1 v1_2) (joinK (some f37l1) K) =
  impl_FormatMatrix.Z3 N v1_0 v1_1 v1_2 (fun v1_0 v1_1 v1_2 => K .nrm (f37s1 v1_0 v1_1 v1_2)) (fun v2 => K .ret (f37s6 v2)) := by kernel_rfl
theorem f37t5 N v1_0 v1_1 v1_2 (K : KT ρ) : f37i N (f37c 11) .n (f37s1 v1_0 v1_1 v1_2) (joinK (some f37l2) K) =
  impl_FormatMatrix.Z5 N v1_0 v1_1 v1_2 (fun v1_0 v1_1 v1_2 => K .nrm (f37s2 v1_0 v1_1 v1_2)) := by kernel_rfl
theorem f37t8 N v1_0 v1_1 v1_2 (K : KT ρ) : f37i N (f37c 39) .n (f37s2 v1_0 v1_1 v1_2) (joinK (some f37l3) K) =
  impl_FormatMatrix.Z8 N v1_0 v1_1 v1_2 (fun v4 v1_0 v1_1 v1_2 => K .nrm (f37s3 v4 v1_0 v1_1 v1_2)) := by kernel_rfl
theorem f37t11 N v3 v4 v1_0 v1_1 v1_2 (K : KT ρ) : f37i N (f37c 151) .n (f37s4 v3 v4 v1_0 v1_1 v1_2) (joinK (some f37l4) K) =
  impl_FormatMatrix.Z11 N v3 v4 v1_0 v1_1 v1_2 (fun v3 v4 v1_0 v1_1 v1_2 => K .nrm (f37s4 v3 v4 v1_0 v1_1 v1_2)) (fun v3 => K (.exit 0) (f37s5 v3)) := by kernel_rfl
noncomputable def f37p10 : Plan := .mk none (some f37l4) .n .n
noncomputable abbrev f37w10 {ρ : Type} (N M : Nat) (σ : St) (K : KT ρ) : Option ρ := loopC (fun σ K => f37i N (f37c 151) .n σ K) f37l4 M σ K
theorem f37t10L {ρ : Type} (N : Nat) (K : KT ρ) : ∀ (M : Nat) (v3 : LL) (v4 v1_0 v1_1 : Int) (v1_2 : LI), f37w10 N M (f37s4 v3 v4 v1_0 v1_1 v1_2) K =
  impl_FormatMatrix.Z10L N (fun v3 => K (.exit 0) (f37s5 v3)) M v3 v4 v1_0 v1_1 v1_2
  | 0, _, _, _, _, _ => rfl
  | M + 1, v3, v4, v1_0, v1_1, v1_2 => viaRoundS (fun k => impl_FormatMatrix.Z11 N v3 v4 v1_0 v1_1 v1_2 k (fun v3 => K (.exit 0) (f37s5 v3))) (f37t11 N (K := seqK (fun σ => f37w10 N M σ K) K) ..) (fx5 fun v3 v4 v1_0 v1_1 v1_2 => f37t10L N K M v3 v4 v1_0 v1_1 v1_2) (by kernel_rfl)
theorem f37t10 N v4 v1_0 v1_1 v1_2 (K : KT ρ) : f37i N (f37c 87) f37p10 (f37s3 v4 v1_0 v1_1 v1_2) (joinK (some f37l5) K) =
  impl_FormatMatrix.Z10 N v4 v1_0 v1_1 v1_2 (fun v3 => K (.exit 0) (f37s5 v3)) :=
 viaLoopS (by kernel_rfl) (f37t10L N (joinK (some f37l5) K) N ([] : List (LI)) v4 v1_0 v1_1 v1_2) (by kernel_rfl)
noncomputable def f37p9 : Plan := .mk (some f37l5) none f37p10 .n
theorem f37t9 N v4 v1_0 v1_1 v1_2 (K : KT ρ) : f37i N (f37c 55) f37p9 (f37s3 v4 v1_0 v1_1 v1_2) (joinK (some f37l5) K) =
  impl_FormatMatrix.Z9 N v4 v1_0 v1_1 v1_2 (fun v3 => K .nrm (f37s5 v3)) :=
 viaBlockS (by kernel_rfl) (f37t10 N (K := blockK 0 (joinK (some f37l5) K)) ..) (by kernel_rfl)
noncomputable def f37p7 : Plan := .mk (some f37l3) none .n f37p9
theorem f37t7 N v1_0 v1_1 v1_2 (K : KT ρ) : f37i N (f37c 23) f37p7 (f37s2 v1_0 v1_1 v1_2) (joinK (some f37l5) K) =
  impl_FormatMatrix.Z7 N v1_0 v1_1 v1_2 (fun v3 => K .nrm (f37s5 v3)) :=
 viaSeqS (fun k => impl_FormatMatrix.Z8 N v1_0 v1_1 v1_2 k) (by kernel_rfl) (f37t8 N (K := seqK (fun σ => f37i N (f37c 55) f37p9 σ (joinK (some f37l5) K)) (joinK (some f37l5) K)) ..) (fx4 fun v4 v1_0 v1_1 v1_2 => f37t9 N v4 v1_0 v1_1 v1_2 K) (by kernel_rfl)
theorem f37t12 N v3 (K : KT ρ) : f37i N (f37c 31) .n (f37s5 v3) (joinK (some f37lE) K) =
  impl_FormatMatrix.Z12 N v3 (fun v2 => K .ret (f37s6 v2)) := by kernel_rfl
noncomputable def f37p6 : Plan := .mk (some f37l5) none f37p7 .n
theorem f37t6 N v1_0 v1_1 v1_2 (K : KT ρ) : f37i N (f37c 15) f37p6 (f37s2 v1_0 v1_1 v1_2) (joinK (some f37lE) K) =
  impl_FormatMatrix.Z6 N v1_0 v1_1 v1_2 (fun v2 => K .ret (f37s6 v2)) :=
 viaSeqS (fun k => impl_FormatMatrix.Z7 N v1_0 v1_1 v1_2 k) (by kernel_rfl) (f37t7 N (K := seqK (fun σ => f37i N (f37c 31) .n σ (joinK (some f37lE) K)) (joinK (some f37lE) K)) ..) (funext fun v3 => f37t12 N v3 K) (by kernel_rfl)
noncomputable def f37p4 : Plan := .mk (some f37l2) none .n f37p6
theorem f37t4 N v1_0 v1_1 v1_2 (K : KT ρ) : f37i N (f37c 7) f37p4 (f37s1 v1_0 v1_1 v1_2) (joinK (some f37lE) K) =
  impl_FormatMatrix.Z4 N v1_0 v1_1 v1_2 (fun v2 => K .ret (f37s6 v2)) :=
 viaSeqS (fun k => impl_FormatMatrix.Z5 N v1_0 v1_1 v1_2 k) (by kernel_rfl) (f37t5 N (K := seqK (fun σ => f37i N (f37c 15) f37p6 σ (joinK (some f37lE) K)) (joinK (some f37lE) K)) ..) (fx3 fun v1_0 v1_1 v1_2 => f37t6 N v1_0 v1_1 v1_2 K) (by kernel_rfl)
noncomputable def f37p2 : Plan := .mk (some f37l1) none .n f37p4
theorem f37t2 N v1_0 v1_1 v1_2 (K : KT ρ) : f37i N (f37c 3) f37p2 (f37s1 v1_0 v1_1 v1_2) (joinK (some f37lE) K) =
  impl_FormatMatrix.Z2 N v1_0 v1_1 v1_2 (fun v2 => K .ret (f37s6 v2)) :=
 viaSeqS (fun k => impl_FormatMatrix.Z3 N v1_0 v1_1 v1_2 k (fun v2 => K .ret (f37s6 v2))) (by kernel_rfl) (f37t3 N (K := seqK (fun σ => f37i N (f37c 7) f37p4 σ (joinK (some f37lE) K)) (joinK (some f37lE) K)) ..) (fx3 fun v1_0 v1_1 v1_2 => f37t4 N v1_0 v1_1 v1_2 K) (by kernel_rfl)
noncomputable def f37p0 : Plan := .mk (some f37l1) none .n f37p2
theorem f37t0 N v0 (K : KT ρ) : f37i N (f37c 1) f37p0 (f37s0 v0) (joinK (some f37lE) K) =
  impl_FormatMatrix.Z0 N v0 (fun v2 => K .ret (f37s6 v2)) :=
 viaSeqS (fun k => impl_FormatMatrix.Z1 N v0 k) (by kernel_rfl) (f37t1 N (K := seqK (fun σ => f37i N (f37c 3) f37p2 σ (joinK (some f37lE) K)) (joinK (some f37lE) K)) ..) (fx3 fun v1_0 v1_1 v1_2 => f37t2 N v1_0 v1_1 v1_2 K) (by kernel_rfl)
theorem f37m (N : Nat) (v0 : MT) : f37i N (f37c 1) f37p0 (f37s0 v0) (joinK (some f37lE) (finK tab f37sig Tryd.f37.results.toList)) = impl_FormatMatrix.Z0 N v0 (fun v2 => some ((), (v2, ()))) :=
  (f37t0 N v0 (finK tab f37sig Tryd.f37.results.toList)).trans (by kernel_rfl)
theorem f37ok (h : impl_FormatMatrix.Spec) : EntryOk Tryd.prog 37 e37 :=
  entry_of_code (sig := f37sig) (c := (f37c 1)) (pl := f37p0) (je := (some f37lE)) (B := f37B) Tryd.func37 (by kernel_rfl) (by kernel_rfl) (by kernel_rfl) tabOk f37GOk (by kernel_rfl) (by kernel_rfl) (by kernel_rfl) (by kernel_rfl) fun X hb hp => by
    obtain ⟨v0, _⟩ := X
    obtain ⟨N, h⟩ := h v0 hb.1
    exact ⟨N, (f37m N v0).trans (h N (Nat.le_refl N))⟩
theorem e37ok : EntryOk Tryd.prog 37 e37 := f37ok impl_FormatMatrix.ok
end Go.Fw
namespace Go.Fw
variable {ρ : Type}
open Go.Proofs
noncomputable def f13sig : Sig := ⟨[⟨.str, false, false⟩], [⟨.pair (.int .i64) (.pair (.int .i64) (.sl 3 (.int .i64))), true, false⟩, ⟨.bool, false, false⟩]⟩
noncomputable def e13 : Entry := ⟨f13sig, (some fun X => impl_ParseMatrix.P X.1), fun X => ((), ((impl_ParseMatrix.g X.1).1, ((impl_ParseMatrix.g X.1).2, ())))⟩
noncomputable def f13G : Gm := addG (addG (addG (addG emptyG 8 e8) 31 e31) 36 e36) 37 e37
theorem f13GOk : GOk Tryd.prog f13G := ((((GOk.nil).add e8ok (by kernel_rfl)).add e31ok (by kernel_rfl)).add e36ok (by kernel_rfl)).add e37ok (by kernel_rfl)
noncomputable def f13lE : Clean := ⟨[], [], [], [], []⟩
noncomputable def f13s0 (v0 : ByteArray) : St := initSt f13sig.ps (v0, ())
noncomputable def f13s1 (v0 : ByteArray) (v2_0 v2_1 : Int) : St := stOf [(0, .c (.str v0)), (2, xb 2)] [(2, (29, [yi v2_0, yi v2_1, .nil]))] []
noncomputable def f13l1 : Clean := ⟨[0, 2], [2], [], [], []⟩
noncomputable def f13s2 (v0 : ByteArray) (v2_0 v2_1 v4_0 v4_1 : Int) : St := stOf [(0, .c (.str v0)), (2, xb 2), (4, xb 4)] [(2, (29, [yi v2_0, yi v2_1, .nil])), (4, (29, [yi v4_0, yi v4_1, .nil]))] []
noncomputable def f13l2 : Clean := ⟨[0, 2, 4], [2, 4], [], [], []⟩
noncomputable def f13s3 (v11 : List ByteArray) (v0 : ByteArray) (v12 v13 v2_0 v2_1 v4_0 v4_1 : Int) : St := stOf [(0, .c (.str v0)), (2, xb 2), (4, xb 4), (11, xo 1000704), (12, xi v12), (13, xi v13)] [(2, (29, [yi v2_0, yi v2_1, .nil])), (4, (29, [yi v4_0, yi v4_1, .nil]))] [(1000704, (⟨9, .str, v11, true, false⟩ : Row))]
noncomputable def f13l3 : Clean := ⟨[0, 2, 4, 11, 12, 13], [2, 4], [], [], [(⟨false, 11, 0⟩, 1000704)]⟩
noncomputable def f13s4 (v11 : List ByteArray) (v4_2 : LI) (v0 : ByteArray) (v12 v13 v2_0 v2_1 v4_0 v4_1 : Int) : St := stOf [(0, .c (.str v0)), (2, xb 2), (4, xb 4), (11, xo 1000704), (12, xi v12), (13, xi v13)] [(2, (29, [yi v2_0, yi v2_1, .nil])), (4, (29, [yi v4_0, yi v4_1, .own 20000258]))] [(1000704, (⟨9, .str, v11, true, false⟩ : Row)), (20000258, (⟨3, .int .i64, v4_2, true, false⟩ : Row))]
noncomputable def f13l4 : Clean := ⟨[0, 2, 4, 11, 12, 13], [2, 4], [⟨⟨true, 4, 2⟩, 30000000, 3, .int .i64, true⟩], [], [(⟨false, 11, 0⟩, 1000704), (⟨true, 4, 2⟩, 20000258)]⟩
noncomputable def f13s5 (v4_2 : LI) (v0 : ByteArray) (v2_0 v2_1 v4_0 v4_1 : Int) : St := stOf [(0, .c (.str v0)), (2, xb 2), (4, xb 4)] [(2, (29, [yi v2_0, yi v2_1, .nil])), (4, (29, [yi v4_0, yi v4_1, .own 20000258]))] [(20000258, (⟨3, .int .i64, v4_2, true, false⟩ : Row))]
noncomputable def f13l5 : Clean := ⟨[0, 2, 4], [2, 4], [], [], [(⟨true, 4, 2⟩, 20000258)]⟩
noncomputable def f13s6 (v2_2 : LI) (v3 : Bool) (v2_0 v2_1 : Int) : St := stOf [(2, xb 2), (3, xB v3)] [(2, (29, [yi v2_0, yi v2_1, .own 20000130]))] [(20000130, (⟨3, .int .i64, v2_2, true, false⟩ : Row))]
noncomputable def f13l6 : Clean := ⟨[2, 3], [2], [⟨⟨true, 2, 2⟩, 30000000, 3, .int .i64, true⟩], [], [(⟨true, 2, 2⟩, 20000130)]⟩
noncomputable def f13B : Nat → Option Clean := lookL [(0, f13l5), (1000000, f13l6)]
noncomputable abbrev f13i {ρ : Type} (N : Nat) (c : Code) (p : Plan) (σ : St) (K : KT ρ) : Option ρ := iCode f13G tab f13B N c p σ K
noncomputable def f13c (n : Nat) : Code := codeN 99 (bodyOf Tryd.f13) n
theorem f13t1 N v0 (K : KT ρ) : f13i N (f13c 2) .n (f13s0 v0) (joinK (some f13l1) K) =
  impl_ParseMatrix.Z1 N v0 (fun v0 v2_0 v2_1 => K .nrm (f13s1 v0 v2_0 v2_1)) := by kernel_rfl
theorem f13t3 N v0 v2_0 v2_1 (K : KT ρ) : f13i N (f13c 5) .n (f13s1 v0 v2_0 v2_1) (joinK (some f13l2) K) =
  impl_ParseMatrix.Z3 N v0 v2_0 v2_1 (fun v0 v2_0 v2_1 v4_0 v4_1 => K .nrm (f13s2 v0 v2_0 v2_1 v4_0 v4_1)) := by kernel_rfl
theorem f13t6 N v0 v2_0 v2_1 v4_0 v4_1 (K : KT ρ) : f13i N (f13c 19) .n (f13s2 v0 v2_0 v2_1 v4_0 v4_1) (joinK (some f13l3) K) =
  impl_ParseMatrix.Z6 N v0 v2_0 v2_1 v4_0 v4_1 (fun v11 v0 v12 v13 v2_0 v2_1 v4_0 v4_1 => K .nrm (f13s3 v11 v0 v12 v13 v2_0 v2_1 v4_0 v4_1)) := by kernel_rfl
theorem f13t9 N v11 v4_2 v0 v12 v13 v2_0 v2_1 v4_0 v4_1 (K : KT ρ) : f13i N (f13c 75) .n (f13s4 v11 v4_2 v0 v12 v13 v2_0 v2_1 v4_0 v4_1) (joinK (some f13l4) K) =
  impl_ParseMatrix.Z9 N v11 v4_2 v0 v12 v13 v2_0 v2_1 v4_0 v4_1 (fun v11 v4_2 v0 v12 v13 v2_0 v2_1 v4_0 v4_1 => K .nrm (f13s4 v11 v4_2 v0 v12 v13 v2_0 v2_1 v4_0 v4_1)) (fun v4_2 v0 v2_0 v2_1 v4_0 v4_1 => K (.exit 0) (f13s5 v4_2 v0 v2_0 v2_1 v4_0 v4_1)) (fun v2_2 v3 v2_0 v2_1 => K .ret (f13s6 v2_2 v3 v2_0 v2_1)) := by kernel_rfl
noncomputable def f13p8 : Plan := .mk none (some f13l4) .n .n
noncomputable abbrev f13w8 {ρ : Type} (N M : Nat) (σ : St) (K : KT ρ) : Option ρ := loopC (fun σ K => f13i N (f13c 75) .n σ K) f13l4 M σ K
theorem f13t8L {ρ : Type} (N : Nat) (K : KT ρ) : ∀ (M : Nat) (v11 : List ByteArray) (v4_2 : LI) (v0 : ByteArray) (v12 v13 v2_0 v2_1 v4_0 v4_1 : Int), f13w8 N M (f13s4 v11 v4_2 v0 v12 v13 v2_0 v2_1 v4_0 v4_1) K =
  impl_ParseMatrix.Z8L N (fun v4_2 v0 v2_0 v2_1 v4_0 v4_1 => K (.exit 0) (f13s5 v4_2 v0 v2_0 v2_1 v4_0 v4_1)) (fun v2_2 v3 v2_0 v2_1 => K .ret (f13s6 v2_2 v3 v2_0 v2_1)) M v11 v4_2 v0 v12 v13 v2_0 v2_1 v4_0 v4_1
  | 0, _, _, _, _, _, _, _, _, _ => rfl
  | M + 1, v11, v4_2, v0, v12, v13, v2_0, v2_1, v4_0, v4_1 => viaRoundS (fun k => impl_ParseMatrix.Z9 N v11 v4_2 v0 v12 v13 v2_0 v2_1 v4_0 v4_1 k (fun v4_2 v0 v2_0 v2_1 v4_0 v4_1 => K (.exit 0) (f13s5 v4_2 v0 v2_0 v2_1 v4_0 v4_1)) (fun v2_2 v3 v2_0 v2_1 => K .ret (f13s6 v2_2 v3 v2_0 v2_1))) (f13t9 N (K := seqK (fun σ => f13w8 N M σ K) K) ..) (fx9 fun v11 v4_2 v0 v12 v13 v2_0 v2_1 v4_0 v4_1 => f13t8L N K M v11 v4_2 v0 v12 v13 v2_0 v2_1 v4_0 v4_1) (by kernel_rfl)
theorem f13t8 N v11 v0 v12 v13 v2_0 v2_1 v4_0 v4_1 (K : KT ρ) : f13i N (f13c 43) f13p8 (f13s3 v11 v0 v12 v13 v2_0 v2_1 v4_0 v4_1) (joinK (some f13l5) K) =
  impl_ParseMatrix.Z8 N v11 v0 v12 v13 v2_0 v2_1 v4_0 v4_1 (fun v4_2 v0 v2_0 v2_1 v4_0 v4_1 => K (.exit 0) (f13s5 v4_2 v0 v2_0 v2_1 v4_0 v4_1)) (fun v2_2 v3 v2_0 v2_1 => K .ret (f13s6 v2_2 v3 v2_0 v2_1)) :=
 viaLoopS (by kernel_rfl) (f13t8L N (joinK (some f13l5) K) N v11 ([] : List Int) v0 v12 v13 v2_0 v2_1 v4_0 v4_1) (by kernel_rfl)
noncomputable def f13p7 : Plan := .mk (some f13l5) none f13p8 .n
theorem f13t7 N v11 v0 v12 v13 v2_0 v2_1 v4_0 v4_1 (K : KT ρ) : f13i N (f13c 27) f13p7 (f13s3 v11 v0 v12 v13 v2_0 v2_1 v4_0 v4_1) (joinK (some f13l5) K) =
  impl_ParseMatrix.Z7 N v11 v0 v12 v13 v2_0 v2_1 v4_0 v4_1 (fun v4_2 v0 v2_0 v2_1 v4_0 v4_1 => K .nrm (f13s5 v4_2 v0 v2_0 v2_1 v4_0 v4_1)) (fun v2_2 v3 v2_0 v2_1 => K .ret (f13s6 v2_2 v3 v2_0 v2_1)) :=
 viaBlockS (by kernel_rfl) (f13t8 N (K := blockK 0 (joinK (some f13l5) K)) ..) (by kernel_rfl)
noncomputable def f13p5 : Plan := .mk (some f13l3) none .n f13p7
theorem f13t5 N v0 v2_0 v2_1 v4_0 v4_1 (K : KT ρ) : f13i N (f13c 11) f13p5 (f13s2 v0 v2_0 v2_1 v4_0 v4_1) (joinK (some f13l5) K) =
  impl_ParseMatrix.Z5 N v0 v2_0 v2_1 v4_0 v4_1 (fun v4_2 v0 v2_0 v2_1 v4_0 v4_1 => K .nrm (f13s5 v4_2 v0 v2_0 v2_1 v4_0 v4_1)) (fun v2_2 v3 v2_0 v2_1 => K .ret (f13s6 v2_2 v3 v2_0 v2_1)) :=
 viaSeqS (fun k => impl_ParseMatrix.Z6 N v0 v2_0 v2_1 v4_0 v4_1 k) (by kernel_rfl) (f13t6 N (K := seqK (fun σ => f13i N (f13c 27) f13p7 σ (joinK (some f13l5) K)) (joinK (some f13l5) K)) ..) (fx8 fun v11 v0 v12 v13 v2_0 v2_1 v4_0 v4_1 => f13t7 N v11 v0 v12 v13 v2_0 v2_1 v4_0 v4_1 K) (by kernel_rfl)
theorem f13t10 N v4_2 v0 v2_0 v2_1 v4_0 v4_1 (K : KT ρ) : f13i N (f13c 15) .n (f13s5 v4_2 v0 v2_0 v2_1 v4_0 v4_1) (joinK (some f13lE) K) =
  impl_ParseMatrix.Z10 N v4_2 v0 v2_0 v2_1 v4_0 v4_1 (fun v2_2 v3 v2_0 v2_1 => K .ret (f13s6 v2_2 v3 v2_0 v2_1)) := by kernel_rfl
noncomputable def f13p4 : Plan := .mk (some f13l5) none f13p5 .n
theorem f13t4 N v0 v2_0 v2_1 v4_0 v4_1 (K : KT ρ) : f13i N (f13c 7) f13p4 (f13s2 v0 v2_0 v2_1 v4_0 v4_1) (joinK (some f13lE) K) =
  impl_ParseMatrix.Z4 N v0 v2_0 v2_1 v4_0 v4_1 (fun v2_2 v3 v2_0 v2_1 => K .ret (f13s6 v2_2 v3 v2_0 v2_1)) :=
 viaSeqS (fun k => impl_ParseMatrix.Z5 N v0 v2_0 v2_1 v4_0 v4_1 k (fun v2_2 v3 v2_0 v2_1 => K .ret (f13s6 v2_2 v3 v2_0 v2_1))) (by kernel_rfl) (f13t5 N (K := seqK (fun σ => f13i N (f13c 15) .n σ (joinK (some f13lE) K)) (joinK (some f13lE) K)) ..) (fx6 fun v4_2 v0 v2_0 v2_1 v4_0 v4_1 => f13t10 N v4_2 v0 v2_0 v2_1 v4_0 v4_1 K) (by kernel_rfl)
noncomputable def f13p2 : Plan := .mk (some f13l2) none .n f13p4
theorem f13t2 N v0 v2_0 v2_1 (K : KT ρ) : f13i N (f13c 3) f13p2 (f13s1 v0 v2_0 v2_1) (joinK (some f13lE) K) =
  impl_ParseMatrix.Z2 N v0 v2_0 v2_1 (fun v2_2 v3 v2_0 v2_1 => K .ret (f13s6 v2_2 v3 v2_0 v2_1)) :=
 viaSeqS (fun k => impl_ParseMatrix.Z3 N v0 v2_0 v2_1 k) (by kernel_rfl) (f13t3 N (K := seqK (fun σ => f13i N (f13c 7) f13p4 σ (joinK (some f13lE) K)) (joinK (some f13lE) K)) ..) (fx5 fun v0 v2_0 v2_1 v4_0 v4_1 => f13t4 N v0 v2_0 v2_1 v4_0 v4_1 K) (by kernel_rfl)
noncomputable def f13p0 : Plan := .mk (some f13l1) none .n f13p2
theorem f13t0 N v0 (K : KT ρ) : f13i N (f13c 1) f13p0 (f13s0 v0) (joinK (some f13lE) K) =
  impl_ParseMatrix.Z0 N v0 (fun v2_2 v3 v2_0 v2_1 => K .ret (f13s6 v2_2 v3 v2_0 v2_1)) :=
 viaSeqS (fun k => impl_ParseMatrix.Z1 N v0 k) (by kernel_rfl) (f13t1 N (K := seqK (fun σ => f13i N (f13c 3) f13p2 σ (joinK (some f13lE) K)) (joinK (some f13lE) K)) ..) (fx3 fun v0 v2_0 v2_1 => f13t2 N v0 v2_0 v2_1 K) (by kernel_rfl)
theorem f13m (N : Nat) (v0 : ByteArray) : f13i N (f13c 1) f13p0 (f13s0 v0) (joinK (some f13lE) (finK tab f13sig Tryd.f13.results.toList)) = impl_ParseMatrix.Z0 N v0 (fun v2_2 v3 v2_0 v2_1 => some ((), ((v2_0, (v2_1, v2_2)), (v3, ())))) :=
  (f13t0 N v0 (finK tab f13sig Tryd.f13.results.toList)).trans (by kernel_rfl)
theorem f13ok (h : impl_ParseMatrix.Spec) : EntryOk Tryd.prog 13 e13 :=
  entry_of_code (sig := f13sig) (c := (f13c 1)) (pl := f13p0) (je := (some f13lE)) (B := f13B) Tryd.func13 (by kernel_rfl) (by kernel_rfl) (by kernel_rfl) tabOk f13GOk (by kernel_rfl) (by kernel_rfl) (by kernel_rfl) (by kernel_rfl) fun X hb hp => by
    obtain ⟨v0, _⟩ := X
    obtain ⟨N, h⟩ := h v0 hp
    exact ⟨N, (f13m N v0).trans (h N (Nat.le_refl N))⟩
theorem e13ok : EntryOk Tryd.prog 13 e13 := f13ok impl_ParseMatrix.ok
end Go.Fw
namespace Go.Fw
variable {ρ : Type}
open Go.Proofs
noncomputable def f9sig : Sig := ⟨[⟨.sl 3 (.int .i64), false, false⟩, ⟨.sl 3 (.int .i64), false, false⟩], [⟨.bool, false, false⟩]⟩
noncomputable def e9 : Entry := ⟨f9sig, none, fun X => ((), ((laws_eqIntS.g X.1 X.2.1), ()))⟩
noncomputable def f9G : Gm := emptyG
theorem f9GOk : GOk Tryd.prog f9G := GOk.nil
noncomputable def f9lE : Clean := ⟨[], [], [], [], []⟩
noncomputable def f9s0 (v0 v1 : LI) : St := initSt f9sig.ps (v0, (v1, ()))
noncomputable def f9s1 (v0 v1 : LI) : St := stOf [(0, .c (.sn 3 tI v0 none)), (1, .c (.sn 3 tI v1 none))] [] []
noncomputable def f9l1 : Clean := ⟨[0, 1], [], [], [], []⟩
noncomputable def f9s2 (v0 v1 : LI) (v5 : Int) : St := stOf [(0, .c (.sn 3 tI v0 none)), (1, .c (.sn 3 tI v1 none)), (5, xi v5)] [] []
noncomputable def f9l2 : Clean := ⟨[0, 1, 5], [], [], [], []⟩
noncomputable def f9s3  : St := stOf [] [] []
noncomputable def f9l3 : Clean := ⟨[], [], [], [], []⟩
noncomputable def f9s4 (v4 : Bool) : St := stOf [(4, xB v4)] [] []
noncomputable def f9l4 : Clean := ⟨[4], [], [], [], []⟩
noncomputable def f9B : Nat → Option Clean := lookL [(0, f9l3), (1000000, f9l4)]
noncomputable abbrev f9i {ρ : Type} (N : Nat) (c : Code) (p : Plan) (σ : St) (K : KT ρ) : Option ρ := iCode f9G tab f9B N c p σ K
noncomputable def f9c (n : Nat) : Code := codeN 99 (bodyOf Tryd.f9) n
theorem f9t1 N v0 v1 (K : KT ρ) : f9i N (f9c 2) .n (f9s0 v0 v1) (joinK (some f9l1) K) =
  laws_eqIntS.Z1 N v0 v1 (fun v0 v1 => K .nrm (f9s1 v0 v1)) := by kernel_rfl
theorem f9t3 N v0 v1 (K : KT ρ) : f9i N (f9c 5) .n (f9s1 v0 v1) (joinK (some f9l1) K) =
  laws_eqIntS.Z3 N v0 v1 (fun v0 v1 => K .nrm (f9s1 v0 v1)) (fun v4 => K .ret (f9s4 v4)) := by kernel_rfl
theorem f9t6 N v0 v1 (K : KT ρ) : f9i N (f9c 19) .n (f9s1 v0 v1) (joinK (some f9l2) K) =
  laws_eqIntS.Z6 N v0 v1 (fun v0 v1 v5 => K .nrm (f9s2 v0 v1 v5)) := by kernel_rfl
theorem f9t9 N v0 v1 v5 (K : KT ρ) : f9i N (f9c 75) .n (f9s2 v0 v1 v5) (joinK (some f9l2) K) =
  laws_eqIntS.Z9 N v0 v1 v5 (fun v0 v1 v5 => K .nrm (f9s2 v0 v1 v5)) (K (.exit 0) f9s3) (fun v4 => K .ret (f9s4 v4)) := by kernel_rfl
noncomputable def f9p8 : Plan := .mk none (some f9l2) .n .n
noncomputable abbrev f9w8 {ρ : Type} (N M : Nat) (σ : St) (K : KT ρ) : Option ρ := loopC (fun σ K => f9i N (f9c 75) .n σ K) f9l2 M σ K
theorem f9t8L {ρ : Type} (N : Nat) (K : KT ρ) : ∀ (M : Nat) (v0 v1 : LI) (v5 : Int), f9w8 N M (f9s2 v0 v1 v5) K =
  laws_eqIntS.Z8L N (K (.exit 0) f9s3) (fun v4 => K .ret (f9s4 v4)) M v0 v1 v5
  | 0, _, _, _ => rfl
  | M + 1, v0, v1, v5 => viaRoundS (fun k => laws_eqIntS.Z9 N v0 v1 v5 k (K (.exit 0) f9s3) (fun v4 => K .ret (f9s4 v4))) (f9t9 N (K := seqK (fun σ => f9w8 N M σ K) K) ..) (fx3 fun v0 v1 v5 => f9t8L N K M v0 v1 v5) (by kernel_rfl)
theorem f9t8 N v0 v1 v5 (K : KT ρ) : f9i N (f9c 43) f9p8 (f9s2 v0 v1 v5) (joinK (some f9l3) K) =
  laws_eqIntS.Z8 N v0 v1 v5 (K (.exit 0) f9s3) (fun v4 => K .ret (f9s4 v4)) :=
 viaLoopS (by kernel_rfl) (f9t8L N (joinK (some f9l3) K) N v0 v1 v5) (by kernel_rfl)
noncomputable def f9p7 : Plan := .mk (some f9l3) none f9p8 .n
theorem f9t7 N v0 v1 v5 (K : KT ρ) : f9i N (f9c 27) f9p7 (f9s2 v0 v1 v5) (joinK (some f9l3) K) =
  laws_eqIntS.Z7 N v0 v1 v5 (K .nrm f9s3) (fun v4 => K .ret (f9s4 v4)) :=
 viaBlockS (by kernel_rfl) (f9t8 N (K := blockK 0 (joinK (some f9l3) K)) ..) (by kernel_rfl)
noncomputable def f9p5 : Plan := .mk (some f9l2) none .n f9p7
theorem f9t5 N v0 v1 (K : KT ρ) : f9i N (f9c 11) f9p5 (f9s1 v0 v1) (joinK (some f9l3) K) =
  laws_eqIntS.Z5 N v0 v1 (K .nrm f9s3) (fun v4 => K .ret (f9s4 v4)) :=
 viaSeqS (fun k => laws_eqIntS.Z6 N v0 v1 k) (by kernel_rfl) (f9t6 N (K := seqK (fun σ => f9i N (f9c 27) f9p7 σ (joinK (some f9l3) K)) (joinK (some f9l3) K)) ..) (fx3 fun v0 v1 v5 => f9t7 N v0 v1 v5 K) (by kernel_rfl)
theorem f9t10 N  (K : KT ρ) : f9i N (f9c 15) .n f9s3 (joinK (some f9lE) K) =
  laws_eqIntS.Z10 N (fun v4 => K .ret (f9s4 v4)) := by kernel_rfl
noncomputable def f9p4 : Plan := .mk (some f9l3) none f9p5 .n
theorem f9t4 N v0 v1 (K : KT ρ) : f9i N (f9c 7) f9p4 (f9s1 v0 v1) (joinK (some f9lE) K) =
  laws_eqIntS.Z4 N v0 v1 (fun v4 => K .ret (f9s4 v4)) :=
 viaSeqS (fun k => laws_eqIntS.Z5 N v0 v1 k (fun v4 => K .ret (f9s4 v4))) (by kernel_rfl) (f9t5 N (K := seqK (fun σ => f9i N (f9c 15) .n σ (joinK (some f9lE) K)) (joinK (some f9lE) K)) ..) (f9t10 N K) (by kernel_rfl)
noncomputable def f9p2 : Plan := .mk (some f9l1) none .n f9p4
theorem f9t2 N v0 v1 (K : KT ρ) : f9i N (f9c 3) f9p2 (f9s1 v0 v1) (joinK (some f9lE) K) =
  laws_eqIntS.Z2 N v0 v1 (fun v4 => K .ret (f9s4 v4)) :=
 viaSeqS (fun k => laws_eqIntS.Z3 N v0 v1 k (fun v4 => K .ret (f9s4 v4))) (by kernel_rfl) (f9t3 N (K := seqK (fun σ => f9i N (f9c 7) f9p4 σ (joinK (some f9lE) K)) (joinK (some f9lE) K)) ..) (fx2 fun v0 v1 => f9t4 N v0 v1 K) (by kernel_rfl)
noncomputable def f9p0 : Plan := .mk (some f9l1) none .n f9p2
theorem f9t0 N v0 v1 (K : KT ρ) : f9i N (f9c 1) f9p0 (f9s0 v0 v1) (joinK (some f9lE) K) =
  laws_eqIntS.Z0 N v0 v1 (fun v4 => K .ret (f9s4 v4)) :=
 viaSeqS (fun k => laws_eqIntS.Z1 N v0 v1 k) (by kernel_rfl) (f9t1 N (K := seqK (fun σ => f9i N (f9c 3) f9p2 σ (joinK (some f9lE) K)) (joinK (some f9lE) K)) ..) (fx2 fun v0 v1 => f9t2 N v0 v1 K) (by kernel_rfl)
theorem f9m (N : Nat) (v0 v1 : LI) : f9i N (f9c 1) f9p0 (f9s0 v0 v1) (joinK (some f9lE) (finK tab f9sig Tryd.f9.results.toList)) = laws_eqIntS.Z0 N v0 v1 (fun v4 => some ((), (v4, ()))) :=
  (f9t0 N v0 v1 (finK tab f9sig Tryd.f9.results.toList)).trans (by kernel_rfl)
theorem f9ok (h : laws_eqIntS.Spec) : EntryOk Tryd.prog 9 e9 :=
  entry_of_code (sig := f9sig) (c := (f9c 1)) (pl := f9p0) (je := (some f9lE)) (B := f9B) Tryd.func9 (by kernel_rfl) (by kernel_rfl) (by kernel_rfl) tabOk f9GOk (by kernel_rfl) (by kernel_rfl) (by kernel_rfl) (by kernel_rfl) fun X hb hp => by
    obtain ⟨v0, v1, _⟩ := X
    obtain ⟨N, h⟩ := h v0 v1 hb.1 hb.2.1
    exact ⟨N, (f9m N v0 v1).trans (h N (Nat.le_refl N))⟩
theorem e9ok : EntryOk Tryd.prog 9 e9 := f9ok laws_eqIntS.ok
end Go.Fw
namespace Go.Fw
variable {ρ : Type}
open Go.Proofs
noncomputable def f14sig : Sig := ⟨[⟨.pair (.int .i64) (.pair (.int .i64) (.sl 3 (.int .i64))), true, false⟩, ⟨.pair (.int .i64) (.pair (.int .i64) (.sl 3 (.int .i64))), true, false⟩], [⟨.bool, false, false⟩]⟩
noncomputable def e14 : Entry := ⟨f14sig, none, fun X => ((), ((laws_eqMatrix.g X.1 X.2.1), ()))⟩
noncomputable def f14G : Gm := addG emptyG 9 e9
theorem f14GOk : GOk Tryd.prog f14G := (GOk.nil).add e9ok (by kernel_rfl)
noncomputable def f14lE : Clean := ⟨[], [], [], [], []⟩
noncomputable def f14s0 (v0 v1 : MT) : St := initSt f14sig.ps (v0, (v1, ()))
noncomputable def f14s1 (v4 : Bool) : St := stOf [(4, xB v4)] [] []
noncomputable def f14l1 : Clean := ⟨[4], [], [], [], []⟩
noncomputable def f14B : Nat → Option Clean := lookL [(1000000, f14l1)]
noncomputable abbrev f14i {ρ : Type} (N : Nat) (c : Code) (p : Plan) (σ : St) (K : KT ρ) : Option ρ := iCode f14G tab f14B N c p σ K
noncomputable def f14c (n : Nat) : Code := codeN 99 (bodyOf Tryd.f14) n
theorem f14t0 N v0 v1 (K : KT ρ) : f14i N (f14c 1) .n (f14s0 v0 v1) (joinK (some f14lE) K) =
  laws_eqMatrix.Z0 N v0 v1 (fun v4 => K .ret (f14s1 v4)) := by kernel_rfl
theorem f14m (N : Nat) (v0 v1 : MT) : f14i N (f14c 1) .n (f14s0 v0 v1) (joinK (some f14lE) (finK tab f14sig Tryd.f14.results.toList)) = laws_eqMatrix.Z0 N v0 v1 (fun v4 => some ((), (v4, ()))) :=
  (f14t0 N v0 v1 (finK tab f14sig Tryd.f14.results.toList)).trans (by kernel_rfl)
theorem f14ok (h : laws_eqMatrix.Spec) : EntryOk Tryd.prog 14 e14 :=
  entry_of_code (sig := f14sig) (c := (f14c 1)) (pl := .n) (je := (some f14lE)) (B := f14B) Tryd.func14 (by kernel_rfl) (by kernel_rfl) (by kernel_rfl) tabOk f14GOk (by kernel_rfl) (by kernel_rfl) (by kernel_rfl) (by kernel_rfl) fun X hb hp => by
    obtain ⟨v0, v1, _⟩ := X
    obtain ⟨N, h⟩ := h v0 v1 hb.1 hb.2.1
    exact ⟨N, (f14m N v0 v1).trans (h N (Nat.le_refl N))⟩
theorem e14ok : EntryOk Tryd.prog 14 e14 := f14ok laws_eqMatrix.ok
end Go.Fw
namespace Go.Fw
variable {ρ : Type}
open Go.Proofs
noncomputable def f10sig : Sig := ⟨[⟨.sl 3 (.int .i64), false, true⟩, ⟨.int .i64, false, false⟩], [⟨.int .i64, false, false⟩]⟩
noncomputable def e10 : Entry := ⟨f10sig, none, fun X => ((laws_markIntS.g X.1 X.2.1).1, ((laws_markIntS.g X.1 X.2.1).2, ()))⟩
noncomputable def f10G : Gm := emptyG
theorem f10GOk : GOk Tryd.prog f10G := GOk.nil
noncomputable def f10lE : Clean := ⟨[], [], [], [], []⟩
noncomputable def f10s0 (v0 : LI) (v1 : Int) : St := initSt f10sig.ps (v0, (v1, ()))
noncomputable def f10s1 (v0 : LI) (v1 : Int) : St := stOf [(0, xo 1000000), (1, xi v1), (100000, xo 1000000)] [] [(1000000, (⟨3, .int .i64, v0, true, false⟩ : Row))]
noncomputable def f10l1 : Clean := ⟨[0, 1, 100000], [], [], [], [(⟨false, 0, 0⟩, 1000000)]⟩
noncomputable def f10s2 (v0 : LI) (v1 v5 : Int) : St := stOf [(0, xo 1000000), (1, xi v1), (5, xi v5), (100000, xo 1000000)] [] [(1000000, (⟨3, .int .i64, v0, true, false⟩ : Row))]
noncomputable def f10l2 : Clean := ⟨[0, 1, 5, 100000], [], [], [], [(⟨false, 0, 0⟩, 1000000)]⟩
noncomputable def f10s3 (io100000 : LI) (v1 : Int) : St := stOf [(1, xi v1), (100000, xo 7400000)] [] [(7400000, (⟨3, .int .i64, io100000, true, false⟩ : Row))]
noncomputable def f10l3 : Clean := ⟨[1, 100000], [], [], [], [(⟨false, 100000, 0⟩, 7400000)]⟩
noncomputable def f10s4 (io100000 : LI) (v4 : Int) : St := stOf [(4, xi v4), (100000, xo 7400000)] [] [(7400000, (⟨3, .int .i64, io100000, true, false⟩ : Row))]
noncomputable def f10l4 : Clean := ⟨[4, 100000], [], [], [], [(⟨false, 100000, 0⟩, 7400000)]⟩
noncomputable def f10B : Nat → Option Clean := lookL [(0, f10l3), (1000000, f10l4)]
noncomputable abbrev f10i {ρ : Type} (N : Nat) (c : Code) (p : Plan) (σ : St) (K : KT ρ) : Option ρ := iCode f10G tab f10B N c p σ K
noncomputable def f10c (n : Nat) : Code := codeN 99 (bodyOf Tryd.f10) n
theorem f10t1 N v0 v1 (K : KT ρ) : f10i N (f10c 2) .n (f10s0 v0 v1) (joinK (some f10l1) K) =
  laws_markIntS.Z1 N v0 v1 (fun v0 v1 => K .nrm (f10s1 v0 v1)) := by kernel_rfl
theorem f10t4 N v0 v1 (K : KT ρ) : f10i N (f10c 9) .n (f10s1 v0 v1) (joinK (some f10l2) K) =
  laws_markIntS.Z4 N v0 v1 (fun v0 v1 v5 => K .nrm (f10s2 v0 v1 v5)) := by kernel_rfl
theorem f10t7 N v0 v1 v5 (K : KT ρ) : f10i N (f10c 37) .n (f10s2 v0 v1 v5) (joinK (some f10l2) K) =
  laws_markIntS.Z7 N v0 v1 v5 (fun v0 v1 v5 => K .nrm (f10s2 v0 v1 v5)) (fun io100000 v1 => K (.exit 0) (f10s3 io100000 v1)) := by kernel_rfl
noncomputable def f10p6 : Plan := .mk none (some f10l2) .n .n
noncomputable abbrev f10w6 {ρ : Type} (N M : Nat) (σ : St) (K : KT ρ) : Option ρ := loopC (fun σ K => f10i N (f10c 37) .n σ K) f10l2 M σ K
theorem f10t6L {ρ : Type} (N : Nat) (K : KT ρ) : ∀ (M : Nat) (v0 : LI) (v1 v5 : Int), f10w6 N M (f10s2 v0 v1 v5) K =
  laws_markIntS.Z6L N (fun io100000 v1 => K (.exit 0) (f10s3 io100000 v1)) M v0 v1 v5
  | 0, _, _, _ => rfl
  | M + 1, v0, v1, v5 => viaRoundS (fun k => laws_markIntS.Z7 N v0 v1 v5 k (fun io100000 v1 => K (.exit 0) (f10s3 io100000 v1))) (f10t7 N (K := seqK (fun σ => f10w6 N M σ K) K) ..) (fx3 fun v0 v1 v5 => f10t6L N K M v0 v1 v5) (by kernel_rfl)
theorem f10t6 N v0 v1 v5 (K : KT ρ) : f10i N (f10c 21) f10p6 (f10s2 v0 v1 v5) (joinK (some f10l3) K) =
  laws_markIntS.Z6 N v0 v1 v5 (fun io100000 v1 => K (.exit 0) (f10s3 io100000 v1)) :=
 viaLoopS (by kernel_rfl) (f10t6L N (joinK (some f10l3) K) N v0 v1 v5) (by kernel_rfl)
noncomputable def f10p5 : Plan := .mk (some f10l3) none f10p6 .n
theorem f10t5 N v0 v1 v5 (K : KT ρ) : f10i N (f10c 13) f10p5 (f10s2 v0 v1 v5) (joinK (some f10l3) K) =
  laws_markIntS.Z5 N v0 v1 v5 (fun io100000 v1 => K .nrm (f10s3 io100000 v1)) :=
 viaBlockS (by kernel_rfl) (f10t6 N (K := blockK 0 (joinK (some f10l3) K)) ..) (by kernel_rfl)
noncomputable def f10p3 : Plan := .mk (some f10l2) none .n f10p5
theorem f10t3 N v0 v1 (K : KT ρ) : f10i N (f10c 5) f10p3 (f10s1 v0 v1) (joinK (some f10l3) K) =
  laws_markIntS.Z3 N v0 v1 (fun io100000 v1 => K .nrm (f10s3 io100000 v1)) :=
 viaSeqS (fun k => laws_markIntS.Z4 N v0 v1 k) (by kernel_rfl) (f10t4 N (K := seqK (fun σ => f10i N (f10c 13) f10p5 σ (joinK (some f10l3) K)) (joinK (some f10l3) K)) ..) (fx3 fun v0 v1 v5 => f10t5 N v0 v1 v5 K) (by kernel_rfl)
theorem f10t8 N io100000 v1 (K : KT ρ) : f10i N (f10c 7) .n (f10s3 io100000 v1) (joinK (some f10lE) K) =
  laws_markIntS.Z8 N io100000 v1 (fun io100000 v4 => K .ret (f10s4 io100000 v4)) := by kernel_rfl
noncomputable def f10p2 : Plan := .mk (some f10l3) none f10p3 .n
theorem f10t2 N v0 v1 (K : KT ρ) : f10i N (f10c 3) f10p2 (f10s1 v0 v1) (joinK (some f10lE) K) =
  laws_markIntS.Z2 N v0 v1 (fun io100000 v4 => K .ret (f10s4 io100000 v4)) :=
 viaSeqS (fun k => laws_markIntS.Z3 N v0 v1 k) (by kernel_rfl) (f10t3 N (K := seqK (fun σ => f10i N (f10c 7) .n σ (joinK (some f10lE) K)) (joinK (some f10lE) K)) ..) (fx2 fun io100000 v1 => f10t8 N io100000 v1 K) (by kernel_rfl)
noncomputable def f10p0 : Plan := .mk (some f10l1) none .n f10p2
theorem f10t0 N v0 v1 (K : KT ρ) : f10i N (f10c 1) f10p0 (f10s0 v0 v1) (joinK (some f10lE) K) =
  laws_markIntS.Z0 N v0 v1 (fun io100000 v4 => K .ret (f10s4 io100000 v4)) :=
 viaSeqS (fun k => laws_markIntS.Z1 N v0 v1 k) (by kernel_rfl) (f10t1 N (K := seqK (fun σ => f10i N (f10c 3) f10p2 σ (joinK (some f10lE) K)) (joinK (some f10lE) K)) ..) (fx2 fun v0 v1 => f10t2 N v0 v1 K) (by kernel_rfl)
theorem f10m (N : Nat) (v0 : LI) (v1 : Int) : f10i N (f10c 1) f10p0 (f10s0 v0 v1) (joinK (some f10lE) (finK tab f10sig Tryd.f10.results.toList)) = laws_markIntS.Z0 N v0 v1 (fun io100000 v4 => some (io100000, (v4, ()))) :=
  (f10t0 N v0 v1 (finK tab f10sig Tryd.f10.results.toList)).trans (by kernel_rfl)
theorem f10ok (h : laws_markIntS.Spec) : EntryOk Tryd.prog 10 e10 :=
  entry_of_code (sig := f10sig) (c := (f10c 1)) (pl := f10p0) (je := (some f10lE)) (B := f10B) Tryd.func10 (by kernel_rfl) (by kernel_rfl) (by kernel_rfl) tabOk f10GOk (by kernel_rfl) (by kernel_rfl) (by kernel_rfl) (by kernel_rfl) fun X hb hp => by
    obtain ⟨v0, v1, _⟩ := X
    obtain ⟨N, h⟩ := h v0 v1 hb.1
    exact ⟨N, (f10m N v0 v1).trans (h N (Nat.le_refl N))⟩
theorem e10ok : EntryOk Tryd.prog 10 e10 := f10ok laws_markIntS.ok
end Go.Fw
namespace Go.Fw
variable {ρ : Type}
open Go.Proofs
noncomputable def f15sig : Sig := ⟨[⟨.pair (.int .i64) (.pair (.int .i64) (.sl 3 (.int .i64))), true, true⟩, ⟨.int .i64, false, false⟩], [⟨.int .i64, false, false⟩]⟩
noncomputable def e15 : Entry := ⟨f15sig, none, fun X => ((laws_markMatrix.g X.1 X.2.1).1, ((laws_markMatrix.g X.1 X.2.1).2, ()))⟩
noncomputable def f15G : Gm := addG emptyG 10 e10
theorem f15GOk : GOk Tryd.prog f15G := (GOk.nil).add e10ok (by kernel_rfl)
noncomputable def f15lE : Clean := ⟨[], [], [], [], []⟩
noncomputable def f15s0 (v0 : MT) (v1 : Int) : St := initSt f15sig.ps (v0, (v1, ()))
noncomputable def f15s1 (io100000_2 : LI) (v4 io100000_0 io100000_1 : Int) : St := stOf [(4, xi v4), (100000, .agg [yi io100000_0, yi io100000_1, .own 7400002])] [] [(7400002, (⟨3, .int .i64, io100000_2, true, false⟩ : Row))]
noncomputable def f15l1 : Clean := ⟨[4, 100000], [], [], [], [(⟨false, 100000, 2⟩, 7400002)]⟩
noncomputable def f15B : Nat → Option Clean := lookL [(1000000, f15l1)]
noncomputable abbrev f15i {ρ : Type} (N : Nat) (c : Code) (p : Plan) (σ : St) (K : KT ρ) : Option ρ := iCode f15G tab f15B N c p σ K
noncomputable def f15c (n : Nat) : Code := codeN 99 (bodyOf Tryd.f15) n
theorem f15t0 N v0 v1 (K : KT ρ) : f15i N (f15c 1) .n (f15s0 v0 v1) (joinK (some f15lE) K) =
  laws_markMatrix.Z0 N v0 v1 (fun io100000_2 v4 io100000_0 io100000_1 => K .ret (f15s1 io100000_2 v4 io100000_0 io100000_1)) := by kernel_rfl
theorem f15m (N : Nat) (v0 : MT) (v1 : Int) : f15i N (f15c 1) .n (f15s0 v0 v1) (joinK (some f15lE) (finK tab f15sig Tryd.f15.results.toList)) = laws_markMatrix.Z0 N v0 v1 (fun io100000_2 v4 io100000_0 io100000_1 => some ((io100000_0, (io100000_1, io100000_2)), (v4, ()))) :=
  (f15t0 N v0 v1 (finK tab f15sig Tryd.f15.results.toList)).trans (by kernel_rfl)
theorem f15ok (h : laws_markMatrix.Spec) : EntryOk Tryd.prog 15 e15 :=
  entry_of_code (sig := f15sig) (c := (f15c 1)) (pl := .n) (je := (some f15lE)) (B := f15B) Tryd.func15 (by kernel_rfl) (by kernel_rfl) (by kernel_rfl) tabOk f15GOk (by kernel_rfl) (by kernel_rfl) (by kernel_rfl) (by kernel_rfl) fun X hb hp => by
    obtain ⟨v0, v1, _⟩ := X
    obtain ⟨N, h⟩ := h v0 v1 hb.1
    exact ⟨N, (f15m N v0 v1).trans (h N (Nat.le_refl N))⟩
theorem e15ok : EntryOk Tryd.prog 15 e15 := f15ok laws_markMatrix.ok
end Go.Fw
namespace Go.Fw
variable {ρ : Type}
open Go.Proofs
noncomputable def f11sig : Sig := ⟨[⟨.sl 3 (.int .i64), false, false⟩, ⟨.int .i64, false, false⟩], [⟨.int .i64, false, false⟩]⟩
noncomputable def e11 : Entry := ⟨f11sig, none, fun X => ((), ((laws_heldIntS.g X.1 X.2.1), ()))⟩
noncomputable def f11G : Gm := emptyG
theorem f11GOk : GOk Tryd.prog f11G := GOk.nil
noncomputable def f11lE : Clean := ⟨[], [], [], [], []⟩
noncomputable def f11s0 (v0 : LI) (v1 : Int) : St := initSt f11sig.ps (v0, (v1, ()))
noncomputable def f11s1 (v0 : LI) (v1 : Int) : St := stOf [(0, .c (.sn 3 tI v0 none)), (1, xi v1)] [] []
noncomputable def f11l1 : Clean := ⟨[0, 1], [], [], [], []⟩
noncomputable def f11s2 (v0 : LI) (v1 v5 : Int) : St := stOf [(0, .c (.sn 3 tI v0 none)), (1, xi v1), (5, xi v5)] [] []
noncomputable def f11l2 : Clean := ⟨[0, 1, 5], [], [], [], []⟩
noncomputable def f11s3 (v1 : Int) : St := stOf [(1, xi v1)] [] []
noncomputable def f11l3 : Clean := ⟨[1], [], [], [], []⟩
noncomputable def f11s4 (v4 : Int) : St := stOf [(4, xi v4)] [] []
noncomputable def f11l4 : Clean := ⟨[4], [], [], [], []⟩
noncomputable def f11B : Nat → Option Clean := lookL [(0, f11l3), (1000000, f11l4)]
noncomputable abbrev f11i {ρ : Type} (N : Nat) (c : Code) (p : Plan) (σ : St) (K : KT ρ) : Option ρ := iCode f11G tab f11B N c p σ K
noncomputable def f11c (n : Nat) : Code := codeN 99 (bodyOf Tryd.f11) n
theorem f11t1 N v0 v1 (K : KT ρ) : f11i N (f11c 2) .n (f11s0 v0 v1) (joinK (some f11l1) K) =
  laws_heldIntS.Z1 N v0 v1 (fun v0 v1 => K .nrm (f11s1 v0 v1)) := by kernel_rfl
theorem f11t4 N v0 v1 (K : KT ρ) : f11i N (f11c 9) .n (f11s1 v0 v1) (joinK (some f11l2) K) =
  laws_heldIntS.Z4 N v0 v1 (fun v0 v1 v5 => K .nrm (f11s2 v0 v1 v5)) := by kernel_rfl
theorem f11t7 N v0 v1 v5 (K : KT ρ) : f11i N (f11c 37) .n (f11s2 v0 v1 v5) (joinK (some f11l2) K) =
  laws_heldIntS.Z7 N v0 v1 v5 (fun v0 v1 v5 => K .nrm (f11s2 v0 v1 v5)) (fun v1 => K (.exit 0) (f11s3 v1)) (fun v4 => K .ret (f11s4 v4)) := by kernel_rfl
noncomputable def f11p6 : Plan := .mk none (some f11l2) .n .n
noncomputable abbrev f11w6 {ρ : Type} (N M : Nat) (σ : St) (K : KT ρ) : Option ρ := loopC (fun σ K => f11i N (f11c 37) .n σ K) f11l2 M σ K
theorem f11t6L {ρ : Type} (N : Nat) (K : KT ρ) : ∀ (M : Nat) (v0 : LI) (v1 v5 : Int), f11w6 N M (f11s2 v0 v1 v5) K =
  laws_heldIntS.Z6L N (fun v1 => K (.exit 0) (f11s3 v1)) (fun v4 => K .ret (f11s4 v4)) M v0 v1 v5
  | 0, _, _, _ => rfl
  | M + 1, v0, v1, v5 => viaRoundS (fun k => laws_heldIntS.Z7 N v0 v1 v5 k (fun v1 => K (.exit 0) (f11s3 v1)) (fun v4 => K .ret (f11s4 v4))) (f11t7 N (K := seqK (fun σ => f11w6 N M σ K) K) ..) (fx3 fun v0 v1 v5 => f11t6L N K M v0 v1 v5) (by kernel_rfl)
theorem f11t6 N v0 v1 v5 (K : KT ρ) : f11i N (f11c 21) f11p6 (f11s2 v0 v1 v5) (joinK (some f11l3) K) =
  laws_heldIntS.Z6 N v0 v1 v5 (fun v1 => K (.exit 0) (f11s3 v1)) (fun v4 => K .ret (f11s4 v4)) :=
 viaLoopS (by kernel_rfl) (f11t6L N (joinK (some f11l3) K) N v0 v1 v5) (by kernel_rfl)
noncomputable def f11p5 : Plan := .mk (some f11l3) none f11p6 .n
theorem f11t5 N v0 v1 v5 (K : KT ρ) : f11i N (f11c 13) f11p5 (f11s2 v0 v1 v5) (joinK (some f11l3) K) =
  laws_heldIntS.Z5 N v0 v1 v5 (fun v1 => K .nrm (f11s3 v1)) (fun v4 => K .ret (f11s4 v4)) :=
 viaBlockS (by kernel_rfl) (f11t6 N (K := blockK 0 (joinK (some f11l3) K)) ..) (by kernel_rfl)
noncomputable def f11p3 : Plan := .mk (some f11l2) none .n f11p5
theorem f11t3 N v0 v1 (K : KT ρ) : f11i N (f11c 5) f11p3 (f11s1 v0 v1) (joinK (some f11l3) K) =
  laws_heldIntS.Z3 N v0 v1 (fun v1 => K .nrm (f11s3 v1)) (fun v4 => K .ret (f11s4 v4)) :=
 viaSeqS (fun k => laws_heldIntS.Z4 N v0 v1 k) (by kernel_rfl) (f11t4 N (K := seqK (fun σ => f11i N (f11c 13) f11p5 σ (joinK (some f11l3) K)) (joinK (some f11l3) K)) ..) (fx3 fun v0 v1 v5 => f11t5 N v0 v1 v5 K) (by kernel_rfl)
theorem f11t8 N v1 (K : KT ρ) : f11i N (f11c 7) .n (f11s3 v1) (joinK (some f11lE) K) =
  laws_heldIntS.Z8 N v1 (fun v4 => K .ret (f11s4 v4)) := by kernel_rfl
noncomputable def f11p2 : Plan := .mk (some f11l3) none f11p3 .n
theorem f11t2 N v0 v1 (K : KT ρ) : f11i N (f11c 3) f11p2 (f11s1 v0 v1) (joinK (some f11lE) K) =
  laws_heldIntS.Z2 N v0 v1 (fun v4 => K .ret (f11s4 v4)) :=
 viaSeqS (fun k => laws_heldIntS.Z3 N v0 v1 k (fun v4 => K .ret (f11s4 v4))) (by kernel_rfl) (f11t3 N (K := seqK (fun σ => f11i N (f11c 7) .n σ (joinK (some f11lE) K)) (joinK (some f11lE) K)) ..) (funext fun v1 => f11t8 N v1 K) (by kernel_rfl)
noncomputable def f11p0 : Plan := .mk (some f11l1) none .n f11p2
theorem f11t0 N v0 v1 (K : KT ρ) : f11i N (f11c 1) f11p0 (f11s0 v0 v1) (joinK (some f11lE) K) =
  laws_heldIntS.Z0 N v0 v1 (fun v4 => K .ret (f11s4 v4)) :=
 viaSeqS (fun k => laws_heldIntS.Z1 N v0 v1 k) (by kernel_rfl) (f11t1 N (K := seqK (fun σ => f11i N (f11c 3) f11p2 σ (joinK (some f11lE) K)) (joinK (some f11lE) K)) ..) (fx2 fun v0 v1 => f11t2 N v0 v1 K) (by kernel_rfl)
theorem f11m (N : Nat) (v0 : LI) (v1 : Int) : f11i N (f11c 1) f11p0 (f11s0 v0 v1) (joinK (some f11lE) (finK tab f11sig Tryd.f11.results.toList)) = laws_heldIntS.Z0 N v0 v1 (fun v4 => some ((), (v4, ()))) :=
  (f11t0 N v0 v1 (finK tab f11sig Tryd.f11.results.toList)).trans (by kernel_rfl)
theorem f11ok (h : laws_heldIntS.Spec) : EntryOk Tryd.prog 11 e11 :=
  entry_of_code (sig := f11sig) (c := (f11c 1)) (pl := f11p0) (je := (some f11lE)) (B := f11B) Tryd.func11 (by kernel_rfl) (by kernel_rfl) (by kernel_rfl) tabOk f11GOk (by kernel_rfl) (by kernel_rfl) (by kernel_rfl) (by kernel_rfl) fun X hb hp => by
    obtain ⟨v0, v1, _⟩ := X
    obtain ⟨N, h⟩ := h v0 v1 hb.1
    exact ⟨N, (f11m N v0 v1).trans (h N (Nat.le_refl N))⟩
theorem e11ok : EntryOk Tryd.prog 11 e11 := f11ok laws_heldIntS.ok
end Go.Fw
namespace Go.Fw
variable {ρ : Type}
open Go.Proofs
noncomputable def f16sig : Sig := ⟨[⟨.pair (.int .i64) (.pair (.int .i64) (.sl 3 (.int .i64))), true, false⟩, ⟨.int .i64, false, false⟩], [⟨.int .i64, false, false⟩]⟩
noncomputable def e16 : Entry := ⟨f16sig, none, fun X => ((), ((laws_heldMatrix.g X.1 X.2.1), ()))⟩
noncomputable def f16G : Gm := addG emptyG 11 e11
theorem f16GOk : GOk Tryd.prog f16G := (GOk.nil).add e11ok (by kernel_rfl)
noncomputable def f16lE : Clean := ⟨[], [], [], [], []⟩
noncomputable def f16s0 (v0 : MT) (v1 : Int) : St := initSt f16sig.ps (v0, (v1, ()))
noncomputable def f16s1 (v4 : Int) : St := stOf [(4, xi v4)] [] []
noncomputable def f16l1 : Clean := ⟨[4], [], [], [], []⟩
noncomputable def f16B : Nat → Option Clean := lookL [(1000000, f16l1)]
noncomputable abbrev f16i {ρ : Type} (N : Nat) (c : Code) (p : Plan) (σ : St) (K : KT ρ) : Option ρ := iCode f16G tab f16B N c p σ K
noncomputable def f16c (n : Nat) : Code := codeN 99 (bodyOf Tryd.f16) n
theorem f16t0 N v0 v1 (K : KT ρ) : f16i N (f16c 1) .n (f16s0 v0 v1) (joinK (some f16lE) K) =
  laws_heldMatrix.Z0 N v0 v1 (fun v4 => K .ret (f16s1 v4)) := by kernel_rfl
theorem f16m (N : Nat) (v0 : MT) (v1 : Int) : f16i N (f16c 1) .n (f16s0 v0 v1) (joinK (some f16lE) (finK tab f16sig Tryd.f16.results.toList)) = laws_heldMatrix.Z0 N v0 v1 (fun v4 => some ((), (v4, ()))) :=
  (f16t0 N v0 v1 (finK tab f16sig Tryd.f16.results.toList)).trans (by kernel_rfl)
theorem f16ok (h : laws_heldMatrix.Spec) : EntryOk Tryd.prog 16 e16 :=
  entry_of_code (sig := f16sig) (c := (f16c 1)) (pl := .n) (je := (some f16lE)) (B := f16B) Tryd.func16 (by kernel_rfl) (by kernel_rfl) (by kernel_rfl) tabOk f16GOk (by kernel_rfl) (by kernel_rfl) (by kernel_rfl) (by kernel_rfl) fun X hb hp => by
    obtain ⟨v0, v1, _⟩ := X
    obtain ⟨N, h⟩ := h v0 v1 hb.1
    exact ⟨N, (f16m N v0 v1).trans (h N (Nat.le_refl N))⟩
theorem e16ok : EntryOk Tryd.prog 16 e16 := f16ok laws_heldMatrix.ok
end Go.Fw
namespace Go.Fw
variable {ρ : Type}
open Go.Proofs
noncomputable def f4sig : Sig := ⟨[⟨.str, false, false⟩], [⟨.bool, false, false⟩]⟩
noncomputable def e4 : Entry := ⟨f4sig, none, fun X => ((), ((laws_FnExactParseMatrix.g X.1), ()))⟩
noncomputable def f4G : Gm := addG (addG (addG (addG (addG emptyG 12 e12) 13 e13) 14 e14) 15 e15) 16 e16
theorem f4GOk : GOk Tryd.prog f4G := (((((GOk.nil).add e12ok (by kernel_rfl)).add e13ok (by kernel_rfl)).add e14ok (by kernel_rfl)).add e15ok (by kernel_rfl)).add e16ok (by kernel_rfl)
noncomputable def f4lE : Clean := ⟨[], [], [], [], []⟩
noncomputable def f4s0 (v0 : ByteArray) : St := initSt f4sig.ps (v0, ())
noncomputable def f4s1 (v0 : ByteArray) : St := stOf [(0, .c (.str v0))] [] []
noncomputable def f4l1 : Clean := ⟨[0], [], [], [], []⟩
noncomputable def f4s2 (v3_2 : LI) (v0 : ByteArray) (v4 : Bool) (v3_0 v3_1 : Int) : St := stOf [(0, .c (.str v0)), (3, xb 3), (4, xB v4)] [(3, (29, [yi v3_0, yi v3_1, .own 20000194]))] [(20000194, (⟨3, .int .i64, v3_2, true, false⟩ : Row))]
noncomputable def f4l2 : Clean := ⟨[0, 3, 4], [3], [], [], [(⟨true, 3, 2⟩, 20000194)]⟩
noncomputable def f4s3 (v3_2 v5_2 : LI) (v0 : ByteArray) (v4 v6 : Bool) (v3_0 v3_1 v5_0 v5_1 : Int) : St := stOf [(0, .c (.str v0)), (3, xb 3), (4, xB v4), (5, xb 5), (6, xB v6)] [(3, (29, [yi v3_0, yi v3_1, .own 20000194])), (5, (29, [yi v5_0, yi v5_1, .own 20000322]))] [(20000194, (⟨3, .int .i64, v3_2, true, false⟩ : Row)), (20000322, (⟨3, .int .i64, v5_2, true, false⟩ : Row))]
noncomputable def f4l3 : Clean := ⟨[0, 3, 4, 5, 6], [3, 5], [], [], [(⟨true, 3, 2⟩, 20000194), (⟨true, 5, 2⟩, 20000322)]⟩
noncomputable def f4s4 (v3_2 v5_2 : LI) (v0 : ByteArray) (v4 : Bool) (v3_0 v3_1 v5_0 v5_1 : Int) : St := stOf [(0, .c (.str v0)), (3, xb 3), (4, xB v4), (5, xb 5)] [(3, (29, [yi v3_0, yi v3_1, .own 20000194])), (5, (29, [yi v5_0, yi v5_1, .own 20000322]))] [(20000194, (⟨3, .int .i64, v3_2, true, false⟩ : Row)), (20000322, (⟨3, .int .i64, v5_2, true, false⟩ : Row))]
noncomputable def f4l4 : Clean := ⟨[0, 3, 4, 5], [3, 5], [], [], [(⟨true, 3, 2⟩, 20000194), (⟨true, 5, 2⟩, 20000322)]⟩
noncomputable def f4s5 (v2 : Bool) : St := stOf [(2, xB v2)] [] []
noncomputable def f4l5 : Clean := ⟨[2], [], [], [], []⟩
noncomputable def f4B : Nat → Option Clean := lookL [(1000000, f4l5)]
noncomputable abbrev f4i {ρ : Type} (N : Nat) (c : Code) (p : Plan) (σ : St) (K : KT ρ) : Option ρ := iCode f4G tab f4B N c p σ K
noncomputable def f4c (n : Nat) : Code := codeN 99 (bodyOf Tryd.f4) n
theorem f4t1 N v0 (K : KT ρ) : f4i N (f4c 2) .n (f4s0 v0) (joinK (some f4l1) K) =
  laws_FnExactParseMatrix.Z1 N v0 (fun v0 => K .nrm (f4s1 v0)) := by kernel_rfl
theorem f4t3 N v0 (K : KT ρ) : f4i N (f4c 5) .n (f4s1 v0) (joinK (some f4l1) K) =
  laws_FnExactParseMatrix.Z3 N v0 (fun v0 => K .nrm (f4s1 v0)) (fun v2 => K .ret (f4s5 v2)) := by kernel_rfl
theorem f4t5 N v0 (K : KT ρ) : f4i N (f4c 11) .n (f4s1 v0) (joinK (some f4l2) K) =
  laws_FnExactParseMatrix.Z5 N v0 (fun v3_2 v0 v4 v3_0 v3_1 => K .nrm (f4s2 v3_2 v0 v4 v3_0 v3_1)) := by kernel_rfl
theorem f4t7 N v3_2 v0 v4 v3_0 v3_1 (K : KT ρ) : f4i N (f4c 23) .n (f4s2 v3_2 v0 v4 v3_0 v3_1) (joinK (some f4l3) K) =
  laws_FnExactParseMatrix.Z7 N v3_2 v0 v4 v3_0 v3_1 (fun v3_2 v5_2 v0 v4 v6 v3_0 v3_1 v5_0 v5_1 => K .nrm (f4s3 v3_2 v5_2 v0 v4 v6 v3_0 v3_1 v5_0 v5_1)) := by kernel_rfl
theorem f4t9 N v3_2 v5_2 v0 v4 v6 v3_0 v3_1 v5_0 v5_1 (K : KT ρ) : f4i N (f4c 47) .n (f4s3 v3_2 v5_2 v0 v4 v6 v3_0 v3_1 v5_0 v5_1) (joinK (some f4l4) K) =
  laws_FnExactParseMatrix.Z9 N v3_2 v5_2 v0 v4 v6 v3_0 v3_1 v5_0 v5_1 (fun v3_2 v5_2 v0 v4 v3_0 v3_1 v5_0 v5_1 => K .nrm (f4s4 v3_2 v5_2 v0 v4 v3_0 v3_1 v5_0 v5_1)) (fun v2 => K .ret (f4s5 v2)) := by kernel_rfl
theorem f4t10 N v3_2 v5_2 v0 v4 v3_0 v3_1 v5_0 v5_1 (K : KT ρ) : f4i N (f4c 63) .n (f4s4 v3_2 v5_2 v0 v4 v3_0 v3_1 v5_0 v5_1) (joinK (some f4lE) K) =
  laws_FnExactParseMatrix.Z10 N v3_2 v5_2 v0 v4 v3_0 v3_1 v5_0 v5_1 (fun v2 => K .ret (f4s5 v2)) := by kernel_rfl
noncomputable def f4p8 : Plan := .mk (some f4l4) none .n .n
theorem f4t8 N v3_2 v5_2 v0 v4 v6 v3_0 v3_1 v5_0 v5_1 (K : KT ρ) : f4i N (f4c 31) f4p8 (f4s3 v3_2 v5_2 v0 v4 v6 v3_0 v3_1 v5_0 v5_1) (joinK (some f4lE) K) =
  laws_FnExactParseMatrix.Z8 N v3_2 v5_2 v0 v4 v6 v3_0 v3_1 v5_0 v5_1 (fun v2 => K .ret (f4s5 v2)) :=
 viaSeqS (fun k => laws_FnExactParseMatrix.Z9 N v3_2 v5_2 v0 v4 v6 v3_0 v3_1 v5_0 v5_1 k (fun v2 => K .ret (f4s5 v2))) (by kernel_rfl) (f4t9 N (K := seqK (fun σ => f4i N (f4c 63) .n σ (joinK (some f4lE) K)) (joinK (some f4lE) K)) ..) (fx8 fun v3_2 v5_2 v0 v4 v3_0 v3_1 v5_0 v5_1 => f4t10 N v3_2 v5_2 v0 v4 v3_0 v3_1 v5_0 v5_1 K) (by kernel_rfl)
noncomputable def f4p6 : Plan := .mk (some f4l3) none .n f4p8
theorem f4t6 N v3_2 v0 v4 v3_0 v3_1 (K : KT ρ) : f4i N (f4c 15) f4p6 (f4s2 v3_2 v0 v4 v3_0 v3_1) (joinK (some f4lE) K) =
  laws_FnExactParseMatrix.Z6 N v3_2 v0 v4 v3_0 v3_1 (fun v2 => K .ret (f4s5 v2)) :=
 viaSeqS (fun k => laws_FnExactParseMatrix.Z7 N v3_2 v0 v4 v3_0 v3_1 k) (by kernel_rfl) (f4t7 N (K := seqK (fun σ => f4i N (f4c 31) f4p8 σ (joinK (some f4lE) K)) (joinK (some f4lE) K)) ..) (fx9 fun v3_2 v5_2 v0 v4 v6 v3_0 v3_1 v5_0 v5_1 => f4t8 N v3_2 v5_2 v0 v4 v6 v3_0 v3_1 v5_0 v5_1 K) (by kernel_rfl)
noncomputable def f4p4 : Plan := .mk (some f4l2) none .n f4p6
theorem f4t4 N v0 (K : KT ρ) : f4i N (f4c 7) f4p4 (f4s1 v0) (joinK (some f4lE) K) =
  laws_FnExactParseMatrix.Z4 N v0 (fun v2 => K .ret (f4s5 v2)) :=
 viaSeqS (fun k => laws_FnExactParseMatrix.Z5 N v0 k) (by kernel_rfl) (f4t5 N (K := seqK (fun σ => f4i N (f4c 15) f4p6 σ (joinK (some f4lE) K)) (joinK (some f4lE) K)) ..) (fx5 fun v3_2 v0 v4 v3_0 v3_1 => f4t6 N v3_2 v0 v4 v3_0 v3_1 K) (by kernel_rfl)
noncomputable def f4p2 : Plan := .mk (some f4l1) none .n f4p4
theorem f4t2 N v0 (K : KT ρ) : f4i N (f4c 3) f4p2 (f4s1 v0) (joinK (some f4lE) K) =
  laws_FnExactParseMatrix.Z2 N v0 (fun v2 => K .ret (f4s5 v2)) :=
 viaSeqS (fun k => laws_FnExactParseMatrix.Z3 N v0 k (fun v2 => K .ret (f4s5 v2))) (by kernel_rfl) (f4t3 N (K := seqK (fun σ => f4i N (f4c 7) f4p4 σ (joinK (some f4lE) K)) (joinK (some f4lE) K)) ..) (funext fun v0 => f4t4 N v0 K) (by kernel_rfl)
noncomputable def f4p0 : Plan := .mk (some f4l1) none .n f4p2
theorem f4t0 N v0 (K : KT ρ) : f4i N (f4c 1) f4p0 (f4s0 v0) (joinK (some f4lE) K) =
  laws_FnExactParseMatrix.Z0 N v0 (fun v2 => K .ret (f4s5 v2)) :=
 viaSeqS (fun k => laws_FnExactParseMatrix.Z1 N v0 k) (by kernel_rfl) (f4t1 N (K := seqK (fun σ => f4i N (f4c 3) f4p2 σ (joinK (some f4lE) K)) (joinK (some f4lE) K)) ..) (funext fun v0 => f4t2 N v0 K) (by kernel_rfl)
theorem f4m (N : Nat) (v0 : ByteArray) : f4i N (f4c 1) f4p0 (f4s0 v0) (joinK (some f4lE) (finK tab f4sig Tryd.f4.results.toList)) = laws_FnExactParseMatrix.Z0 N v0 (fun v2 => some ((), (v2, ()))) :=
  (f4t0 N v0 (finK tab f4sig Tryd.f4.results.toList)).trans (by kernel_rfl)
theorem f4ok (h : laws_FnExactParseMatrix.Spec) : EntryOk Tryd.prog 4 e4 :=
  entry_of_code (sig := f4sig) (c := (f4c 1)) (pl := f4p0) (je := (some f4lE)) (B := f4B) Tryd.func4 (by kernel_rfl) (by kernel_rfl) (by kernel_rfl) tabOk f4GOk (by kernel_rfl) (by kernel_rfl) (by kernel_rfl) (by kernel_rfl) fun X hb hp => by
    obtain ⟨v0, _⟩ := X
    obtain ⟨N, h⟩ := h v0
    exact ⟨N, (f4m N v0).trans (h N (Nat.le_refl N))⟩
theorem e4ok : EntryOk Tryd.prog 4 e4 := f4ok laws_FnExactParseMatrix.ok
end Go.Fw
