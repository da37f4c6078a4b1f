/- What the functions compute that SyncAny reaches, part 1; lemmas, no claim of its own. -/
import Derived.Test.YtkiecemdbkjccaaChecked
import Derived.KernelRfl
import Derived.Test.YtkiecemdbkjccaaGA
import Derived.Test.YtkiecemdbkjccaaGB
import Derived.Test.YtkiecemdbkjccaaGC
import Derived.Test.YtkiecemdbkjccaaGE
import Derived.Test.YtkiecemdbkjccaaGH
import Derived.Test.YtkiecemdbkjccaaGJ
import Derived.Test.YtkiecemdbkjccaaGK
section
/- Resolved functions of package xlaw10, written by a program (res.py). -/
namespace Go.Ab
def A_xlaw10_SyncModes : AFun := { res := [.t 4], body := (.seq (.reg false [{ dst := some 4, op := .mv (.c (.b false)) }])
 (.seq (.reg false [{ dst := some 14, op := .mv (.t 0) },
  { dst := some 15, op := .call .pure (.c (.fn 10 [] [])) [.t 14, .c (.i .i64 6)] },
  { dst := some 16, op := .mv (.t 1) },
  { dst := some 17, op := .call .pure (.c (.fn 10 [] [])) [.t 16, .c (.i .i64 6)] },
  { dst := some 5, op := .mv (.t 15) },
  { dst := some 6, op := .mv (.t 17) }])
 (.seq (.reg false [{ dst := some 18, op := .build (List.replicate 5 (.i .i64 0) ++ [.b false]) [(1, 1, .c (.i .i64 2))] },
  { dst := some 19, op := .build (List.replicate 5 (.i .i64 0) ++ [.b false]) [(1, 1, .c (.i .i64 2)), (3, 1, .c (.i .i64 1))] },
  { dst := some 20, op := .build (List.replicate 5 (.i .i64 0) ++ [.b false]) [(0, 1, .c (.i .i64 1)), (1, 1, .c (.i .i64 2)), (4, 1, .c (.i .i64 1))] },
  { dst := some 21, op := .bsl true 3 (List.replicate 5 (.i .i64 0) ++ [.b false] ++ List.replicate 5 (.i .i64 0) ++ [.b false] ++ List.replicate 5 (.i .i64 0) ++ [.b false]) [(0, 6, .t 18), (6, 6, .t 19), (12, 6, .t 20)] },
  { dst := some 7, op := .mv (.t 21) }])
 (.seq (.seq (.reg false [{ dst := some 22, op := .mv (.t 5) },
  { dst := some 23, op := .bin .geq (.t 22) (.c (.i .i64 2)) }])
 (.cond (.t 23) (.reg false [{ dst := some 24, op := .mv (.t 7) },
  { dst := some 25, op := .mv (.t 5) },
  { dst := some 26, op := .bin .sub (.t 25) (.c (.i .i64 1)) },
  { dst := some 27, op := .build (List.replicate 5 (.i .i64 0) ++ [.b false]) [(0, 1, .c (.i .i64 1)), (1, 1, .c (.i .i64 3)), (2, 1, .t 26)] },
  { dst := some 28, op := .bsl true 1 (List.replicate 5 (.i .i64 0) ++ [.b false]) [(0, 6, .t 27)] },
  { dst := some 29, op := .app 6 48 (.t 24) (.t 28) },
  { dst := some 7, op := .mv (.t 29) }])
 .skip))
 (.seq (.reg false [{ dst := some 30, op := .mv (.t 7) },
  { dst := some 31, op := .len (.t 30) },
  { dst := some 8, op := .mv (.t 31) }])
 (.seq (.reg false [{ dst := some 32, op := .mv (.t 7) },
  { dst := some 33, op := .build (List.replicate 5 (.i .i64 0) ++ [.b false]) [(0, 1, .c (.i .i64 1)), (1, 1, .c (.i .i64 2)), (3, 1, .c (.i .i64 1)), (4, 1, .c (.i .i64 1))] },
  { dst := some 34, op := .build (List.replicate 5 (.i .i64 0) ++ [.b false]) [(0, 1, .c (.i .i64 2)), (1, 1, .c (.i .i64 1)), (3, 1, .c (.i .i64 1)), (4, 1, .c (.i .i64 1))] },
  { dst := some 35, op := .bsl true 2 (List.replicate 5 (.i .i64 0) ++ [.b false] ++ List.replicate 5 (.i .i64 0) ++ [.b false]) [(0, 6, .t 33), (6, 6, .t 34)] },
  { dst := some 36, op := .app 6 48 (.t 32) (.t 35) },
  { dst := some 7, op := .mv (.t 36) }])
 (.seq (.seq (.reg false [{ dst := some 37, op := .mv (.t 5) },
  { dst := some 38, op := .bin .eql (.t 37) (.c (.i .i64 1)) }])
 (.cond (.t 38) (.reg false [{ dst := some 39, op := .mv (.t 7) },
  { dst := some 40, op := .mv (.t 8) },
  { dst := some 41, op := .ia 6 (.t 39) (.t 40) },
  { dst := some 42, op := .fa 2 (.t 41) },
  { dst := none, op := .st 1 (.t 42) (.c (.i .i64 2)) }])
 .skip))
 (.seq (.seq (.reg false [{ dst := some 43, op := .mv (.t 6) },
  { dst := some 44, op := .bin .eql (.t 43) (.c (.i .i64 1)) }])
 (.cond (.t 44) (.reg false [{ dst := some 45, op := .mv (.t 7) },
  { dst := some 46, op := .mv (.t 8) },
  { dst := some 47, op := .bin .add (.t 46) (.c (.i .i64 1)) },
  { dst := some 48, op := .ia 6 (.t 45) (.t 47) },
  { dst := some 49, op := .fa 2 (.t 48) },
  { dst := none, op := .st 1 (.t 49) (.c (.i .i64 1)) }])
 .skip))
 (.seq (.seq (.reg false [{ dst := some 50, op := .mv (.t 6) },
  { dst := some 51, op := .bin .geq (.t 50) (.c (.i .i64 2)) }])
 (.cond (.t 51) (.reg false [{ dst := some 52, op := .mv (.t 7) },
  { dst := some 53, op := .mv (.t 6) },
  { dst := some 54, op := .bin .sub (.t 53) (.c (.i .i64 1)) },
  { dst := some 55, op := .build (List.replicate 5 (.i .i64 0) ++ [.b false]) [(0, 1, .c (.i .i64 2)), (1, 1, .c (.i .i64 3)), (2, 1, .t 54)] },
  { dst := some 56, op := .bsl true 1 (List.replicate 5 (.i .i64 0) ++ [.b false]) [(0, 6, .t 55)] },
  { dst := some 57, op := .app 6 48 (.t 52) (.t 56) },
  { dst := some 7, op := .mv (.t 57) }])
 .skip))
 (.seq (.reg false [{ dst := some 58, op := .mv (.t 7) },
  { dst := some 59, op := .len (.t 58) },
  { dst := some 9, op := .mv (.t 59) }])
 (.seq (.reg false [{ dst := some 60, op := .mv (.t 7) },
  { dst := some 61, op := .build (List.replicate 5 (.i .i64 0) ++ [.b false]) [(0, 1, .c (.i .i64 2)), (1, 1, .c (.i .i64 1))] },
  { dst := some 62, op := .bsl true 1 (List.replicate 5 (.i .i64 0) ++ [.b false]) [(0, 6, .t 61)] },
  { dst := some 63, op := .app 6 48 (.t 60) (.t 62) },
  { dst := some 7, op := .mv (.t 63) }])
 (.seq (.reg false [{ dst := some 64, op := .mv (.t 7) },
  { dst := some 65, op := .bsl true 2 ([.i .i64 0, .i .i64 0]) [(0, 1, .c (.i .i64 0)), (1, 1, .c (.i .i64 2))] },
  { dst := some 66, op := .mv (.t 8) },
  { dst := some 67, op := .bsl true 2 ([.i .i64 0, .i .i64 0]) [(0, 1, .c (.i .i64 1)), (1, 1, .t 66)] },
  { dst := some 68, op := .bsl true 2 ([.sl [] 0 .rig, .sl [] 0 .rig]) [(0, 1, .t 65), (1, 1, .t 67)] },
  { dst := some 69, op := .build ([.i .i64 0] ++ List.replicate 7 (.sl [] 0 .rig)) [(0, 1, .c (.i .i64 2)), (1, 1, .t 64), (3, 1, .t 68)] },
  { dst := some 10, op := .new ([.i .i64 0] ++ List.replicate 7 (.sl [] 0 .rig)) },
  { dst := none, op := .st 8 (.t 10) (.t 69) }])
 (.seq (.seq (.reg false [{ dst := some 11, op := .mv (.c (.i .i64 0)) }])
 (.blk 0 (.loop (.seq (.seq (.reg false [{ dst := some 70, op := .mv (.t 11) },
  { dst := some 71, op := .mv (.t 7) },
  { dst := some 72, op := .len (.t 71) },
  { dst := some 73, op := .bin .lss (.t 70) (.t 72) }])
 (.cond (.t 73) .skip
 (.ext 0)))
 (.seq (.blk 1 (.reg false [{ dst := some 76, op := .fa 2 (.t 10) },
  { dst := some 77, op := .ld none (.t 76) },
  { dst := some 78, op := .bsl true 1 ([.i .i64 0]) [(0, 1, .c (.i .i64 (-1)))] },
  { dst := some 79, op := .app 1 8 (.t 77) (.t 78) },
  { dst := some 80, op := .fa 2 (.t 10) },
  { dst := none, op := .st 1 (.t 80) (.t 79) }]))
 (.reg false [{ dst := some 74, op := .mv (.t 11) },
  { dst := some 75, op := .bin .add (.t 74) (.c (.i .i64 1)) },
  { dst := some 11, op := .mv (.t 75) }]))))))
 (.seq (.reg true [{ dst := some 81, op := .fa 2 (.t 10) },
  { dst := some 82, op := .ld none (.t 81), pre := [] },
  { dst := some 83, op := .mv (.t 8) },
  { dst := some 84, op := .bin .add (.t 83) (.c (.i .i64 1)) },
  { dst := some 85, op := .fa 2 (.t 10) },
  { dst := some 86, op := .ld none (.t 85), pre := [] },
  { dst := some 87, op := .mv (.t 9) },
  { dst := some 88, op := .mv (.t 8) },
  { dst := some 89, op := .ia 1 (.t 82) (.t 84) },
  { dst := none, op := .st 1 (.t 89) (.t 88), pre := [] },
  { dst := some 90, op := .ia 1 (.t 86) (.t 87) },
  { dst := none, op := .st 1 (.t 90) (.c (.i .i64 0)), pre := [] }])
 (.seq (.reg false [{ dst := some 91, op := .mv (.t 5) },
  { dst := some 92, op := .bin .eql (.t 91) (.c (.i .i64 1)) },
  { dst := some 93, op := .mv (.t 92) },
  { dst := some 94, op := .mv (.t 5), grd := some (93, false) },
  { dst := some 95, op := .bin .geq (.t 94) (.c (.i .i64 3)), grd := some (93, false) },
  { dst := some 96, op := .pick (.t 93) (.c (.b true)) (.t 95) },
  { dst := some 97, op := .mv (.t 6) },
  { dst := some 98, op := .bin .eql (.t 97) (.c (.i .i64 1)) },
  { dst := some 99, op := .mv (.t 98) },
  { dst := some 100, op := .mv (.t 6), grd := some (99, false) },
  { dst := some 101, op := .bin .eql (.t 100) (.c (.i .i64 2)), grd := some (99, false) },
  { dst := some 102, op := .pick (.t 99) (.c (.b true)) (.t 101) },
  { dst := some 103, op := .mv (.t 102) },
  { dst := some 104, op := .mv (.t 6), grd := some (103, false) },
  { dst := some 105, op := .bin .geq (.t 104) (.c (.i .i64 4)), grd := some (103, false) },
  { dst := some 106, op := .pick (.t 103) (.c (.b true)) (.t 105) },
  { dst := some 12, op := .mv (.t 96) },
  { dst := some 13, op := .mv (.t 106) }])
 (.seq (.reg false [{ dst := some 107, op := .ld (some 8) (.t 10) },
  { dst := some 108, op := .call .pure (.c (.fn 148 [] [])) [.t 107] },
  { dst := some 109, op := .mv (.t 9) },
  { dst := some 110, op := .call .pure (.c (.fn 13 [] [])) [.t 108, .c (.i .i64 2), .t 109] },
  { dst := some 111, op := .mv (.t 12) },
  { dst := some 112, op := .mv (.t 111) },
  { dst := some 113, op := .mv (.t 13), grd := some (112, true) },
  { dst := some 114, op := .pick (.t 112) (.t 113) (.c (.b false)) },
  { dst := some 115, op := .eqb false (.t 110) (.t 114) },
  { dst := some 116, op := .mv (.t 115) },
  { dst := some 117, op := .ld (some 8) (.t 10), grd := some (116, true) },
  { dst := some 118, op := .call .pure (.c (.fn 149 [] [])) [.t 117], grd := some (116, true) },
  { dst := some 119, op := .call .pure (.c (.fn 15 [] [])) [.t 118], grd := some (116, true) },
  { dst := some 120, op := .len (.t 119), grd := some (116, true) },
  { dst := some 121, op := .bin .gtr (.t 120) (.c (.i .i64 0)), grd := some (116, true) },
  { dst := some 122, op := .mv (.t 12), grd := some (116, true) },
  { dst := some 123, op := .eqb false (.t 121) (.t 122), grd := some (116, true) },
  { dst := some 124, op := .pick (.t 116) (.t 123) (.c (.b false)) },
  { dst := some 125, op := .mv (.t 124) },
  { dst := some 126, op := .call .pure (.c (.fn 150 [] [])) [], grd := some (125, true) },
  { dst := some 127, op := .pick (.t 125) (.t 126) (.c (.b false)) },
  { dst := some 4, op := .mv (.t 127) }])
 .ret)))))))))))))))) }
def A_xlaw10_SyncAny : AFun := { res := [.t 2], body := (.seq (.reg false [{ dst := some 1, op := .box (.t 0) },
  { dst := some 2, op := .mv (.c (.b false)) }])
 (.seq (.seq (.reg false [{ dst := some 3, op := .ld (some 8) (.t 1) },
  { dst := some 4, op := .call .pure (.c (.fn 44 [] [])) [.t 3] },
  { dst := some 5, op := .un .not (.t 4) },
  { dst := some 6, op := .mv (.t 5) },
  { dst := some 7, op := .fa 1 (.t 1), grd := some (6, false) },
  { dst := some 8, op := .ld none (.t 7), grd := some (6, false) },
  { dst := some 9, op := .len (.t 8), grd := some (6, false) },
  { dst := some 10, op := .bin .gtr (.t 9) (.c (.i .i64 20)), grd := some (6, false) },
  { dst := some 11, op := .pick (.t 6) (.c (.b true)) (.t 10) },
  { dst := some 12, op := .mv (.t 11) },
  { dst := some 13, op := .ld (some 8) (.t 1), grd := some (12, false) },
  { dst := some 14, op := .call .pure (.c (.fn 45 [] [])) [.t 13], grd := some (12, false) },
  { dst := some 15, op := .un .not (.t 14), grd := some (12, false) },
  { dst := some 16, op := .pick (.t 12) (.c (.b true)) (.t 15) }])
 (.cond (.t 16) (.seq (.reg false [{ dst := some 17, op := .call .pure (.c (.fn 150 [] [])) [] },
  { dst := some 2, op := .mv (.t 17) }])
 .ret)
 .skip))
 (.seq (.reg false [{ dst := some 18, op := .ld (some 8) (.t 1) },
  { dst := some 19, op := .call .pure (.c (.fn 151 [] [])) [.t 18] },
  { dst := some 20, op := .mv (.t 19) },
  { dst := some 21, op := .call .pure (.c (.fn 150 [] [])) [], grd := some (20, true) },
  { dst := some 22, op := .pick (.t 20) (.t 21) (.c (.b false)) },
  { dst := some 2, op := .mv (.t 22) }])
 .ret))) }
def A_xlaw10_awake : AFun := { res := [.t 0], body := (.seq (.reg false [{ dst := some 0, op := .mv (.c (.b false)) }])
 (.seq (.reg false [{ dst := some 2, op := .call .pure (.c (.fn 180 [] [])) [.c (.i .i64 2), .c (.i .i64 1)] },
  { dst := some 1, op := .new ([.i .i64 0] ++ List.replicate 7 (.sl [] 0 .rig)) },
  { dst := none, op := .st 8 (.t 1) (.t 2) }])
 (.seq (.reg false [{ dst := some 3, op := .ld (some 8) (.t 1) },
  { dst := some 4, op := .call .pure (.c (.fn 176 [] [])) [.t 3] },
  { dst := some 5, op := .call .pure (.c (.fn 13 [] [])) [.t 4, .c (.i .i64 3), .c (.i .i64 4)] },
  { dst := some 6, op := .mv (.t 5) },
  { dst := some 7, op := .ld (some 8) (.t 1), grd := some (6, true) },
  { dst := some 8, op := .call .pure (.c (.fn 148 [] [])) [.t 7], grd := some (6, true) },
  { dst := some 9, op := .call .pure (.c (.fn 13 [] [])) [.t 8, .c (.i .i64 2), .c (.i .i64 5)], grd := some (6, true) },
  { dst := some 10, op := .pick (.t 6) (.t 9) (.c (.b false)) },
  { dst := some 11, op := .mv (.t 10) },
  { dst := some 12, op := .call .pure (.c (.fn 180 [] [])) [.c (.i .i64 0), .c (.i .i64 1)], grd := some (11, true) },
  { dst := some 13, op := .call .pure (.c (.fn 176 [] [])) [.t 12], grd := some (11, true) },
  { dst := some 14, op := .call .pure (.c (.fn 13 [] [])) [.t 13, .c (.i .i64 3), .c (.i .i64 4)], grd := some (11, true) },
  { dst := some 15, op := .un .not (.t 14), grd := some (11, true) },
  { dst := some 16, op := .pick (.t 11) (.t 15) (.c (.b false)) },
  { dst := some 17, op := .mv (.t 16) },
  { dst := some 18, op := .ld (some 8) (.t 1), grd := some (17, true) },
  { dst := some 19, op := .call .pure (.c (.fn 149 [] [])) [.t 18], grd := some (17, true) },
  { dst := some 20, op := .call .pure (.c (.fn 13 [] [])) [.t 19, .c (.i .i64 3), .c (.i .i64 3)], grd := some (17, true) },
  { dst := some 21, op := .pick (.t 17) (.t 20) (.c (.b false)) },
  { dst := some 22, op := .mv (.t 21) },
  { dst := some 23, op := .ld (some 8) (.t 1), grd := some (22, true) },
  { dst := some 24, op := .call .pure (.c (.fn 179 [] [])) [.t 23], grd := some (22, true) },
  { dst := some 25, op := .call .pure (.c (.fn 13 [] [])) [.t 24, .c (.i .i64 3), .c (.i .i64 3)], grd := some (22, true) },
  { dst := some 26, op := .pick (.t 22) (.t 25) (.c (.b false)) },
  { dst := some 0, op := .mv (.t 26) }])
 .ret))) }
def A_xlaw10_all : AFun := { res := [.t 2], body := (.seq (.reg false [{ dst := some 1, op := .box (.t 0) },
  { dst := some 2, op := .mv (.c (.b false)) }])
 (.seq (.reg true [{ dst := some 3, op := .ld (some 8) (.t 1), pre := [] },
  { dst := some 4, op := .call .pure (.c (.fn 179 [] [])) [.t 3], pre := [] },
  { dst := some 5, op := .ld (some 8) (.t 1), pre := [] },
  { dst := some 6, op := .call .pure (.c (.fn 182 [] [])) [.t 5], pre := [] },
  { dst := some 7, op := .call .pure (.c (.fn 181 [] [])) [.t 4, .t 6], pre := [] },
  { dst := some 8, op := .mv (.t 7) },
  { dst := some 9, op := .ld (some 8) (.t 1), grd := some (8, true), pre := [] },
  { dst := some 10, op := .call .pure (.c (.fn 149 [] [])) [.t 9], grd := some (8, true), pre := [] },
  { dst := some 11, op := .ld (some 8) (.t 1), grd := some (8, true), pre := [] },
  { dst := some 12, op := .call .pure (.c (.fn 183 [] [])) [.t 11], grd := some (8, true), pre := [] },
  { dst := some 13, op := .call .pure (.c (.fn 181 [] [])) [.t 10, .t 12], grd := some (8, true), pre := [] },
  { dst := some 14, op := .pick (.t 8) (.t 13) (.c (.b false)) },
  { dst := some 15, op := .mv (.t 14) },
  { dst := some 16, op := .ld (some 8) (.t 1), grd := some (15, true), pre := [] },
  { dst := some 17, op := .call .pure (.c (.fn 176 [] [])) [.t 16], grd := some (15, true), pre := [] },
  { dst := some 18, op := .ld (some 8) (.t 1), grd := some (15, true), pre := [] },
  { dst := some 19, op := .call .pure (.c (.fn 184 [] [])) [.t 18], grd := some (15, true), pre := [] },
  { dst := some 20, op := .call .pure (.c (.fn 181 [] [])) [.t 17, .t 19], grd := some (15, true), pre := [] },
  { dst := some 21, op := .pick (.t 15) (.t 20) (.c (.b false)) },
  { dst := some 22, op := .mv (.t 21) },
  { dst := some 23, op := .ld (some 8) (.t 1), grd := some (22, true), pre := [] },
  { dst := some 24, op := .call .pure (.c (.fn 148 [] [])) [.t 23], grd := some (22, true), pre := [] },
  { dst := some 25, op := .ld (some 8) (.t 1), grd := some (22, true), pre := [] },
  { dst := some 26, op := .call .pure (.c (.fn 185 [] [])) [.t 25], grd := some (22, true), pre := [] },
  { dst := some 27, op := .call .pure (.c (.fn 181 [] [])) [.t 24, .t 26], grd := some (22, true), pre := [] },
  { dst := some 28, op := .pick (.t 22) (.t 27) (.c (.b false)) },
  { dst := some 2, op := .mv (.t 28) }])
 .ret)) }
def A_xlaw10_handed : AFun := { res := [.cell 4 (some 8)], body := (.seq (.reg false [{ dst := some 4, op := .new ([.i .i64 0] ++ List.replicate 7 (.sl [] 0 .rig)) }])
 (.seq (.reg false [{ dst := some 6, op := .build (List.replicate 5 (.i .i64 0) ++ [.b false]) [(1, 1, .c (.i .i64 2))] },
  { dst := some 7, op := .build (List.replicate 5 (.i .i64 0) ++ [.b false]) [(1, 1, .c (.i .i64 2)), (3, 1, .c (.i .i64 1))] },
  { dst := some 8, op := .build (List.replicate 5 (.i .i64 0) ++ [.b false]) [(0, 1, .c (.i .i64 1)), (1, 1, .c (.i .i64 2)), (4, 1, .c (.i .i64 1))] },
  { dst := some 9, op := .mv (.t 0) },
  { dst := some 10, op := .build (List.replicate 5 (.i .i64 0) ++ [.b false]) [(0, 1, .c (.i .i64 1)), (1, 1, .c (.i .i64 2)), (2, 1, .t 9), (3, 1, .c (.i .i64 1)), (4, 1, .c (.i .i64 1))] },
  { dst := some 11, op := .mv (.t 1) },
  { dst := some 12, op := .build (List.replicate 5 (.i .i64 0) ++ [.b false]) [(0, 1, .c (.i .i64 2)), (1, 1, .c (.i .i64 1)), (2, 1, .t 11), (3, 1, .c (.i .i64 1)), (4, 1, .c (.i .i64 1))] },
  { dst := some 13, op := .build (List.replicate 5 (.i .i64 0) ++ [.b false]) [(0, 1, .c (.i .i64 2)), (1, 1, .c (.i .i64 1))] },
  { dst := some 14, op := .bsl true 6 (List.replicate 5 (.i .i64 0) ++ [.b false] ++ List.replicate 5 (.i .i64 0) ++ [.b false] ++ List.replicate 5 (.i .i64 0) ++ [.b false] ++ List.replicate 5 (.i .i64 0) ++ [.b false] ++ List.replicate 5 (.i .i64 0) ++ [.b false] ++ List.replicate 5 (.i .i64 0) ++ [.b false]) [(0, 6, .t 6), (6, 6, .t 7), (12, 6, .t 8), (18, 6, .t 10), (24, 6, .t 12), (30, 6, .t 13)] },
  { dst := some 5, op := .mv (.t 14) }])
 (.seq (.reg false [{ dst := some 15, op := .mv (.t 5) },
  { dst := some 16, op := .bsl true 6 (List.replicate 6 (.i .i64 0)) [(0, 1, .c (.i .i64 (-1))), (1, 1, .c (.i .i64 (-1))), (2, 1, .c (.i .i64 (-1))), (3, 1, .c (.i .i64 (-1))), (4, 1, .c (.i .i64 3)), (5, 1, .c (.i .i64 0))] },
  { dst := some 17, op := .bsl true 2 ([.i .i64 0, .i .i64 0]) [(0, 1, .c (.i .i64 0)), (1, 1, .c (.i .i64 2))] },
  { dst := some 18, op := .bsl true 2 ([.i .i64 0, .i .i64 0]) [(0, 1, .c (.i .i64 1)), (1, 1, .c (.i .i64 3))] },
  { dst := some 19, op := .bsl true 2 ([.sl [] 0 .rig, .sl [] 0 .rig]) [(0, 1, .t 17), (1, 1, .t 18)] },
  { dst := some 20, op := .build ([.i .i64 0] ++ List.replicate 7 (.sl [] 0 .rig)) [(0, 1, .c (.i .i64 2)), (1, 1, .t 15), (2, 1, .t 16), (3, 1, .t 19)] },
  { dst := none, op := .st 8 (.t 4) (.t 20) }])
 .ret))) }
def A_xlaw10_same : AFun := { res := [.t 4], body := (.seq (.reg false [{ dst := some 4, op := .mv (.c (.b false)) }])
 (.seq (.reg true [{ dst := some 5, op := .mv (.t 0) },
  { dst := some 6, op := .eqn true (.t 5) (.c (.nilp)) },
  { dst := some 7, op := .mv (.t 6) },
  { dst := some 8, op := .mv (.t 0), grd := some (7, true) },
  { dst := some 9, op := .call .pure (.c (.fn 17 [] [])) [.t 8], grd := some (7, true), pre := [] },
  { dst := some 10, op := .mv (.t 1), grd := some (7, true) },
  { dst := some 11, op := .nilck (.t 10), grd := some (7, true) },
  { dst := some 12, op := .fa 0 (.t 11), grd := some (7, true) },
  { dst := some 13, op := .ld none (.t 12), grd := some (7, true), pre := [] },
  { dst := some 14, op := .bin .eql (.t 9) (.t 13), grd := some (7, true) },
  { dst := some 15, op := .pick (.t 7) (.t 14) (.c (.b false)) },
  { dst := some 16, op := .mv (.t 15) },
  { dst := some 17, op := .mv (.t 0), grd := some (16, true) },
  { dst := some 18, op := .call .pure (.c (.fn 15 [] [])) [.t 17], grd := some (16, true), pre := [] },
  { dst := some 19, op := .mv (.t 1), grd := some (16, true) },
  { dst := some 20, op := .call .pure (.c (.fn 56 [] [])) [.t 19], grd := some (16, true), pre := [] },
  { dst := some 21, op := .call .pure (.c (.fn 55 [] [])) [.t 18, .t 20], grd := some (16, true), pre := [] },
  { dst := some 22, op := .pick (.t 16) (.t 21) (.c (.b false)) },
  { dst := some 4, op := .mv (.t 22) }])
 .ret)) }
structure Pk_xlaw10 (F : Funs) : Prop where
  xlaw10_SyncModes : F 136 = some A_xlaw10_SyncModes
  xlaw10_SyncAny : F 137 = some A_xlaw10_SyncAny
  xlaw10_awake : F 150 = some A_xlaw10_awake
  xlaw10_all : F 151 = some A_xlaw10_all
  xlaw10_handed : F 180 = some A_xlaw10_handed
  xlaw10_same : F 181 = some A_xlaw10_same
end Go.Ab
end
section
/- The functions that are reached, asx resolved, held against the program (written by a program, tab.py). -/
set_option maxRecDepth 100000
set_option linter.unusedVariables false
namespace Go.Proofs.Ytkiecemdbkjccaa
open Go.Ab
def tab : List (Nat × Nat × AFun) := [(11, 115, A_rel_New),
 (12, 31, A_rel_Rel_Plus),
 (13, 15, A_rel_Rel_Has),
 (14, 30, A_rel_Rel_Loops),
 (15, 24, A_rel_Rel_Pairs),
 (16, 139, A_rel_Rel_Maybe),
 (17, 131, A_rel_Rel_Len),
 (18, 119, A_rel_Rel_And),
 (22, 32, A_rel_Rel_In),
 (23, 48, A_rel_Rel_Then),
 (24, 49, A_rel_Rel_Or),
 (26, 82, A_rel_Rel_Less),
 (27, 127, A_xref01_New),
 (29, 128, A_xref01_R_Or),
 (30, 135, A_xref01_R_And),
 (31, 177, A_xref01_R_Less),
 (32, 124, A_xref01_R_Then),
 (33, 182, A_xref01_R_Back),
 (34, 151, A_xref01_R_Plus),
 (35, 143, A_xref01_R_Maybe),
 (36, 130, A_xref01_R_In),
 (39, 114, A_eco_Inner),
 (40, 96, A_eco_Outer),
 (41, 93, A_eco_Loc),
 (42, 162, A_eco_Eco),
 (44, 19, A_xlaw00_FewGraph),
 (45, 20, A_xref06_Check),
 (48, 97, A_eco_Rf),
 (49, 53, A_eco_Co),
 (50, 52, A_eco_Fr),
 (51, 117, A_rel_Rel_by),
 (52, 169, A_rel_Rel_And_1),
 (53, 118, A_rel_Rel_Or_1),
 (54, 156, A_rel_Rel_Less_1),
 (55, 132, A_xref01_SamePairs),
 (56, 133, A_xref01_R_Pairs),
 (57, 158, A_eco_some),
 (58, 167, A_eco_Inner_1),
 (59, 160, A_eco_Outer_1),
 (60, 28, A_graph_Po),
 (61, 159, A_eco_Loc_1),
 (63, 54, A_xref06_event),
 (64, 55, A_xref06_rf),
 (65, 56, A_xref06_co),
 (66, 57, A_xref06_rmw),
 (67, 58, A_xref06_deps),
 (69, 126, A_xref09_Rf),
 (70, 179, A_xref09_Co),
 (71, 178, A_xref09_Fr),
 (73, 142, A_xref09_Loc),
 (74, 125, A_xref09_Inner),
 (75, 148, A_xref09_Outer),
 (80, 120, A_eco_pairs),
 (81, 81, A_graph_Of),
 (82, 121, A_xref06_rising),
 (84, 147, A_xref06_Po),
 (85, 175, A_xref09_part),
 (92, 170, A_eco_pairs_1),
 (93, 171, A_eco_pairs_2),
 (94, 172, A_eco_pairs_3),
 (95, 173, A_eco_pairs_4),
 (96, 174, A_eco_pairs_5),
 (137, 7, A_xlaw10_SyncAny),
 (148, 22, A_sync_Hb),
 (149, 23, A_sync_Release),
 (150, 25, A_xlaw10_awake),
 (151, 26, A_xlaw10_all),
 (166, 45, A_graph_Set),
 (176, 64, A_sync_Sw),
 (177, 65, A_sync_then),
 (178, 66, A_sync_set),
 (179, 67, A_sync_Rs),
 (180, 68, A_xlaw10_handed),
 (181, 69, A_xlaw10_same),
 (182, 70, A_xref10_Rs),
 (183, 71, A_xref10_Release),
 (184, 72, A_xref10_Sw),
 (185, 73, A_xref10_Hb),
 (223, 123, A_xref06_Of),
 (225, 134, A_xref06_Kind),
 (229, 140, A_sync_set_1),
 (230, 141, A_xref10_W),
 (231, 144, A_xref01_R_Star),
 (232, 145, A_xref10_Wrel),
 (233, 146, A_xref10_Frel),
 (234, 149, A_xref10_Racq),
 (235, 150, A_xref10_Facq)]
def num (f : Nat) : Nat := ((tab.find? (fun r => r.1 == f)).map (·.2.1)).getD 0
def funs : Funs := fun f => (tab.find? (fun r => r.1 == f)).map (·.2.2)
theorem c11 : funB Try.prog num Try.f115 A_rel_New = true := by kernel_rfl
theorem c12 : funB Try.prog num Try.f31 A_rel_Rel_Plus = true := by kernel_rfl
theorem c13 : funB Try.prog num Try.f15 A_rel_Rel_Has = true := by kernel_rfl
theorem c14 : funB Try.prog num Try.f30 A_rel_Rel_Loops = true := by kernel_rfl
theorem c15 : funB Try.prog num Try.f24 A_rel_Rel_Pairs = true := by kernel_rfl
theorem c16 : funB Try.prog num Try.f139 A_rel_Rel_Maybe = true := by kernel_rfl
theorem c17 : funB Try.prog num Try.f131 A_rel_Rel_Len = true := by kernel_rfl
theorem c18 : funB Try.prog num Try.f119 A_rel_Rel_And = true := by kernel_rfl
theorem c22 : funB Try.prog num Try.f32 A_rel_Rel_In = true := by kernel_rfl
theorem c23 : funB Try.prog num Try.f48 A_rel_Rel_Then = true := by kernel_rfl
theorem c24 : funB Try.prog num Try.f49 A_rel_Rel_Or = true := by kernel_rfl
theorem c26 : funB Try.prog num Try.f82 A_rel_Rel_Less = true := by kernel_rfl
theorem c27 : funB Try.prog num Try.f127 A_xref01_New = true := by kernel_rfl
theorem c29 : funB Try.prog num Try.f128 A_xref01_R_Or = true := by kernel_rfl
theorem c30 : funB Try.prog num Try.f135 A_xref01_R_And = true := by kernel_rfl
theorem c31 : funB Try.prog num Try.f177 A_xref01_R_Less = true := by kernel_rfl
theorem c32 : funB Try.prog num Try.f124 A_xref01_R_Then = true := by kernel_rfl
theorem c33 : funB Try.prog num Try.f182 A_xref01_R_Back = true := by kernel_rfl
theorem c34 : funB Try.prog num Try.f151 A_xref01_R_Plus = true := by kernel_rfl
theorem c35 : funB Try.prog num Try.f143 A_xref01_R_Maybe = true := by kernel_rfl
theorem c36 : funB Try.prog num Try.f130 A_xref01_R_In = true := by kernel_rfl
theorem c39 : funB Try.prog num Try.f114 A_eco_Inner = true := by kernel_rfl
theorem c40 : funB Try.prog num Try.f96 A_eco_Outer = true := by kernel_rfl
theorem c41 : funB Try.prog num Try.f93 A_eco_Loc = true := by kernel_rfl
theorem c42 : funB Try.prog num Try.f162 A_eco_Eco = true := by kernel_rfl
theorem c44 : funB Try.prog num Try.f19 A_xlaw00_FewGraph = true := by kernel_rfl
theorem c45 : funB Try.prog num Try.f20 A_xref06_Check = true := by kernel_rfl
theorem c48 : funB Try.prog num Try.f97 A_eco_Rf = true := by kernel_rfl
theorem c49 : funB Try.prog num Try.f53 A_eco_Co = true := by kernel_rfl
theorem c50 : funB Try.prog num Try.f52 A_eco_Fr = true := by kernel_rfl
theorem c51 : funB Try.prog num Try.f117 A_rel_Rel_by = true := by kernel_rfl
theorem c52 : funB Try.prog num Try.f169 A_rel_Rel_And_1 = true := by kernel_rfl
theorem c53 : funB Try.prog num Try.f118 A_rel_Rel_Or_1 = true := by kernel_rfl
theorem c54 : funB Try.prog num Try.f156 A_rel_Rel_Less_1 = true := by kernel_rfl
theorem c55 : funB Try.prog num Try.f132 A_xref01_SamePairs = true := by kernel_rfl
theorem c56 : funB Try.prog num Try.f133 A_xref01_R_Pairs = true := by kernel_rfl
theorem c57 : funB Try.prog num Try.f158 A_eco_some = true := by kernel_rfl
theorem c58 : funB Try.prog num Try.f167 A_eco_Inner_1 = true := by kernel_rfl
theorem c59 : funB Try.prog num Try.f160 A_eco_Outer_1 = true := by kernel_rfl
theorem c60 : funB Try.prog num Try.f28 A_graph_Po = true := by kernel_rfl
theorem c61 : funB Try.prog num Try.f159 A_eco_Loc_1 = true := by kernel_rfl
theorem c63 : funB Try.prog num Try.f54 A_xref06_event = true := by kernel_rfl
theorem c64 : funB Try.prog num Try.f55 A_xref06_rf = true := by kernel_rfl
theorem c65 : funB Try.prog num Try.f56 A_xref06_co = true := by kernel_rfl
theorem c66 : funB Try.prog num Try.f57 A_xref06_rmw = true := by kernel_rfl
theorem c67 : funB Try.prog num Try.f58 A_xref06_deps = true := by kernel_rfl
theorem c69 : funB Try.prog num Try.f126 A_xref09_Rf = true := by kernel_rfl
theorem c70 : funB Try.prog num Try.f179 A_xref09_Co = true := by kernel_rfl
theorem c71 : funB Try.prog num Try.f178 A_xref09_Fr = true := by kernel_rfl
theorem c73 : funB Try.prog num Try.f142 A_xref09_Loc = true := by kernel_rfl
theorem c74 : funB Try.prog num Try.f125 A_xref09_Inner = true := by kernel_rfl
theorem c75 : funB Try.prog num Try.f148 A_xref09_Outer = true := by kernel_rfl
theorem c80 : funB Try.prog num Try.f120 A_eco_pairs = true := by kernel_rfl
theorem c81 : funB Try.prog num Try.f81 A_graph_Of = true := by kernel_rfl
theorem c82 : funB Try.prog num Try.f121 A_xref06_rising = true := by kernel_rfl
theorem c84 : funB Try.prog num Try.f147 A_xref06_Po = true := by kernel_rfl
theorem c85 : funB Try.prog num Try.f175 A_xref09_part = true := by kernel_rfl
theorem c92 : funB Try.prog num Try.f170 A_eco_pairs_1 = true := by kernel_rfl
theorem c93 : funB Try.prog num Try.f171 A_eco_pairs_2 = true := by kernel_rfl
theorem c94 : funB Try.prog num Try.f172 A_eco_pairs_3 = true := by kernel_rfl
theorem c95 : funB Try.prog num Try.f173 A_eco_pairs_4 = true := by kernel_rfl
theorem c96 : funB Try.prog num Try.f174 A_eco_pairs_5 = true := by kernel_rfl
theorem c137 : funB Try.prog num Try.f7 A_xlaw10_SyncAny = true := by kernel_rfl
theorem c148 : funB Try.prog num Try.f22 A_sync_Hb = true := by kernel_rfl
theorem c149 : funB Try.prog num Try.f23 A_sync_Release = true := by kernel_rfl
theorem c150 : funB Try.prog num Try.f25 A_xlaw10_awake = true := by kernel_rfl
theorem c151 : funB Try.prog num Try.f26 A_xlaw10_all = true := by kernel_rfl
theorem c166 : funB Try.prog num Try.f45 A_graph_Set = true := by kernel_rfl
theorem c176 : funB Try.prog num Try.f64 A_sync_Sw = true := by kernel_rfl
theorem c177 : funB Try.prog num Try.f65 A_sync_then = true := by kernel_rfl
theorem c178 : funB Try.prog num Try.f66 A_sync_set = true := by kernel_rfl
theorem c179 : funB Try.prog num Try.f67 A_sync_Rs = true := by kernel_rfl
theorem c180 : funB Try.prog num Try.f68 A_xlaw10_handed = true := by kernel_rfl
theorem c181 : funB Try.prog num Try.f69 A_xlaw10_same = true := by kernel_rfl
theorem c182 : funB Try.prog num Try.f70 A_xref10_Rs = true := by kernel_rfl
theorem c183 : funB Try.prog num Try.f71 A_xref10_Release = true := by kernel_rfl
theorem c184 : funB Try.prog num Try.f72 A_xref10_Sw = true := by kernel_rfl
theorem c185 : funB Try.prog num Try.f73 A_xref10_Hb = true := by kernel_rfl
theorem c223 : funB Try.prog num Try.f123 A_xref06_Of = true := by kernel_rfl
theorem c225 : funB Try.prog num Try.f134 A_xref06_Kind = true := by kernel_rfl
theorem c229 : funB Try.prog num Try.f140 A_sync_set_1 = true := by kernel_rfl
theorem c230 : funB Try.prog num Try.f141 A_xref10_W = true := by kernel_rfl
theorem c231 : funB Try.prog num Try.f144 A_xref01_R_Star = true := by kernel_rfl
theorem c232 : funB Try.prog num Try.f145 A_xref10_Wrel = true := by kernel_rfl
theorem c233 : funB Try.prog num Try.f146 A_xref10_Frel = true := by kernel_rfl
theorem c234 : funB Try.prog num Try.f149 A_xref10_Racq = true := by kernel_rfl
theorem c235 : funB Try.prog num Try.f150 A_xref10_Facq = true := by kernel_rfl
def Good (r : Nat × Nat × AFun) : Prop := num r.1 = r.2.1 ∧ ∃ fn, Try.prog.funcs[r.2.1]? = some fn ∧ funB Try.prog num fn r.2.2 = true
theorem good : ∀ r ∈ tab, Good r := by
  intro r hr
  unfold tab at hr
  rcases List.mem_cons.1 hr with rfl | hr
  · exact ⟨by kernel_rfl, _, Try.func115, c11⟩
  rcases List.mem_cons.1 hr with rfl | hr
  · exact ⟨by kernel_rfl, _, Try.func31, c12⟩
  rcases List.mem_cons.1 hr with rfl | hr
  · exact ⟨by kernel_rfl, _, Try.func15, c13⟩
  rcases List.mem_cons.1 hr with rfl | hr
  · exact ⟨by kernel_rfl, _, Try.func30, c14⟩
  rcases List.mem_cons.1 hr with rfl | hr
  · exact ⟨by kernel_rfl, _, Try.func24, c15⟩
  rcases List.mem_cons.1 hr with rfl | hr
  · exact ⟨by kernel_rfl, _, Try.func139, c16⟩
  rcases List.mem_cons.1 hr with rfl | hr
  · exact ⟨by kernel_rfl, _, Try.func131, c17⟩
  rcases List.mem_cons.1 hr with rfl | hr
  · exact ⟨by kernel_rfl, _, Try.func119, c18⟩
  rcases List.mem_cons.1 hr with rfl | hr
  · exact ⟨by kernel_rfl, _, Try.func32, c22⟩
  rcases List.mem_cons.1 hr with rfl | hr
  · exact ⟨by kernel_rfl, _, Try.func48, c23⟩
  rcases List.mem_cons.1 hr with rfl | hr
  · exact ⟨by kernel_rfl, _, Try.func49, c24⟩
  rcases List.mem_cons.1 hr with rfl | hr
  · exact ⟨by kernel_rfl, _, Try.func82, c26⟩
  rcases List.mem_cons.1 hr with rfl | hr
  · exact ⟨by kernel_rfl, _, Try.func127, c27⟩
  rcases List.mem_cons.1 hr with rfl | hr
  · exact ⟨by kernel_rfl, _, Try.func128, c29⟩
  rcases List.mem_cons.1 hr with rfl | hr
  · exact ⟨by kernel_rfl, _, Try.func135, c30⟩
  rcases List.mem_cons.1 hr with rfl | hr
  · exact ⟨by kernel_rfl, _, Try.func177, c31⟩
  rcases List.mem_cons.1 hr with rfl | hr
  · exact ⟨by kernel_rfl, _, Try.func124, c32⟩
  rcases List.mem_cons.1 hr with rfl | hr
  · exact ⟨by kernel_rfl, _, Try.func182, c33⟩
  rcases List.mem_cons.1 hr with rfl | hr
  · exact ⟨by kernel_rfl, _, Try.func151, c34⟩
  rcases List.mem_cons.1 hr with rfl | hr
  · exact ⟨by kernel_rfl, _, Try.func143, c35⟩
  rcases List.mem_cons.1 hr with rfl | hr
  · exact ⟨by kernel_rfl, _, Try.func130, c36⟩
  rcases List.mem_cons.1 hr with rfl | hr
  · exact ⟨by kernel_rfl, _, Try.func114, c39⟩
  rcases List.mem_cons.1 hr with rfl | hr
  · exact ⟨by kernel_rfl, _, Try.func96, c40⟩
  rcases List.mem_cons.1 hr with rfl | hr
  · exact ⟨by kernel_rfl, _, Try.func93, c41⟩
  rcases List.mem_cons.1 hr with rfl | hr
  · exact ⟨by kernel_rfl, _, Try.func162, c42⟩
  rcases List.mem_cons.1 hr with rfl | hr
  · exact ⟨by kernel_rfl, _, Try.func19, c44⟩
  rcases List.mem_cons.1 hr with rfl | hr
  · exact ⟨by kernel_rfl, _, Try.func20, c45⟩
  rcases List.mem_cons.1 hr with rfl | hr
  · exact ⟨by kernel_rfl, _, Try.func97, c48⟩
  rcases List.mem_cons.1 hr with rfl | hr
  · exact ⟨by kernel_rfl, _, Try.func53, c49⟩
  rcases List.mem_cons.1 hr with rfl | hr
  · exact ⟨by kernel_rfl, _, Try.func52, c50⟩
  rcases List.mem_cons.1 hr with rfl | hr
  · exact ⟨by kernel_rfl, _, Try.func117, c51⟩
  rcases List.mem_cons.1 hr with rfl | hr
  · exact ⟨by kernel_rfl, _, Try.func169, c52⟩
  rcases List.mem_cons.1 hr with rfl | hr
  · exact ⟨by kernel_rfl, _, Try.func118, c53⟩
  rcases List.mem_cons.1 hr with rfl | hr
  · exact ⟨by kernel_rfl, _, Try.func156, c54⟩
  rcases List.mem_cons.1 hr with rfl | hr
  · exact ⟨by kernel_rfl, _, Try.func132, c55⟩
  rcases List.mem_cons.1 hr with rfl | hr
  · exact ⟨by kernel_rfl, _, Try.func133, c56⟩
  rcases List.mem_cons.1 hr with rfl | hr
  · exact ⟨by kernel_rfl, _, Try.func158, c57⟩
  rcases List.mem_cons.1 hr with rfl | hr
  · exact ⟨by kernel_rfl, _, Try.func167, c58⟩
  rcases List.mem_cons.1 hr with rfl | hr
  · exact ⟨by kernel_rfl, _, Try.func160, c59⟩
  rcases List.mem_cons.1 hr with rfl | hr
  · exact ⟨by kernel_rfl, _, Try.func28, c60⟩
  rcases List.mem_cons.1 hr with rfl | hr
  · exact ⟨by kernel_rfl, _, Try.func159, c61⟩
  rcases List.mem_cons.1 hr with rfl | hr
  · exact ⟨by kernel_rfl, _, Try.func54, c63⟩
  rcases List.mem_cons.1 hr with rfl | hr
  · exact ⟨by kernel_rfl, _, Try.func55, c64⟩
  rcases List.mem_cons.1 hr with rfl | hr
  · exact ⟨by kernel_rfl, _, Try.func56, c65⟩
  rcases List.mem_cons.1 hr with rfl | hr
  · exact ⟨by kernel_rfl, _, Try.func57, c66⟩
  rcases List.mem_cons.1 hr with rfl | hr
  · exact ⟨by kernel_rfl, _, Try.func58, c67⟩
  rcases List.mem_cons.1 hr with rfl | hr
  · exact ⟨by kernel_rfl, _, Try.func126, c69⟩
  rcases List.mem_cons.1 hr with rfl | hr
  · exact ⟨by kernel_rfl, _, Try.func179, c70⟩
  rcases List.mem_cons.1 hr with rfl | hr
  · exact ⟨by kernel_rfl, _, Try.func178, c71⟩
  rcases List.mem_cons.1 hr with rfl | hr
  · exact ⟨by kernel_rfl, _, Try.func142, c73⟩
  rcases List.mem_cons.1 hr with rfl | hr
  · exact ⟨by kernel_rfl, _, Try.func125, c74⟩
  rcases List.mem_cons.1 hr with rfl | hr
  · exact ⟨by kernel_rfl, _, Try.func148, c75⟩
  rcases List.mem_cons.1 hr with rfl | hr
  · exact ⟨by kernel_rfl, _, Try.func120, c80⟩
  rcases List.mem_cons.1 hr with rfl | hr
  · exact ⟨by kernel_rfl, _, Try.func81, c81⟩
  rcases List.mem_cons.1 hr with rfl | hr
  · exact ⟨by kernel_rfl, _, Try.func121, c82⟩
  rcases List.mem_cons.1 hr with rfl | hr
  · exact ⟨by kernel_rfl, _, Try.func147, c84⟩
  rcases List.mem_cons.1 hr with rfl | hr
  · exact ⟨by kernel_rfl, _, Try.func175, c85⟩
  rcases List.mem_cons.1 hr with rfl | hr
  · exact ⟨by kernel_rfl, _, Try.func170, c92⟩
  rcases List.mem_cons.1 hr with rfl | hr
  · exact ⟨by kernel_rfl, _, Try.func171, c93⟩
  rcases List.mem_cons.1 hr with rfl | hr
  · exact ⟨by kernel_rfl, _, Try.func172, c94⟩
  rcases List.mem_cons.1 hr with rfl | hr
  · exact ⟨by kernel_rfl, _, Try.func173, c95⟩
  rcases List.mem_cons.1 hr with rfl | hr
  · exact ⟨by kernel_rfl, _, Try.func174, c96⟩
  rcases List.mem_cons.1 hr with rfl | hr
  · exact ⟨by kernel_rfl, _, Try.func7, c137⟩
  rcases List.mem_cons.1 hr with rfl | hr
  · exact ⟨by kernel_rfl, _, Try.func22, c148⟩
  rcases List.mem_cons.1 hr with rfl | hr
  · exact ⟨by kernel_rfl, _, Try.func23, c149⟩
  rcases List.mem_cons.1 hr with rfl | hr
  · exact ⟨by kernel_rfl, _, Try.func25, c150⟩
  rcases List.mem_cons.1 hr with rfl | hr
  · exact ⟨by kernel_rfl, _, Try.func26, c151⟩
  rcases List.mem_cons.1 hr with rfl | hr
  · exact ⟨by kernel_rfl, _, Try.func45, c166⟩
  rcases List.mem_cons.1 hr with rfl | hr
  · exact ⟨by kernel_rfl, _, Try.func64, c176⟩
  rcases List.mem_cons.1 hr with rfl | hr
  · exact ⟨by kernel_rfl, _, Try.func65, c177⟩
  rcases List.mem_cons.1 hr with rfl | hr
  · exact ⟨by kernel_rfl, _, Try.func66, c178⟩
  rcases List.mem_cons.1 hr with rfl | hr
  · exact ⟨by kernel_rfl, _, Try.func67, c179⟩
  rcases List.mem_cons.1 hr with rfl | hr
  · exact ⟨by kernel_rfl, _, Try.func68, c180⟩
  rcases List.mem_cons.1 hr with rfl | hr
  · exact ⟨by kernel_rfl, _, Try.func69, c181⟩
  rcases List.mem_cons.1 hr with rfl | hr
  · exact ⟨by kernel_rfl, _, Try.func70, c182⟩
  rcases List.mem_cons.1 hr with rfl | hr
  · exact ⟨by kernel_rfl, _, Try.func71, c183⟩
  rcases List.mem_cons.1 hr with rfl | hr
  · exact ⟨by kernel_rfl, _, Try.func72, c184⟩
  rcases List.mem_cons.1 hr with rfl | hr
  · exact ⟨by kernel_rfl, _, Try.func73, c185⟩
  rcases List.mem_cons.1 hr with rfl | hr
  · exact ⟨by kernel_rfl, _, Try.func123, c223⟩
  rcases List.mem_cons.1 hr with rfl | hr
  · exact ⟨by kernel_rfl, _, Try.func134, c225⟩
  rcases List.mem_cons.1 hr with rfl | hr
  · exact ⟨by kernel_rfl, _, Try.func140, c229⟩
  rcases List.mem_cons.1 hr with rfl | hr
  · exact ⟨by kernel_rfl, _, Try.func141, c230⟩
  rcases List.mem_cons.1 hr with rfl | hr
  · exact ⟨by kernel_rfl, _, Try.func144, c231⟩
  rcases List.mem_cons.1 hr with rfl | hr
  · exact ⟨by kernel_rfl, _, Try.func145, c232⟩
  rcases List.mem_cons.1 hr with rfl | hr
  · exact ⟨by kernel_rfl, _, Try.func146, c233⟩
  rcases List.mem_cons.1 hr with rfl | hr
  · exact ⟨by kernel_rfl, _, Try.func149, c234⟩
  rcases List.mem_cons.1 hr with rfl | hr
  · exact ⟨by kernel_rfl, _, Try.func150, c235⟩
  cases hr
theorem table : Table Try.prog num funs := by
  intro f A h
  unfold funs at h
  cases hf : tab.find? (fun r => r.1 == f) with
  | none => rw [hf] at h; cases h
  | some r =>
    rw [hf] at h; cases h
    have h1 := List.find?_some hf
    simp only [beq_iff_eq] at h1
    subst h1
    obtain ⟨h2, h3⟩ := good r (List.mem_of_find?_eq_some hf)
    rw [h2]; exact h3
theorem pk_eco : Pk_eco funs := ⟨rfl, rfl, rfl, rfl, rfl, rfl, rfl, rfl, rfl, rfl, rfl, rfl, rfl, rfl, rfl, rfl, rfl⟩
theorem pk_xref01 : Pk_xref01 funs := ⟨rfl, rfl, rfl, rfl, rfl, rfl, rfl, rfl, rfl, rfl, rfl⟩
theorem pk_xref06 : Pk_xref06 funs := ⟨rfl, rfl, rfl, rfl, rfl, rfl, rfl, rfl⟩
theorem pk_xref09 : Pk_xref09 funs := ⟨rfl, rfl, rfl, rfl, rfl, rfl, rfl⟩
theorem pk_xref10 : Pk_xref10 funs := ⟨rfl, rfl, rfl, rfl, rfl, rfl, rfl, rfl, rfl⟩
theorem pk_rel : Pk_rel funs := ⟨rfl, rfl, rfl, rfl, rfl, rfl, rfl, rfl, rfl, rfl, rfl, rfl, rfl, rfl, rfl, rfl⟩
theorem pk_sync : Pk_sync funs := ⟨rfl, rfl, rfl, rfl, rfl, rfl, rfl⟩
end Go.Proofs.Ytkiecemdbkjccaa
end
section
/- exegesislaw10: handed, awake, all; SyncAny. -/
set_option linter.unusedVariables false
set_option linter.unusedSimpArgs false
namespace Go.Ab
variable {F : Funs}
def handG (m k : Int) : Gr := ⟨2, [⟨0, 2, 0, 0, 0, false⟩, ⟨0, 2, 0, 1, 0, false⟩, ⟨1, 2, 0, 0, 1, false⟩, ⟨1, 2, m, 1, 1, false⟩, ⟨2, 1, k, 1, 1, false⟩, ⟨2, 1, 0, 0, 0, false⟩], [-1, -1, -1, -1, 3, 0], [[0, 2], [1, 3]], [], [], [], []⟩
theorem splice_s (a : AV) (cs : List AV) (k : Nat) (v w : AV) (vs : List AV) : splice (a :: cs) (k + 1) (v :: w :: vs) = a :: splice cs k (v :: w :: vs) := by
  simp only [splice, List.take_succ_cons, List.cons_append, List.length_cons]
  rw [show k + 1 + (vs.length + 1 + 1) = (k + (vs.length + 1 + 1)) + 1 by omega, List.drop_succ_cons]
theorem splice_6 (b1 b2 b3 b4 b5 b6 c1 c2 c3 c4 c5 c6 : AV) (cs : List AV) : splice (b1 :: b2 :: b3 :: b4 :: b5 :: b6 :: cs) 0 [c1, c2, c3, c4, c5, c6] = c1 :: c2 :: c3 :: c4 :: c5 :: c6 :: cs := rfl
theorem set_s (a : AV) (cs : List AV) (k : Nat) (v : AV) : (a :: cs).set (k + 1) v = a :: cs.set k v := rfl
set_option maxRecDepth 100000 in
set_option maxHeartbeats 4000000 in
theorem sp_handed (h180 : F 180 = some A_xlaw10_handed) (m k : Int) : pureS F 180 [.i .i64 m, .i .i64 k] = some (.agg (grC (handG m k))) := by
  refine pure_of h180 ?_
  have r5 : ∀ x : AV, List.replicate 5 x = [x, x, x, x, x] := fun _ => rfl
  have r6 : ∀ x : AV, List.replicate 6 x = [x, x, x, x, x, x] := fun _ => rfl
  have r7 : ∀ x : AV, List.replicate 7 x = [x, x, x, x, x, x, x] := fun _ => rfl
  have s8 : ∀ a1 a2 a3 a4 a5 a6 a7 a8 c1 c2 c3 c4 c5 c6 c7 c8 : AV, splice [a1, a2, a3, a4, a5, a6, a7, a8] 0 [c1, c2, c3, c4, c5, c6, c7, c8] = [c1, c2, c3, c4, c5, c6, c7, c8] := fun _ _ _ _ _ _ _ _ _ _ _ _ _ _ _ _ => rfl
  have p8 : ∀ a1 a2 a3 a4 a5 a6 a7 a8 : AV, part [a1, a2, a3, a4, a5, a6, a7, a8] 0 (some 8) = some (.agg [a1, a2, a3, a4, a5, a6, a7, a8]) := fun _ _ _ _ _ _ _ _ => rfl
  simp (disch := omega) only [A_xlaw10_handed, wp, Nat.reduceAdd, Nat.reduceMul, Nat.reduceSub, gl, res_cell, resC, r5, r6, r7, s8, p8, splice_s, splice_6, List.length_set]
  refine frz_d_agg ?_
  show frzL _ (7 + 1) _ = _
  simp only [frzL, frz]
  rfl
theorem hand_few (m k : Int) : Few (handG m k) := by
  refine ⟨by simp [handG], by simp [handG], ?_⟩
  intro c hc
  simp only [handG, List.mem_cons, List.not_mem_nil, or_false] at hc
  rcases hc with rfl | rfl <;> decide
theorem hand_1 : has (nOf (handG 2 1)) (SwP (handG 2 1)) 3 4 = true := by decide +kernel
theorem hand_2 : has (nOf (handG 2 1)) (HbP (handG 2 1)) 2 5 = true := by decide +kernel
theorem hand_3 : has (nOf (handG 0 1)) (SwP (handG 0 1)) 3 4 = false := by decide +kernel
theorem hand_4 : has (nOf (handG 2 1)) (ReleaseP (handG 2 1)) 3 3 = true := by decide +kernel
theorem hand_5 : has (nOf (handG 2 1)) (RsP (handG 2 1)) 3 3 = true := by decide +kernel
set_option maxRecDepth 100000 in
set_option maxHeartbeats 1000000 in
theorem sp_awake10 (h150 : F 150 = some A_xlaw10_awake) (h180 : F 180 = some A_xlaw10_handed) (S : SyncF F) : pureS F 150 [] = some (.b true) := by
  refine pure_of h150 ?_
  have f1 := hand_few 2 1
  have f2 := hand_few 0 1
  have n1 := nOf_le (handG 2 1)
  have n2 := nOf_le (handG 0 1)
  have r1 : (handG 2 1).rmw.length ≤ 1000 := by decide
  have r2 : (handG 0 1).rmw.length ≤ 1000 := by decide
  simp (disch := omega) only [A_xlaw10_awake, wp, Nat.reduceAdd, Nat.reduceMul, Nat.reduceSub, gl, sp_handed h180, splice_gr, sp_Sw S f1 r1, sp_Hb S f1 r1, sp_Sw S f2 r2, sp_Release S f1 r1, sp_Rs S f1 r1, sp_has S.pr n1, sp_has S.pr n2, hand_1, hand_2, hand_3, hand_4, hand_5]
set_option maxRecDepth 100000 in
set_option maxHeartbeats 4000000 in
theorem sp_all10 (h151 : F 151 = some A_xlaw10_all) (h181 : F 181 = some A_xlaw10_same) (S : SyncF F) (T : RefF F) (p10 : Pk_xref10 F) {X : Gr} (hX : FewG X) (h : GraphOk X) : pureS F 151 [.agg (grC X)] = some (.b true) := by
  refine pure_of h151 ?_
  have hf := hX.few
  have hr : X.rmw.length ≤ 1000 := by have := hX.rmw; omega
  have a1 := sp_Rs S hf hr
  have a2 := sp_Release S hf hr
  have a3 := sp_Sw S hf hr
  have a4 := sp_Hb S hf hr
  rw [h.nOf] at a1 a2 a3 a4
  obtain ⟨A1, b1, e1⟩ := mRs T p10 h hr
  obtain ⟨A2, b2, e2⟩ := mRelease T p10 h hr
  obtain ⟨A3, b3, e3⟩ := mSw T p10 h hr
  obtain ⟨A4, b4, e4⟩ := mHb T p10 h hr
  have hs : F 181 = some A_xlaw09_same := h181
  have c1 := sp_sameG hs T.px.xref01_SamePairs T.px.xref01_R_Pairs S.pr h.n40 e1.2
  have c2 := sp_sameG hs T.px.xref01_SamePairs T.px.xref01_R_Pairs S.pr h.n40 e2.2
  have c3 := sp_sameG hs T.px.xref01_SamePairs T.px.xref01_R_Pairs S.pr h.n40 e3.2
  have c4 := sp_sameG hs T.px.xref01_SamePairs T.px.xref01_R_Pairs S.pr h.n40 e4.2
  simp (disch := omega) only [A_xlaw10_all, wp, Nat.reduceAdd, Nat.reduceMul, Nat.reduceSub, gl, a1, a2, a3, a4, b1, b2, b3, b4, c1, c2, c3, c4]
set_option maxRecDepth 100000 in
set_option maxHeartbeats 4000000 in
theorem sp_syncAny {f : Nat} (hf : F f = some A_xlaw10_SyncAny) (h44 : F 44 = some A_xlaw00_FewGraph) (h150 : F 150 = some A_xlaw10_awake) (h180 : F 180 = some A_xlaw10_handed) (h151 : F 151 = some A_xlaw10_all) (h181 : F 181 = some A_xlaw10_same) (S : SyncF F) (T : RefF F) (p10 : Pk_xref10 F) (X : Gr) : pureS F f [.agg (grC X)] = some (.b true) := by
  refine pure_of hf ?_
  have aw := sp_awake10 h150 h180 S
  obtain ⟨b1, e1, p1⟩ := sp_fewGraph h44 X
  cases b1
  case false => simp (disch := omega) only [A_xlaw10_SyncAny, wp, Nat.reduceAdd, Nat.reduceMul, Nat.reduceSub, gl, e1, aw]
  have hX := p1 rfl
  by_cases hl : (20 : Int) < X.evs.length
  case pos => simp (disch := omega) only [A_xlaw10_SyncAny, wp, Nat.reduceAdd, Nat.reduceMul, Nat.reduceSub, gl, e1, aw, hl]
  obtain ⟨b2, e2, p2⟩ := sp_check T.p6.xref06_Check T.p6.xref06_event T.p6.xref06_rf T.p6.xref06_co T.p6.xref06_rmw T.p6.xref06_deps T.p6.xref06_rising hX
  cases b2
  case false => simp (disch := omega) only [A_xlaw10_SyncAny, wp, Nat.reduceAdd, Nat.reduceMul, Nat.reduceSub, gl, e1, aw, hl, e2]
  have h := p2 rfl
  have ha := sp_all10 h151 h181 S T p10 hX h
  simp (disch := omega) only [A_xlaw10_SyncAny, wp, Nat.reduceAdd, Nat.reduceMul, Nat.reduceSub, gl, e1, aw, hl, e2, ha]
end Go.Ab
end
