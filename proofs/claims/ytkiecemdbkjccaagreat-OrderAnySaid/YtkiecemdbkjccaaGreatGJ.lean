/- The abstract machine, its adequacy, what functions compute; lemmas, no claim of its own. -/
import Derived.Test.YtkiecemdbkjccaaGreatGA
import Derived.Test.YtkiecemdbkjccaaGreatGC
import Derived.Test.YtkiecemdbkjccaaGreatGE
import Derived.Test.YtkiecemdbkjccaaGreatGH
section
/- Resolved functions of package xref06, written by a program (res.py). -/
namespace Go.Ab
def A_xref06_Check : AFun := { res := [.t 2], body := (.seq (.reg false [{ dst := some 1, op := .box (.t 0) },
  { dst := some 2, op := .mv (.c (.b false)) }])
 (.seq (.reg false [{ dst := some 6, op := .fa 1 (.t 1) },
  { dst := some 7, op := .ld none (.t 6) },
  { dst := some 8, op := .len (.t 7) },
  { dst := some 3, op := .mv (.t 8) }])
 (.seq (.seq (.reg false [{ dst := some 9, op := .fa 0 (.t 1) },
  { dst := some 10, op := .ld none (.t 9) },
  { dst := some 11, op := .bin .lss (.t 10) (.c (.i .i64 1)) },
  { dst := some 12, op := .mv (.t 11) },
  { dst := some 13, op := .fa 0 (.t 1), grd := some (12, false) },
  { dst := some 14, op := .ld none (.t 13), grd := some (12, false) },
  { dst := some 15, op := .bin .gtr (.t 14) (.c (.i .i64 4)), grd := some (12, false) },
  { dst := some 16, op := .pick (.t 12) (.c (.b true)) (.t 15) },
  { dst := some 17, op := .mv (.t 16) },
  { dst := some 18, op := .mv (.t 3), grd := some (17, false) },
  { dst := some 19, op := .fa 0 (.t 1), grd := some (17, false) },
  { dst := some 20, op := .ld none (.t 19), grd := some (17, false) },
  { dst := some 21, op := .bin .lss (.t 18) (.t 20), grd := some (17, false) },
  { dst := some 22, op := .pick (.t 17) (.c (.b true)) (.t 21) },
  { dst := some 23, op := .mv (.t 22) },
  { dst := some 24, op := .mv (.t 3), grd := some (23, false) },
  { dst := some 25, op := .bin .gtr (.t 24) (.c (.i .i64 40)), grd := some (23, false) },
  { dst := some 26, op := .pick (.t 23) (.c (.b true)) (.t 25) },
  { dst := some 27, op := .mv (.t 26) },
  { dst := some 28, op := .fa 2 (.t 1), grd := some (27, false) },
  { dst := some 29, op := .ld none (.t 28), grd := some (27, false) },
  { dst := some 30, op := .len (.t 29), grd := some (27, false) },
  { dst := some 31, op := .mv (.t 3), grd := some (27, false) },
  { dst := some 32, op := .bin .neq (.t 30) (.t 31), grd := some (27, false) },
  { dst := some 33, op := .pick (.t 27) (.c (.b true)) (.t 32) },
  { dst := some 34, op := .mv (.t 33) },
  { dst := some 35, op := .fa 3 (.t 1), grd := some (34, false) },
  { dst := some 36, op := .ld none (.t 35), grd := some (34, false) },
  { dst := some 37, op := .len (.t 36), grd := some (34, false) },
  { dst := some 38, op := .fa 0 (.t 1), grd := some (34, false) },
  { dst := some 39, op := .ld none (.t 38), grd := some (34, false) },
  { dst := some 40, op := .bin .neq (.t 37) (.t 39), grd := some (34, false) },
  { dst := some 41, op := .pick (.t 34) (.c (.b true)) (.t 40) }])
 (.cond (.t 41) (.seq (.reg false [{ dst := some 2, op := .mv (.c (.b false)) }])
 .ret)
 .skip))
 (.seq (.seq (.reg false [{ dst := some 4, op := .mv (.c (.i .i64 0)) }])
 (.blk 0 (.loop (.seq (.seq (.reg false [{ dst := some 42, op := .mv (.t 4) },
  { dst := some 43, op := .mv (.t 3) },
  { dst := some 44, op := .bin .lss (.t 42) (.t 43) }])
 (.cond (.t 44) .skip
 (.ext 0)))
 (.seq (.blk 1 (.seq (.reg false [{ dst := some 47, op := .ld (some 8) (.t 1) },
  { dst := some 48, op := .mv (.t 4) },
  { dst := some 49, op := .call .pure (.c (.fn 63 [] [])) [.t 47, .t 48] },
  { dst := some 50, op := .un .not (.t 49) },
  { dst := some 51, op := .mv (.t 50) },
  { dst := some 52, op := .ld (some 8) (.t 1), grd := some (51, false) },
  { dst := some 53, op := .mv (.t 4), grd := some (51, false) },
  { dst := some 54, op := .call .pure (.c (.fn 64 [] [])) [.t 52, .t 53], grd := some (51, false) },
  { dst := some 55, op := .un .not (.t 54), grd := some (51, false) },
  { dst := some 56, op := .pick (.t 51) (.c (.b true)) (.t 55) }])
 (.cond (.t 56) (.seq (.reg false [{ dst := some 2, op := .mv (.c (.b false)) }])
 .ret)
 .skip)))
 (.reg false [{ dst := some 45, op := .mv (.t 4) },
  { dst := some 46, op := .bin .add (.t 45) (.c (.i .i64 1)) },
  { dst := some 4, op := .mv (.t 46) }]))))))
 (.seq (.seq (.reg false [{ dst := some 5, op := .mv (.c (.i .i64 0)) }])
 (.blk 2 (.loop (.seq (.seq (.reg false [{ dst := some 57, op := .mv (.t 5) },
  { dst := some 58, op := .fa 0 (.t 1) },
  { dst := some 59, op := .ld none (.t 58) },
  { dst := some 60, op := .bin .lss (.t 57) (.t 59) }])
 (.cond (.t 60) .skip
 (.ext 2)))
 (.seq (.blk 3 (.seq (.reg false [{ dst := some 63, op := .ld (some 8) (.t 1) },
  { dst := some 64, op := .mv (.t 5) },
  { dst := some 65, op := .call .pure (.c (.fn 65 [] [])) [.t 63, .t 64] },
  { dst := some 66, op := .un .not (.t 65) }])
 (.cond (.t 66) (.seq (.reg false [{ dst := some 2, op := .mv (.c (.b false)) }])
 .ret)
 .skip)))
 (.reg false [{ dst := some 61, op := .mv (.t 5) },
  { dst := some 62, op := .bin .add (.t 61) (.c (.i .i64 1)) },
  { dst := some 5, op := .mv (.t 62) }]))))))
 (.seq (.reg false [{ dst := some 67, op := .ld (some 8) (.t 1) },
  { dst := some 68, op := .call .pure (.c (.fn 66 [] [])) [.t 67] },
  { dst := some 69, op := .mv (.t 68) },
  { dst := some 70, op := .ld (some 8) (.t 1), grd := some (69, true) },
  { dst := some 71, op := .fa 5 (.t 1), grd := some (69, true) },
  { dst := some 72, op := .ld none (.t 71), grd := some (69, true) },
  { dst := some 73, op := .call .pure (.c (.fn 67 [] [])) [.t 70, .t 72], grd := some (69, true) },
  { dst := some 74, op := .pick (.t 69) (.t 73) (.c (.b false)) },
  { dst := some 75, op := .mv (.t 74) },
  { dst := some 76, op := .ld (some 8) (.t 1), grd := some (75, true) },
  { dst := some 77, op := .fa 6 (.t 1), grd := some (75, true) },
  { dst := some 78, op := .ld none (.t 77), grd := some (75, true) },
  { dst := some 79, op := .call .pure (.c (.fn 67 [] [])) [.t 76, .t 78], grd := some (75, true) },
  { dst := some 80, op := .pick (.t 75) (.t 79) (.c (.b false)) },
  { dst := some 81, op := .mv (.t 80) },
  { dst := some 82, op := .ld (some 8) (.t 1), grd := some (81, true) },
  { dst := some 83, op := .fa 7 (.t 1), grd := some (81, true) },
  { dst := some 84, op := .ld none (.t 83), grd := some (81, true) },
  { dst := some 85, op := .call .pure (.c (.fn 67 [] [])) [.t 82, .t 84], grd := some (81, true) },
  { dst := some 86, op := .pick (.t 81) (.t 85) (.c (.b false)) },
  { dst := some 2, op := .mv (.t 86) }])
 .ret)))))) }
def A_xref06_event : AFun := { res := [.t 4], body := (.seq (.reg false [{ dst := some 2, op := .box (.t 0) },
  { dst := some 4, op := .mv (.c (.b false)) }])
 (.seq (.reg false [{ dst := some 7, op := .fa 1 (.t 2) },
  { dst := some 8, op := .ld none (.t 7) },
  { dst := some 9, op := .mv (.t 1) },
  { dst := some 10, op := .ia 6 (.t 8) (.t 9) },
  { dst := some 11, op := .ld (some 6) (.t 10) },
  { dst := some 5, op := .new (List.replicate 5 (.i .i64 0) ++ [.b false]) },
  { dst := none, op := .st 6 (.t 5) (.t 11) }])
 (.seq (.seq (.reg false [{ dst := some 12, op := .mv (.t 1) },
  { dst := some 13, op := .fa 0 (.t 2) },
  { dst := some 14, op := .ld none (.t 13) },
  { dst := some 15, op := .bin .lss (.t 12) (.t 14) }])
 (.cond (.t 15) (.seq (.reg false [{ dst := some 16, op := .fa 0 (.t 5) },
  { dst := some 17, op := .ld none (.t 16) },
  { dst := some 18, op := .bin .eql (.t 17) (.c (.i .i64 0)) },
  { dst := some 19, op := .mv (.t 18) },
  { dst := some 20, op := .fa 1 (.t 5), grd := some (19, true) },
  { dst := some 21, op := .ld none (.t 20), grd := some (19, true) },
  { dst := some 22, op := .bin .eql (.t 21) (.c (.i .i64 2)), grd := some (19, true) },
  { dst := some 23, op := .pick (.t 19) (.t 22) (.c (.b false)) },
  { dst := some 24, op := .mv (.t 23) },
  { dst := some 25, op := .fa 2 (.t 5), grd := some (24, true) },
  { dst := some 26, op := .ld none (.t 25), grd := some (24, true) },
  { dst := some 27, op := .bin .eql (.t 26) (.c (.i .i64 0)), grd := some (24, true) },
  { dst := some 28, op := .pick (.t 24) (.t 27) (.c (.b false)) },
  { dst := some 29, op := .mv (.t 28) },
  { dst := some 30, op := .fa 3 (.t 5), grd := some (29, true) },
  { dst := some 31, op := .ld none (.t 30), grd := some (29, true) },
  { dst := some 32, op := .mv (.t 1), grd := some (29, true) },
  { dst := some 33, op := .bin .eql (.t 31) (.t 32), grd := some (29, true) },
  { dst := some 34, op := .pick (.t 29) (.t 33) (.c (.b false)) },
  { dst := some 35, op := .mv (.t 34) },
  { dst := some 36, op := .fa 4 (.t 5), grd := some (35, true) },
  { dst := some 37, op := .ld none (.t 36), grd := some (35, true) },
  { dst := some 38, op := .bin .eql (.t 37) (.c (.i .i64 0)), grd := some (35, true) },
  { dst := some 39, op := .pick (.t 35) (.t 38) (.c (.b false)) },
  { dst := some 40, op := .mv (.t 39) },
  { dst := some 41, op := .fa 5 (.t 5), grd := some (40, true) },
  { dst := some 42, op := .ld none (.t 41), grd := some (40, true) },
  { dst := some 43, op := .un .not (.t 42), grd := some (40, true) },
  { dst := some 44, op := .pick (.t 40) (.t 43) (.c (.b false)) },
  { dst := some 4, op := .mv (.t 44) }])
 .ret)
 .skip))
 (.seq (.seq (.reg true [{ dst := some 45, op := .fa 0 (.t 5) },
  { dst := some 46, op := .ld none (.t 45), pre := [] },
  { dst := some 47, op := .bin .lss (.t 46) (.c (.i .i64 1)) },
  { dst := some 48, op := .mv (.t 47) },
  { dst := some 49, op := .fa 0 (.t 5), grd := some (48, false) },
  { dst := some 50, op := .ld none (.t 49), grd := some (48, false), pre := [] },
  { dst := some 51, op := .bin .gtr (.t 50) (.c (.i .i64 4)), grd := some (48, false) },
  { dst := some 52, op := .pick (.t 48) (.c (.b true)) (.t 51) },
  { dst := some 53, op := .mv (.t 52) },
  { dst := some 54, op := .mv (.t 1), grd := some (53, false) },
  { dst := some 55, op := .bin .gtr (.t 54) (.c (.i .i64 0)), grd := some (53, false) },
  { dst := some 56, op := .mv (.t 55), grd := some (53, false) },
  { dst := some 57, op := .fa 0 (.t 5), grd := some (56, true) },
  { dst := some 58, op := .ld none (.t 57), grd := some (56, true), pre := [] },
  { dst := some 59, op := .fa 1 (.t 2), grd := some (56, true) },
  { dst := some 60, op := .ld none (.t 59), grd := some (56, true), pre := [] },
  { dst := some 61, op := .mv (.t 1), grd := some (56, true) },
  { dst := some 62, op := .bin .sub (.t 61) (.c (.i .i64 1)), grd := some (56, true) },
  { dst := some 63, op := .ia 6 (.t 60) (.t 62), grd := some (56, true) },
  { dst := some 64, op := .fa 0 (.t 63), grd := some (56, true) },
  { dst := some 65, op := .ld none (.t 64), grd := some (56, true), pre := [] },
  { dst := some 66, op := .bin .lss (.t 58) (.t 65), grd := some (56, true) },
  { dst := some 67, op := .pick (.t 56) (.t 66) (.c (.b false)), grd := some (53, false) },
  { dst := some 68, op := .pick (.t 53) (.c (.b true)) (.t 67) }])
 (.cond (.t 68) (.seq (.reg false [{ dst := some 4, op := .mv (.c (.b false)) }])
 .ret)
 .skip))
 (.seq (.reg false [{ dst := some 69, op := .fa 3 (.t 5) },
  { dst := some 70, op := .ld none (.t 69) },
  { dst := some 71, op := .bin .geq (.t 70) (.c (.i .i64 0)) },
  { dst := some 72, op := .mv (.t 71) },
  { dst := some 73, op := .fa 3 (.t 5), grd := some (72, true) },
  { dst := some 74, op := .ld none (.t 73), grd := some (72, true) },
  { dst := some 75, op := .fa 0 (.t 2), grd := some (72, true) },
  { dst := some 76, op := .ld none (.t 75), grd := some (72, true) },
  { dst := some 77, op := .bin .lss (.t 74) (.t 76), grd := some (72, true) },
  { dst := some 78, op := .pick (.t 72) (.t 77) (.c (.b false)) },
  { dst := some 6, op := .mv (.t 78) }])
 (.seq (.seq (.reg false [{ dst := some 79, op := .fa 1 (.t 5) },
  { dst := some 80, op := .ld none (.t 79) }])
 (.blk 0 (.seq (.reg false [{ dst := some 82, op := .bin .eql (.t 80) (.c (.i .i64 1)) },
  { dst := some 81, op := .mv (.t 82) }])
 (.cond (.t 81) (.seq (.reg false [{ dst := some 83, op := .mv (.t 6) },
  { dst := some 84, op := .mv (.t 83) },
  { dst := some 85, op := .fa 2 (.t 5), grd := some (84, true) },
  { dst := some 86, op := .ld none (.t 85), grd := some (84, true) },
  { dst := some 87, op := .bin .eql (.t 86) (.c (.i .i64 0)), grd := some (84, true) },
  { dst := some 88, op := .mv (.t 87), grd := some (84, true) },
  { dst := some 89, op := .fa 2 (.t 5), grd := some (88, false) },
  { dst := some 90, op := .ld none (.t 89), grd := some (88, false) },
  { dst := some 91, op := .bin .eql (.t 90) (.c (.i .i64 1)), grd := some (88, false) },
  { dst := some 92, op := .pick (.t 88) (.c (.b true)) (.t 91), grd := some (84, true) },
  { dst := some 93, op := .pick (.t 84) (.t 92) (.c (.b false)) },
  { dst := some 4, op := .mv (.t 93) }])
 .ret)
 (.seq (.reg false [{ dst := some 95, op := .bin .eql (.t 80) (.c (.i .i64 2)) },
  { dst := some 94, op := .mv (.t 95) }])
 (.cond (.t 94) (.seq (.reg false [{ dst := some 96, op := .mv (.t 6) },
  { dst := some 97, op := .mv (.t 96) },
  { dst := some 98, op := .fa 2 (.t 5), grd := some (97, true) },
  { dst := some 99, op := .ld none (.t 98), grd := some (97, true) },
  { dst := some 100, op := .bin .eql (.t 99) (.c (.i .i64 0)), grd := some (97, true) },
  { dst := some 101, op := .mv (.t 100), grd := some (97, true) },
  { dst := some 102, op := .fa 2 (.t 5), grd := some (101, false) },
  { dst := some 103, op := .ld none (.t 102), grd := some (101, false) },
  { dst := some 104, op := .bin .eql (.t 103) (.c (.i .i64 2)), grd := some (101, false) },
  { dst := some 105, op := .pick (.t 101) (.c (.b true)) (.t 104), grd := some (97, true) },
  { dst := some 106, op := .pick (.t 97) (.t 105) (.c (.b false)) },
  { dst := some 4, op := .mv (.t 106) }])
 .ret)
 (.seq (.reg false [{ dst := some 108, op := .bin .eql (.t 80) (.c (.i .i64 3)) },
  { dst := some 107, op := .mv (.t 108) }])
 (.cond (.t 107) (.seq (.reg false [{ dst := some 109, op := .fa 2 (.t 5) },
  { dst := some 110, op := .ld none (.t 109) },
  { dst := some 111, op := .bin .geq (.t 110) (.c (.i .i64 1)) },
  { dst := some 112, op := .mv (.t 111) },
  { dst := some 113, op := .fa 2 (.t 5), grd := some (112, true) },
  { dst := some 114, op := .ld none (.t 113), grd := some (112, true) },
  { dst := some 115, op := .bin .leq (.t 114) (.c (.i .i64 4)), grd := some (112, true) },
  { dst := some 116, op := .pick (.t 112) (.t 115) (.c (.b false)) },
  { dst := some 117, op := .mv (.t 116) },
  { dst := some 118, op := .fa 3 (.t 5), grd := some (117, true) },
  { dst := some 119, op := .ld none (.t 118), grd := some (117, true) },
  { dst := some 120, op := .bin .eql (.t 119) (.c (.i .i64 0)), grd := some (117, true) },
  { dst := some 121, op := .pick (.t 117) (.t 120) (.c (.b false)) },
  { dst := some 122, op := .mv (.t 121) },
  { dst := some 123, op := .fa 4 (.t 5), grd := some (122, true) },
  { dst := some 124, op := .ld none (.t 123), grd := some (122, true) },
  { dst := some 125, op := .bin .eql (.t 124) (.c (.i .i64 0)), grd := some (122, true) },
  { dst := some 126, op := .pick (.t 122) (.t 125) (.c (.b false)) },
  { dst := some 127, op := .mv (.t 126) },
  { dst := some 128, op := .fa 5 (.t 5), grd := some (127, true) },
  { dst := some 129, op := .ld none (.t 128), grd := some (127, true) },
  { dst := some 130, op := .un .not (.t 129), grd := some (127, true) },
  { dst := some 131, op := .pick (.t 127) (.t 130) (.c (.b false)) },
  { dst := some 4, op := .mv (.t 131) }])
 .ret)
 .skip))))))))
 (.seq (.reg false [{ dst := some 4, op := .mv (.c (.b false)) }])
 .ret))))))) }
def A_xref06_rf : AFun := { res := [.t 4], body := (.seq (.reg false [{ dst := some 2, op := .box (.t 0) },
  { dst := some 4, op := .mv (.c (.b false)) }])
 (.seq (.reg true [{ dst := some 8, op := .fa 1 (.t 2) },
  { dst := some 9, op := .ld none (.t 8), pre := [] },
  { dst := some 10, op := .mv (.t 1) },
  { dst := some 11, op := .ia 6 (.t 9) (.t 10) },
  { dst := some 12, op := .ld (some 6) (.t 11), pre := [] },
  { dst := some 13, op := .fa 2 (.t 2) },
  { dst := some 14, op := .ld none (.t 13), pre := [] },
  { dst := some 15, op := .mv (.t 1) },
  { dst := some 16, op := .ia 1 (.t 14) (.t 15) },
  { dst := some 17, op := .ld none (.t 16), pre := [] },
  { dst := some 5, op := .new (List.replicate 5 (.i .i64 0) ++ [.b false]) },
  { dst := none, op := .stL 6 (.t 5) (.t 12), pre := [10] },
  { dst := some 6, op := .mv (.t 17) }])
 (.seq (.seq (.reg false [{ dst := some 18, op := .fa 1 (.t 5) },
  { dst := some 19, op := .ld none (.t 18) },
  { dst := some 20, op := .bin .neq (.t 19) (.c (.i .i64 1)) }])
 (.cond (.t 20) (.seq (.reg false [{ dst := some 21, op := .mv (.t 6) },
  { dst := some 22, op := .bin .eql (.t 21) (.c (.i .i64 (-1))) },
  { dst := some 4, op := .mv (.t 22) }])
 .ret)
 .skip))
 (.seq (.seq (.reg false [{ dst := some 23, op := .mv (.t 6) },
  { dst := some 24, op := .bin .lss (.t 23) (.c (.i .i64 0)) },
  { dst := some 25, op := .mv (.t 24) },
  { dst := some 26, op := .mv (.t 6), grd := some (25, false) },
  { dst := some 27, op := .fa 1 (.t 2), grd := some (25, false) },
  { dst := some 28, op := .ld none (.t 27), grd := some (25, false) },
  { dst := some 29, op := .len (.t 28), grd := some (25, false) },
  { dst := some 30, op := .bin .geq (.t 26) (.t 29), grd := some (25, false) },
  { dst := some 31, op := .pick (.t 25) (.c (.b true)) (.t 30) }])
 (.cond (.t 31) (.seq (.reg false [{ dst := some 4, op := .mv (.c (.b false)) }])
 .ret)
 .skip))
 (.seq (.reg false [{ dst := some 32, op := .fa 1 (.t 2) },
  { dst := some 33, op := .ld none (.t 32) },
  { dst := some 34, op := .mv (.t 6) },
  { dst := some 35, op := .ia 6 (.t 33) (.t 34) },
  { dst := some 36, op := .ld (some 6) (.t 35) },
  { dst := some 7, op := .new (List.replicate 5 (.i .i64 0) ++ [.b false]) },
  { dst := none, op := .st 6 (.t 7) (.t 36) }])
 (.seq (.reg false [{ dst := some 37, op := .fa 1 (.t 7) },
  { dst := some 38, op := .ld none (.t 37) },
  { dst := some 39, op := .bin .eql (.t 38) (.c (.i .i64 2)) },
  { dst := some 40, op := .mv (.t 39) },
  { dst := some 41, op := .fa 3 (.t 7), grd := some (40, true) },
  { dst := some 42, op := .ld none (.t 41), grd := some (40, true) },
  { dst := some 43, op := .fa 3 (.t 5), grd := some (40, true) },
  { dst := some 44, op := .ld none (.t 43), grd := some (40, true) },
  { dst := some 45, op := .bin .eql (.t 42) (.t 44), grd := some (40, true) },
  { dst := some 46, op := .pick (.t 40) (.t 45) (.c (.b false)) },
  { dst := some 47, op := .mv (.t 46) },
  { dst := some 48, op := .fa 4 (.t 7), grd := some (47, true) },
  { dst := some 49, op := .ld none (.t 48), grd := some (47, true) },
  { dst := some 50, op := .fa 4 (.t 5), grd := some (47, true) },
  { dst := some 51, op := .ld none (.t 50), grd := some (47, true) },
  { dst := some 52, op := .bin .eql (.t 49) (.t 51), grd := some (47, true) },
  { dst := some 53, op := .pick (.t 47) (.t 52) (.c (.b false)) },
  { dst := some 4, op := .mv (.t 53) }])
 .ret)))))) }
def A_xref06_co : AFun := { res := [.t 4], body := (.seq (.reg false [{ dst := some 2, op := .box (.t 0) },
  { dst := some 4, op := .mv (.c (.b false)) }])
 (.seq (.reg false [{ dst := some 10, op := .fa 3 (.t 2) },
  { dst := some 11, op := .ld none (.t 10) },
  { dst := some 12, op := .mv (.t 1) },
  { dst := some 13, op := .ia 1 (.t 11) (.t 12) },
  { dst := some 14, op := .ld none (.t 13) },
  { dst := some 5, op := .mv (.t 14) }])
 (.seq (.reg false [{ dst := some 6, op := .mv (.c (.i .i64 0)) }])
 (.seq (.seq (.reg false [{ dst := some 7, op := .mv (.c (.i .i64 0)) }])
 (.blk 0 (.loop (.seq (.seq (.reg false [{ dst := some 15, op := .mv (.t 7) },
  { dst := some 16, op := .fa 1 (.t 2) },
  { dst := some 17, op := .ld none (.t 16) },
  { dst := some 18, op := .len (.t 17) },
  { dst := some 19, op := .bin .lss (.t 15) (.t 18) }])
 (.cond (.t 19) .skip
 (.ext 0)))
 (.seq (.blk 1 (.seq (.reg false [{ dst := some 22, op := .fa 1 (.t 2) },
  { dst := some 23, op := .ld none (.t 22) },
  { dst := some 24, op := .mv (.t 7) },
  { dst := some 25, op := .ia 6 (.t 23) (.t 24) },
  { dst := some 26, op := .fa 1 (.t 25) },
  { dst := some 27, op := .ld none (.t 26) },
  { dst := some 28, op := .bin .eql (.t 27) (.c (.i .i64 2)) },
  { dst := some 29, op := .mv (.t 28) },
  { dst := some 30, op := .fa 1 (.t 2), grd := some (29, true) },
  { dst := some 31, op := .ld none (.t 30), grd := some (29, true) },
  { dst := some 32, op := .mv (.t 7), grd := some (29, true) },
  { dst := some 33, op := .ia 6 (.t 31) (.t 32), grd := some (29, true) },
  { dst := some 34, op := .fa 3 (.t 33), grd := some (29, true) },
  { dst := some 35, op := .ld none (.t 34), grd := some (29, true) },
  { dst := some 36, op := .mv (.t 1), grd := some (29, true) },
  { dst := some 37, op := .bin .eql (.t 35) (.t 36), grd := some (29, true) },
  { dst := some 38, op := .pick (.t 29) (.t 37) (.c (.b false)) }])
 (.cond (.t 38) (.reg false [{ dst := some 39, op := .mv (.t 6) },
  { dst := some 40, op := .bin .add (.t 39) (.c (.i .i64 1)) },
  { dst := some 6, op := .mv (.t 40) }])
 .skip)))
 (.reg false [{ dst := some 20, op := .mv (.t 7) },
  { dst := some 21, op := .bin .add (.t 20) (.c (.i .i64 1)) },
  { dst := some 7, op := .mv (.t 21) }]))))))
 (.seq (.seq (.reg false [{ dst := some 8, op := .mv (.c (.i .i64 0)) }])
 (.blk 2 (.loop (.seq (.seq (.reg false [{ dst := some 41, op := .mv (.t 8) },
  { dst := some 42, op := .mv (.t 5) },
  { dst := some 43, op := .len (.t 42) },
  { dst := some 44, op := .bin .lss (.t 41) (.t 43) }])
 (.cond (.t 44) .skip
 (.ext 2)))
 (.seq (.blk 3 (.seq (.seq (.reg true [{ dst := some 47, op := .mv (.t 5) },
  { dst := some 48, op := .mv (.t 8) },
  { dst := some 49, op := .ia 1 (.t 47) (.t 48) },
  { dst := some 50, op := .ld none (.t 49), pre := [] },
  { dst := some 51, op := .bin .lss (.t 50) (.c (.i .i64 0)) },
  { dst := some 52, op := .mv (.t 51) },
  { dst := some 53, op := .mv (.t 5), grd := some (52, false) },
  { dst := some 54, op := .mv (.t 8), grd := some (52, false) },
  { dst := some 55, op := .ia 1 (.t 53) (.t 54), grd := some (52, false) },
  { dst := some 56, op := .ld none (.t 55), grd := some (52, false), pre := [] },
  { dst := some 57, op := .fa 1 (.t 2), grd := some (52, false) },
  { dst := some 58, op := .ld none (.t 57), grd := some (52, false), pre := [] },
  { dst := some 59, op := .len (.t 58), grd := some (52, false) },
  { dst := some 60, op := .bin .geq (.t 56) (.t 59), grd := some (52, false) },
  { dst := some 61, op := .pick (.t 52) (.c (.b true)) (.t 60) },
  { dst := some 62, op := .mv (.t 61) },
  { dst := some 63, op := .fa 1 (.t 2), grd := some (62, false) },
  { dst := some 64, op := .ld none (.t 63), grd := some (62, false), pre := [] },
  { dst := some 65, op := .mv (.t 5), grd := some (62, false) },
  { dst := some 66, op := .mv (.t 8), grd := some (62, false) },
  { dst := some 67, op := .ia 1 (.t 65) (.t 66), grd := some (62, false) },
  { dst := some 68, op := .ld none (.t 67), grd := some (62, false), pre := [] },
  { dst := some 69, op := .ia 6 (.t 64) (.t 68), grd := some (62, false) },
  { dst := some 70, op := .fa 1 (.t 69), grd := some (62, false) },
  { dst := some 71, op := .ld none (.t 70), grd := some (62, false), pre := [] },
  { dst := some 72, op := .bin .neq (.t 71) (.c (.i .i64 2)), grd := some (62, false) },
  { dst := some 73, op := .pick (.t 62) (.c (.b true)) (.t 72) },
  { dst := some 74, op := .mv (.t 73) },
  { dst := some 75, op := .fa 1 (.t 2), grd := some (74, false) },
  { dst := some 76, op := .ld none (.t 75), grd := some (74, false), pre := [] },
  { dst := some 77, op := .mv (.t 5), grd := some (74, false) },
  { dst := some 78, op := .mv (.t 8), grd := some (74, false) },
  { dst := some 79, op := .ia 1 (.t 77) (.t 78), grd := some (74, false) },
  { dst := some 80, op := .ld none (.t 79), grd := some (74, false), pre := [] },
  { dst := some 81, op := .ia 6 (.t 76) (.t 80), grd := some (74, false) },
  { dst := some 82, op := .fa 3 (.t 81), grd := some (74, false) },
  { dst := some 83, op := .ld none (.t 82), grd := some (74, false), pre := [] },
  { dst := some 84, op := .mv (.t 1), grd := some (74, false) },
  { dst := some 85, op := .bin .neq (.t 83) (.t 84), grd := some (74, false) },
  { dst := some 86, op := .pick (.t 74) (.c (.b true)) (.t 85) }])
 (.cond (.t 86) (.seq (.reg false [{ dst := some 4, op := .mv (.c (.b false)) }])
 .ret)
 .skip))
 (.seq (.reg false [{ dst := some 9, op := .mv (.c (.i .i64 0)) }])
 (.blk 4 (.loop (.seq (.seq (.reg false [{ dst := some 87, op := .mv (.t 9) },
  { dst := some 88, op := .mv (.t 8) },
  { dst := some 89, op := .bin .lss (.t 87) (.t 88) }])
 (.cond (.t 89) .skip
 (.ext 4)))
 (.seq (.blk 5 (.seq (.reg true [{ dst := some 92, op := .mv (.t 5) },
  { dst := some 93, op := .mv (.t 9) },
  { dst := some 94, op := .ia 1 (.t 92) (.t 93) },
  { dst := some 95, op := .ld none (.t 94), pre := [] },
  { dst := some 96, op := .mv (.t 5) },
  { dst := some 97, op := .mv (.t 8) },
  { dst := some 98, op := .ia 1 (.t 96) (.t 97) },
  { dst := some 99, op := .ld none (.t 98), pre := [] },
  { dst := some 100, op := .bin .eql (.t 95) (.t 99) }])
 (.cond (.t 100) (.seq (.reg false [{ dst := some 4, op := .mv (.c (.b false)) }])
 .ret)
 .skip)))
 (.reg false [{ dst := some 90, op := .mv (.t 9) },
  { dst := some 91, op := .bin .add (.t 90) (.c (.i .i64 1)) },
  { dst := some 9, op := .mv (.t 91) }]))))))))
 (.reg false [{ dst := some 45, op := .mv (.t 8) },
  { dst := some 46, op := .bin .add (.t 45) (.c (.i .i64 1)) },
  { dst := some 8, op := .mv (.t 46) }]))))))
 (.seq (.reg false [{ dst := some 101, op := .mv (.t 5) },
  { dst := some 102, op := .len (.t 101) },
  { dst := some 103, op := .mv (.t 6) },
  { dst := some 104, op := .bin .eql (.t 102) (.t 103) },
  { dst := some 105, op := .mv (.t 104) },
  { dst := some 106, op := .mv (.t 6), grd := some (105, true) },
  { dst := some 107, op := .bin .gtr (.t 106) (.c (.i .i64 0)), grd := some (105, true) },
  { dst := some 108, op := .pick (.t 105) (.t 107) (.c (.b false)) },
  { dst := some 109, op := .mv (.t 108) },
  { dst := some 110, op := .mv (.t 5), grd := some (109, true) },
  { dst := some 111, op := .ia 1 (.t 110) (.c (.i .i64 0)), grd := some (109, true) },
  { dst := some 112, op := .ld none (.t 111), grd := some (109, true) },
  { dst := some 113, op := .mv (.t 1), grd := some (109, true) },
  { dst := some 114, op := .bin .eql (.t 112) (.t 113), grd := some (109, true) },
  { dst := some 115, op := .pick (.t 109) (.t 114) (.c (.b false)) },
  { dst := some 4, op := .mv (.t 115) }])
 .ret)))))) }
def A_xref06_rmw : AFun := { res := [.t 2], body := (.seq (.reg false [{ dst := some 1, op := .box (.t 0) },
  { dst := some 2, op := .mv (.c (.b false)) }])
 (.seq (.reg false [{ dst := some 3, op := .new (List.replicate 40 (.i .i64 0)) }])
 (.seq (.seq (.reg false [{ dst := some 4, op := .mv (.c (.i .i64 0)) }])
 (.blk 0 (.loop (.seq (.seq (.reg false [{ dst := some 10, op := .mv (.t 4) },
  { dst := some 11, op := .fa 4 (.t 1) },
  { dst := some 12, op := .ld none (.t 11) },
  { dst := some 13, op := .len (.t 12) },
  { dst := some 14, op := .bin .lss (.t 10) (.t 13) }])
 (.cond (.t 14) .skip
 (.ext 0)))
 (.seq (.blk 1 (.seq (.reg true [{ dst := some 17, op := .fa 4 (.t 1) },
  { dst := some 18, op := .ld none (.t 17), pre := [] },
  { dst := some 19, op := .mv (.t 4) },
  { dst := some 20, op := .ia 2 (.t 18) (.t 19) },
  { dst := some 21, op := .fa 0 (.t 20) },
  { dst := some 22, op := .ld none (.t 21), pre := [] },
  { dst := some 23, op := .fa 4 (.t 1) },
  { dst := some 24, op := .ld none (.t 23), pre := [] },
  { dst := some 25, op := .mv (.t 4) },
  { dst := some 26, op := .ia 2 (.t 24) (.t 25) },
  { dst := some 27, op := .fa 1 (.t 26) },
  { dst := some 28, op := .ld none (.t 27), pre := [] },
  { dst := some 5, op := .mv (.t 22) },
  { dst := some 6, op := .mv (.t 28) }])
 (.seq (.seq (.reg false [{ dst := some 29, op := .mv (.t 5) },
  { dst := some 30, op := .bin .lss (.t 29) (.c (.i .i64 0)) },
  { dst := some 31, op := .mv (.t 30) },
  { dst := some 32, op := .mv (.t 5), grd := some (31, false) },
  { dst := some 33, op := .fa 1 (.t 1), grd := some (31, false) },
  { dst := some 34, op := .ld none (.t 33), grd := some (31, false) },
  { dst := some 35, op := .len (.t 34), grd := some (31, false) },
  { dst := some 36, op := .bin .sub (.t 35) (.c (.i .i64 1)), grd := some (31, false) },
  { dst := some 37, op := .bin .geq (.t 32) (.t 36), grd := some (31, false) },
  { dst := some 38, op := .pick (.t 31) (.c (.b true)) (.t 37) },
  { dst := some 39, op := .mv (.t 38) },
  { dst := some 40, op := .mv (.t 6), grd := some (39, false) },
  { dst := some 41, op := .mv (.t 5), grd := some (39, false) },
  { dst := some 42, op := .bin .add (.t 41) (.c (.i .i64 1)), grd := some (39, false) },
  { dst := some 43, op := .bin .neq (.t 40) (.t 42), grd := some (39, false) },
  { dst := some 44, op := .pick (.t 39) (.c (.b true)) (.t 43) }])
 (.cond (.t 44) (.seq (.reg false [{ dst := some 2, op := .mv (.c (.b false)) }])
 .ret)
 .skip))
 (.seq (.reg true [{ dst := some 45, op := .fa 1 (.t 1) },
  { dst := some 46, op := .ld none (.t 45), pre := [] },
  { dst := some 47, op := .mv (.t 5) },
  { dst := some 48, op := .ia 6 (.t 46) (.t 47) },
  { dst := some 49, op := .ld (some 6) (.t 48), pre := [] },
  { dst := some 50, op := .fa 1 (.t 1) },
  { dst := some 51, op := .ld none (.t 50), pre := [] },
  { dst := some 52, op := .mv (.t 6) },
  { dst := some 53, op := .ia 6 (.t 51) (.t 52) },
  { dst := some 54, op := .ld (some 6) (.t 53), pre := [] },
  { dst := some 7, op := .new (List.replicate 5 (.i .i64 0) ++ [.b false]) },
  { dst := some 8, op := .new (List.replicate 5 (.i .i64 0) ++ [.b false]) },
  { dst := none, op := .stL 6 (.t 7) (.t 49), pre := [10] },
  { dst := none, op := .stL 6 (.t 8) (.t 54), pre := [11] }])
 (.seq (.seq (.reg false [{ dst := some 55, op := .fa 0 (.t 7) },
  { dst := some 56, op := .ld none (.t 55) },
  { dst := some 57, op := .fa 0 (.t 8) },
  { dst := some 58, op := .ld none (.t 57) },
  { dst := some 59, op := .bin .neq (.t 56) (.t 58) },
  { dst := some 60, op := .mv (.t 59) },
  { dst := some 61, op := .fa 1 (.t 7), grd := some (60, false) },
  { dst := some 62, op := .ld none (.t 61), grd := some (60, false) },
  { dst := some 63, op := .bin .neq (.t 62) (.c (.i .i64 1)), grd := some (60, false) },
  { dst := some 64, op := .pick (.t 60) (.c (.b true)) (.t 63) },
  { dst := some 65, op := .mv (.t 64) },
  { dst := some 66, op := .fa 1 (.t 8), grd := some (65, false) },
  { dst := some 67, op := .ld none (.t 66), grd := some (65, false) },
  { dst := some 68, op := .bin .neq (.t 67) (.c (.i .i64 2)), grd := some (65, false) },
  { dst := some 69, op := .pick (.t 65) (.c (.b true)) (.t 68) },
  { dst := some 70, op := .mv (.t 69) },
  { dst := some 71, op := .fa 3 (.t 7), grd := some (70, false) },
  { dst := some 72, op := .ld none (.t 71), grd := some (70, false) },
  { dst := some 73, op := .fa 3 (.t 8), grd := some (70, false) },
  { dst := some 74, op := .ld none (.t 73), grd := some (70, false) },
  { dst := some 75, op := .bin .neq (.t 72) (.t 74), grd := some (70, false) },
  { dst := some 76, op := .pick (.t 70) (.c (.b true)) (.t 75) },
  { dst := some 77, op := .mv (.t 76) },
  { dst := some 78, op := .fa 5 (.t 7), grd := some (77, false) },
  { dst := some 79, op := .ld none (.t 78), grd := some (77, false) },
  { dst := some 80, op := .un .not (.t 79), grd := some (77, false) },
  { dst := some 81, op := .pick (.t 77) (.c (.b true)) (.t 80) },
  { dst := some 82, op := .mv (.t 81) },
  { dst := some 83, op := .fa 5 (.t 8), grd := some (82, false) },
  { dst := some 84, op := .ld none (.t 83), grd := some (82, false) },
  { dst := some 85, op := .un .not (.t 84), grd := some (82, false) },
  { dst := some 86, op := .pick (.t 82) (.c (.b true)) (.t 85) }])
 (.cond (.t 86) (.seq (.reg false [{ dst := some 2, op := .mv (.c (.b false)) }])
 .ret)
 .skip))
 (.seq (.reg false [{ dst := some 87, op := .mv (.t 5) },
  { dst := some 88, op := .iaa 40 1 (.t 3) (.t 87) },
  { dst := some 89, op := .ld none (.t 88) },
  { dst := some 90, op := .bin .add (.t 89) (.c (.i .i64 1)) },
  { dst := some 91, op := .iaa 40 1 (.t 3) (.t 87) },
  { dst := none, op := .st 1 (.t 91) (.t 90) }])
 (.reg false [{ dst := some 92, op := .mv (.t 6) },
  { dst := some 93, op := .iaa 40 1 (.t 3) (.t 92) },
  { dst := some 94, op := .ld none (.t 93) },
  { dst := some 95, op := .bin .add (.t 94) (.c (.i .i64 1)) },
  { dst := some 96, op := .iaa 40 1 (.t 3) (.t 92) },
  { dst := none, op := .st 1 (.t 96) (.t 95) }])))))))
 (.reg false [{ dst := some 15, op := .mv (.t 4) },
  { dst := some 16, op := .bin .add (.t 15) (.c (.i .i64 1)) },
  { dst := some 4, op := .mv (.t 16) }]))))))
 (.seq (.seq (.reg false [{ dst := some 9, op := .mv (.c (.i .i64 0)) }])
 (.blk 2 (.loop (.seq (.seq (.reg false [{ dst := some 97, op := .mv (.t 9) },
  { dst := some 98, op := .fa 1 (.t 1) },
  { dst := some 99, op := .ld none (.t 98) },
  { dst := some 100, op := .len (.t 99) },
  { dst := some 101, op := .bin .lss (.t 97) (.t 100) }])
 (.cond (.t 101) .skip
 (.ext 2)))
 (.seq (.blk 3 (.seq (.reg true [{ dst := some 104, op := .mv (.t 9) },
  { dst := some 105, op := .iaa 40 1 (.t 3) (.t 104) },
  { dst := some 106, op := .ld none (.t 105), pre := [] },
  { dst := some 107, op := .bin .gtr (.t 106) (.c (.i .i64 1)) },
  { dst := some 108, op := .mv (.t 107) },
  { dst := some 109, op := .fa 1 (.t 1), grd := some (108, false) },
  { dst := some 110, op := .ld none (.t 109), grd := some (108, false), pre := [] },
  { dst := some 111, op := .mv (.t 9), grd := some (108, false) },
  { dst := some 112, op := .ia 6 (.t 110) (.t 111), grd := some (108, false) },
  { dst := some 113, op := .fa 5 (.t 112), grd := some (108, false) },
  { dst := some 114, op := .ld none (.t 113), grd := some (108, false), pre := [] },
  { dst := some 115, op := .mv (.t 9), grd := some (108, false) },
  { dst := some 116, op := .iaa 40 1 (.t 3) (.t 115), grd := some (108, false) },
  { dst := some 117, op := .ld none (.t 116), grd := some (108, false), pre := [] },
  { dst := some 118, op := .bin .eql (.t 117) (.c (.i .i64 1)), grd := some (108, false) },
  { dst := some 119, op := .eqb true (.t 114) (.t 118), grd := some (108, false) },
  { dst := some 120, op := .pick (.t 108) (.c (.b true)) (.t 119) }])
 (.cond (.t 120) (.seq (.reg false [{ dst := some 2, op := .mv (.c (.b false)) }])
 .ret)
 .skip)))
 (.reg false [{ dst := some 102, op := .mv (.t 9) },
  { dst := some 103, op := .bin .add (.t 102) (.c (.i .i64 1)) },
  { dst := some 9, op := .mv (.t 103) }]))))))
 (.seq (.reg false [{ dst := some 121, op := .fa 4 (.t 1) },
  { dst := some 122, op := .ld none (.t 121) },
  { dst := some 123, op := .call .pure (.c (.fn 82 [] [])) [.t 122] },
  { dst := some 2, op := .mv (.t 123) }])
 .ret))))) }
def A_xref06_deps : AFun := { res := [.t 4], body := (.seq (.reg false [{ dst := some 2, op := .box (.t 0) },
  { dst := some 4, op := .mv (.c (.b false)) }])
 (.seq (.seq (.reg false [{ dst := some 5, op := .mv (.c (.i .i64 0)) }])
 (.blk 0 (.loop (.seq (.seq (.reg false [{ dst := some 8, op := .mv (.t 5) },
  { dst := some 9, op := .mv (.t 1) },
  { dst := some 10, op := .len (.t 9) },
  { dst := some 11, op := .bin .lss (.t 8) (.t 10) }])
 (.cond (.t 11) .skip
 (.ext 0)))
 (.seq (.blk 1 (.seq (.reg true [{ dst := some 14, op := .mv (.t 1) },
  { dst := some 15, op := .mv (.t 5) },
  { dst := some 16, op := .ia 2 (.t 14) (.t 15) },
  { dst := some 17, op := .fa 0 (.t 16) },
  { dst := some 18, op := .ld none (.t 17), pre := [] },
  { dst := some 19, op := .mv (.t 1) },
  { dst := some 20, op := .mv (.t 5) },
  { dst := some 21, op := .ia 2 (.t 19) (.t 20) },
  { dst := some 22, op := .fa 1 (.t 21) },
  { dst := some 23, op := .ld none (.t 22), pre := [] },
  { dst := some 6, op := .mv (.t 18) },
  { dst := some 7, op := .mv (.t 23) }])
 (.seq (.reg true [{ dst := some 24, op := .mv (.t 6) },
  { dst := some 25, op := .bin .lss (.t 24) (.c (.i .i64 0)) },
  { dst := some 26, op := .mv (.t 25) },
  { dst := some 27, op := .mv (.t 7), grd := some (26, false) },
  { dst := some 28, op := .mv (.t 6), grd := some (26, false) },
  { dst := some 29, op := .bin .leq (.t 27) (.t 28), grd := some (26, false) },
  { dst := some 30, op := .pick (.t 26) (.c (.b true)) (.t 29) },
  { dst := some 31, op := .mv (.t 30) },
  { dst := some 32, op := .mv (.t 7), grd := some (31, false) },
  { dst := some 33, op := .fa 1 (.t 2), grd := some (31, false) },
  { dst := some 34, op := .ld none (.t 33), grd := some (31, false), pre := [] },
  { dst := some 35, op := .len (.t 34), grd := some (31, false) },
  { dst := some 36, op := .bin .geq (.t 32) (.t 35), grd := some (31, false) },
  { dst := some 37, op := .pick (.t 31) (.c (.b true)) (.t 36) },
  { dst := some 38, op := .mv (.t 37) },
  { dst := some 39, op := .fa 1 (.t 2), grd := some (38, false) },
  { dst := some 40, op := .ld none (.t 39), grd := some (38, false), pre := [] },
  { dst := some 41, op := .mv (.t 6), grd := some (38, false) },
  { dst := some 42, op := .ia 6 (.t 40) (.t 41), grd := some (38, false) },
  { dst := some 43, op := .fa 1 (.t 42), grd := some (38, false) },
  { dst := some 44, op := .ld none (.t 43), grd := some (38, false), pre := [] },
  { dst := some 45, op := .bin .neq (.t 44) (.c (.i .i64 1)), grd := some (38, false) },
  { dst := some 46, op := .pick (.t 38) (.c (.b true)) (.t 45) },
  { dst := some 47, op := .mv (.t 46) },
  { dst := some 48, op := .fa 1 (.t 2), grd := some (47, false) },
  { dst := some 49, op := .ld none (.t 48), grd := some (47, false), pre := [] },
  { dst := some 50, op := .mv (.t 6), grd := some (47, false) },
  { dst := some 51, op := .ia 6 (.t 49) (.t 50), grd := some (47, false) },
  { dst := some 52, op := .fa 0 (.t 51), grd := some (47, false) },
  { dst := some 53, op := .ld none (.t 52), grd := some (47, false), pre := [] },
  { dst := some 54, op := .fa 1 (.t 2), grd := some (47, false) },
  { dst := some 55, op := .ld none (.t 54), grd := some (47, false), pre := [] },
  { dst := some 56, op := .mv (.t 7), grd := some (47, false) },
  { dst := some 57, op := .ia 6 (.t 55) (.t 56), grd := some (47, false) },
  { dst := some 58, op := .fa 0 (.t 57), grd := some (47, false) },
  { dst := some 59, op := .ld none (.t 58), grd := some (47, false), pre := [] },
  { dst := some 60, op := .bin .neq (.t 53) (.t 59), grd := some (47, false) },
  { dst := some 61, op := .pick (.t 47) (.c (.b true)) (.t 60) }])
 (.cond (.t 61) (.seq (.reg false [{ dst := some 4, op := .mv (.c (.b false)) }])
 .ret)
 .skip))))
 (.reg false [{ dst := some 12, op := .mv (.t 5) },
  { dst := some 13, op := .bin .add (.t 12) (.c (.i .i64 1)) },
  { dst := some 5, op := .mv (.t 13) }]))))))
 (.seq (.reg false [{ dst := some 62, op := .mv (.t 1) },
  { dst := some 63, op := .call .pure (.c (.fn 82 [] [])) [.t 62] },
  { dst := some 4, op := .mv (.t 63) }])
 .ret))) }
def A_xref06_rising : AFun := { res := [.t 2], body := (.seq (.reg false [{ dst := some 2, op := .mv (.c (.b false)) }])
 (.seq (.seq (.reg false [{ dst := some 3, op := .mv (.c (.i .i64 1)) }])
 (.blk 0 (.loop (.seq (.seq (.reg false [{ dst := some 4, op := .mv (.t 3) },
  { dst := some 5, op := .mv (.t 0) },
  { dst := some 6, op := .len (.t 5) },
  { dst := some 7, op := .bin .lss (.t 4) (.t 6) }])
 (.cond (.t 7) .skip
 (.ext 0)))
 (.seq (.blk 1 (.seq (.reg true [{ dst := some 10, op := .mv (.t 0) },
  { dst := some 11, op := .mv (.t 3) },
  { dst := some 12, op := .ia 2 (.t 10) (.t 11) },
  { dst := some 13, op := .fa 0 (.t 12) },
  { dst := some 14, op := .ld none (.t 13), pre := [] },
  { dst := some 15, op := .mv (.t 0) },
  { dst := some 16, op := .mv (.t 3) },
  { dst := some 17, op := .bin .sub (.t 16) (.c (.i .i64 1)) },
  { dst := some 18, op := .ia 2 (.t 15) (.t 17) },
  { dst := some 19, op := .fa 0 (.t 18) },
  { dst := some 20, op := .ld none (.t 19), pre := [] },
  { dst := some 21, op := .bin .lss (.t 14) (.t 20) },
  { dst := some 22, op := .mv (.t 21) },
  { dst := some 23, op := .mv (.t 0), grd := some (22, false) },
  { dst := some 24, op := .mv (.t 3), grd := some (22, false) },
  { dst := some 25, op := .ia 2 (.t 23) (.t 24), grd := some (22, false) },
  { dst := some 26, op := .fa 0 (.t 25), grd := some (22, false) },
  { dst := some 27, op := .ld none (.t 26), grd := some (22, false), pre := [] },
  { dst := some 28, op := .mv (.t 0), grd := some (22, false) },
  { dst := some 29, op := .mv (.t 3), grd := some (22, false) },
  { dst := some 30, op := .bin .sub (.t 29) (.c (.i .i64 1)), grd := some (22, false) },
  { dst := some 31, op := .ia 2 (.t 28) (.t 30), grd := some (22, false) },
  { dst := some 32, op := .fa 0 (.t 31), grd := some (22, false) },
  { dst := some 33, op := .ld none (.t 32), grd := some (22, false), pre := [] },
  { dst := some 34, op := .bin .eql (.t 27) (.t 33), grd := some (22, false) },
  { dst := some 35, op := .mv (.t 34), grd := some (22, false) },
  { dst := some 36, op := .mv (.t 0), grd := some (35, true) },
  { dst := some 37, op := .mv (.t 3), grd := some (35, true) },
  { dst := some 38, op := .ia 2 (.t 36) (.t 37), grd := some (35, true) },
  { dst := some 39, op := .fa 1 (.t 38), grd := some (35, true) },
  { dst := some 40, op := .ld none (.t 39), grd := some (35, true), pre := [] },
  { dst := some 41, op := .mv (.t 0), grd := some (35, true) },
  { dst := some 42, op := .mv (.t 3), grd := some (35, true) },
  { dst := some 43, op := .bin .sub (.t 42) (.c (.i .i64 1)), grd := some (35, true) },
  { dst := some 44, op := .ia 2 (.t 41) (.t 43), grd := some (35, true) },
  { dst := some 45, op := .fa 1 (.t 44), grd := some (35, true) },
  { dst := some 46, op := .ld none (.t 45), grd := some (35, true), pre := [] },
  { dst := some 47, op := .bin .leq (.t 40) (.t 46), grd := some (35, true) },
  { dst := some 48, op := .pick (.t 35) (.t 47) (.c (.b false)), grd := some (22, false) },
  { dst := some 49, op := .pick (.t 22) (.c (.b true)) (.t 48) }])
 (.cond (.t 49) (.seq (.reg false [{ dst := some 2, op := .mv (.c (.b false)) }])
 .ret)
 .skip)))
 (.reg false [{ dst := some 8, op := .mv (.t 3) },
  { dst := some 9, op := .bin .add (.t 8) (.c (.i .i64 1)) },
  { dst := some 3, op := .mv (.t 9) }]))))))
 (.seq (.reg false [{ dst := some 2, op := .mv (.c (.b true)) }])
 .ret))) }
def A_xref06_Po : AFun := { res := [.t 2], body := (.seq (.reg false [{ dst := some 1, op := .box (.t 0) },
  { dst := some 2, op := .mv (.c (.nilp)) }])
 (.seq (.reg false [{ dst := some 8, op := .fa 1 (.t 1) },
  { dst := some 9, op := .ld none (.t 8) },
  { dst := some 10, op := .len (.t 9) },
  { dst := some 11, op := .call .thaw (.c (.fn 27 [] [])) [.t 10, .c (.sl [] 0 .rig)] },
  { dst := some 3, op := .mv (.t 11) }])
 (.seq (.seq (.reg false [{ dst := some 4, op := .mv (.c (.i .i64 0)) }])
 (.blk 0 (.loop (.seq (.seq (.reg false [{ dst := some 12, op := .mv (.t 4) },
  { dst := some 13, op := .mv (.t 3) },
  { dst := some 14, op := .nilck (.t 13) },
  { dst := some 15, op := .fa 0 (.t 14) },
  { dst := some 16, op := .ld none (.t 15) },
  { dst := some 17, op := .bin .lss (.t 12) (.t 16) }])
 (.cond (.t 17) .skip
 (.ext 0)))
 (.seq (.blk 1 (.seq (.reg false [{ dst := some 20, op := .mv (.t 4) },
  { dst := some 21, op := .bin .add (.t 20) (.c (.i .i64 1)) },
  { dst := some 5, op := .mv (.t 21) }])
 (.blk 2 (.loop (.seq (.seq (.reg false [{ dst := some 22, op := .mv (.t 5) },
  { dst := some 23, op := .mv (.t 3) },
  { dst := some 24, op := .nilck (.t 23) },
  { dst := some 25, op := .fa 0 (.t 24) },
  { dst := some 26, op := .ld none (.t 25) },
  { dst := some 27, op := .bin .lss (.t 22) (.t 26) }])
 (.cond (.t 27) .skip
 (.ext 2)))
 (.seq (.blk 3 (.seq (.reg true [{ dst := some 30, op := .fa 1 (.t 1) },
  { dst := some 31, op := .ld none (.t 30), pre := [] },
  { dst := some 32, op := .mv (.t 4) },
  { dst := some 33, op := .ia 6 (.t 31) (.t 32) },
  { dst := some 34, op := .fa 0 (.t 33) },
  { dst := some 35, op := .ld none (.t 34), pre := [] },
  { dst := some 36, op := .fa 1 (.t 1) },
  { dst := some 37, op := .ld none (.t 36), pre := [] },
  { dst := some 38, op := .mv (.t 5) },
  { dst := some 39, op := .ia 6 (.t 37) (.t 38) },
  { dst := some 40, op := .fa 0 (.t 39) },
  { dst := some 41, op := .ld none (.t 40), pre := [] },
  { dst := some 6, op := .mv (.t 35) },
  { dst := some 7, op := .mv (.t 41) }])
 (.reg false [{ dst := some 42, op := .mv (.t 3) },
  { dst := some 43, op := .mv (.t 4) },
  { dst := some 44, op := .mv (.t 5) },
  { dst := some 45, op := .mv (.t 6) },
  { dst := some 46, op := .bin .eql (.t 45) (.c (.i .i64 0)) },
  { dst := some 47, op := .mv (.t 46) },
  { dst := some 48, op := .mv (.t 7), grd := some (47, true) },
  { dst := some 49, op := .bin .gtr (.t 48) (.c (.i .i64 0)), grd := some (47, true) },
  { dst := some 50, op := .pick (.t 47) (.t 49) (.c (.b false)) },
  { dst := some 51, op := .mv (.t 50) },
  { dst := some 52, op := .mv (.t 6), grd := some (51, false) },
  { dst := some 53, op := .bin .gtr (.t 52) (.c (.i .i64 0)), grd := some (51, false) },
  { dst := some 54, op := .mv (.t 53), grd := some (51, false) },
  { dst := some 55, op := .mv (.t 6), grd := some (54, true) },
  { dst := some 56, op := .mv (.t 7), grd := some (54, true) },
  { dst := some 57, op := .bin .eql (.t 55) (.t 56), grd := some (54, true) },
  { dst := some 58, op := .pick (.t 54) (.t 57) (.c (.b false)), grd := some (51, false) },
  { dst := some 59, op := .pick (.t 51) (.c (.b true)) (.t 58) },
  { dst := some 60, op := .nilck (.t 42) },
  { dst := some 61, op := .fa 1 (.t 60) },
  { dst := some 62, op := .iaa 40 40 (.t 61) (.t 43) },
  { dst := some 63, op := .iaa 40 1 (.t 62) (.t 44) },
  { dst := none, op := .st 1 (.t 63) (.t 59) }])))
 (.reg false [{ dst := some 28, op := .mv (.t 5) },
  { dst := some 29, op := .bin .add (.t 28) (.c (.i .i64 1)) },
  { dst := some 5, op := .mv (.t 29) }])))))))
 (.reg false [{ dst := some 18, op := .mv (.t 4) },
  { dst := some 19, op := .bin .add (.t 18) (.c (.i .i64 1)) },
  { dst := some 4, op := .mv (.t 19) }]))))))
 (.seq (.reg false [{ dst := some 64, op := .mv (.t 3) },
  { dst := some 2, op := .mv (.t 64) }])
 .ret)))) }
def A_xref06_Of : AFun := { res := [.t 4], body := (.seq (.reg false [{ dst := some 2, op := .box (.t 0) },
  { dst := some 4, op := .mv (.c (.nilp)) }])
 (.seq (.reg false [{ dst := some 5, op := .fa 1 (.t 2) },
  { dst := some 6, op := .ld none (.t 5) },
  { dst := some 7, op := .len (.t 6) },
  { dst := some 8, op := .mv (.t 1) },
  { dst := some 9, op := .call .pure (.c (.fn 27 [] [])) [.t 7, .t 8] },
  { dst := some 4, op := .mv (.t 9) }])
 .ret)) }
def A_xref06_Kind : AFun := { res := [.t 8], body := (.seq (.reg false [{ dst := some 4, op := .box (.t 0) },
  { dst := some 8, op := .mv (.c (.nilp)) }])
 (.seq (.reg false [{ dst := some 12, op := .fa 1 (.t 4) },
  { dst := some 13, op := .ld none (.t 12) },
  { dst := some 14, op := .len (.t 13) },
  { dst := some 15, op := .call .thaw (.c (.fn 27 [] [])) [.t 14, .c (.sl [] 0 .rig)] },
  { dst := some 9, op := .mv (.t 15) }])
 (.seq (.seq (.reg false [{ dst := some 10, op := .mv (.c (.i .i64 0)) }])
 (.blk 0 (.loop (.seq (.seq (.reg false [{ dst := some 16, op := .mv (.t 10) },
  { dst := some 17, op := .mv (.t 9) },
  { dst := some 18, op := .nilck (.t 17) },
  { dst := some 19, op := .fa 0 (.t 18) },
  { dst := some 20, op := .ld none (.t 19) },
  { dst := some 21, op := .bin .lss (.t 16) (.t 20) }])
 (.cond (.t 21) .skip
 (.ext 0)))
 (.seq (.blk 1 (.seq (.reg false [{ dst := some 24, op := .fa 1 (.t 4) },
  { dst := some 25, op := .ld none (.t 24) },
  { dst := some 26, op := .mv (.t 10) },
  { dst := some 27, op := .ia 6 (.t 25) (.t 26) },
  { dst := some 28, op := .ld (some 6) (.t 27) },
  { dst := some 11, op := .new (List.replicate 5 (.i .i64 0) ++ [.b false]) },
  { dst := none, op := .st 6 (.t 11) (.t 28) }])
 (.reg true [{ dst := some 29, op := .mv (.t 9) },
  { dst := some 30, op := .mv (.t 10) },
  { dst := some 31, op := .mv (.t 10) },
  { dst := some 32, op := .fa 1 (.t 11) },
  { dst := some 33, op := .ld none (.t 32), pre := [] },
  { dst := some 34, op := .mv (.t 1) },
  { dst := some 35, op := .bin .eql (.t 33) (.t 34) },
  { dst := some 36, op := .mv (.t 35) },
  { dst := some 37, op := .fa 2 (.t 11), grd := some (36, true) },
  { dst := some 38, op := .ld none (.t 37), grd := some (36, true), pre := [] },
  { dst := some 39, op := .mv (.t 2), grd := some (36, true) },
  { dst := some 40, op := .bin .geq (.t 38) (.t 39), grd := some (36, true) },
  { dst := some 41, op := .pick (.t 36) (.t 40) (.c (.b false)) },
  { dst := some 42, op := .mv (.t 41) },
  { dst := some 43, op := .fa 2 (.t 11), grd := some (42, true) },
  { dst := some 44, op := .ld none (.t 43), grd := some (42, true), pre := [] },
  { dst := some 45, op := .mv (.t 3), grd := some (42, true) },
  { dst := some 46, op := .bin .leq (.t 44) (.t 45), grd := some (42, true) },
  { dst := some 47, op := .pick (.t 42) (.t 46) (.c (.b false)) },
  { dst := some 48, op := .nilck (.t 29) },
  { dst := some 49, op := .fa 1 (.t 48) },
  { dst := some 50, op := .iaa 40 40 (.t 49) (.t 30) },
  { dst := some 51, op := .iaa 40 1 (.t 50) (.t 31) },
  { dst := none, op := .st 1 (.t 51) (.t 47), pre := [] }])))
 (.reg false [{ dst := some 22, op := .mv (.t 10) },
  { dst := some 23, op := .bin .add (.t 22) (.c (.i .i64 1)) },
  { dst := some 10, op := .mv (.t 23) }]))))))
 (.seq (.reg false [{ dst := some 52, op := .mv (.t 9) },
  { dst := some 8, op := .mv (.t 52) }])
 .ret)))) }
structure Pk_xref06 (F : Funs) : Prop where
  xref06_Check : F 45 = some A_xref06_Check
  xref06_event : F 63 = some A_xref06_event
  xref06_rf : F 64 = some A_xref06_rf
  xref06_co : F 65 = some A_xref06_co
  xref06_rmw : F 66 = some A_xref06_rmw
  xref06_deps : F 67 = some A_xref06_deps
  xref06_rising : F 82 = some A_xref06_rising
  xref06_Po : F 84 = some A_xref06_Po
end Go.Ab
end
section
/- Resolved functions of package xref09, written by a program (res.py). -/
namespace Go.Ab
def A_xref09_Rf : AFun := { res := [.t 2], body := (.seq (.reg false [{ dst := some 1, op := .box (.t 0) },
  { dst := some 2, op := .mv (.c (.nilp)) }])
 (.seq (.reg false [{ dst := some 5, op := .fa 1 (.t 1) },
  { dst := some 6, op := .ld none (.t 5) },
  { dst := some 7, op := .len (.t 6) },
  { dst := some 8, op := .call .thaw (.c (.fn 27 [] [])) [.t 7, .c (.sl [] 0 .rig)] },
  { dst := some 3, op := .mv (.t 8) }])
 (.seq (.seq (.reg false [{ dst := some 4, op := .mv (.c (.i .i64 0)) }])
 (.blk 0 (.loop (.seq (.seq (.reg false [{ dst := some 9, op := .mv (.t 4) },
  { dst := some 10, op := .fa 2 (.t 1) },
  { dst := some 11, op := .ld none (.t 10) },
  { dst := some 12, op := .len (.t 11) },
  { dst := some 13, op := .bin .lss (.t 9) (.t 12) }])
 (.cond (.t 13) .skip
 (.ext 0)))
 (.seq (.blk 1 (.seq (.reg false [{ dst := some 16, op := .fa 2 (.t 1) },
  { dst := some 17, op := .ld none (.t 16) },
  { dst := some 18, op := .mv (.t 4) },
  { dst := some 19, op := .ia 1 (.t 17) (.t 18) },
  { dst := some 20, op := .ld none (.t 19) },
  { dst := some 21, op := .bin .geq (.t 20) (.c (.i .i64 0)) }])
 (.cond (.t 21) (.reg true [{ dst := some 22, op := .mv (.t 3) },
  { dst := some 23, op := .fa 2 (.t 1) },
  { dst := some 24, op := .ld none (.t 23), pre := [] },
  { dst := some 25, op := .mv (.t 4) },
  { dst := some 26, op := .ia 1 (.t 24) (.t 25) },
  { dst := some 27, op := .ld none (.t 26), pre := [] },
  { dst := some 28, op := .mv (.t 4) },
  { dst := some 29, op := .nilck (.t 22) },
  { dst := some 30, op := .fa 1 (.t 29) },
  { dst := some 31, op := .iaa 40 40 (.t 30) (.t 27) },
  { dst := some 32, op := .iaa 40 1 (.t 31) (.t 28) },
  { dst := none, op := .st 1 (.t 32) (.c (.b true)), pre := [] }])
 .skip)))
 (.reg false [{ dst := some 14, op := .mv (.t 4) },
  { dst := some 15, op := .bin .add (.t 14) (.c (.i .i64 1)) },
  { dst := some 4, op := .mv (.t 15) }]))))))
 (.seq (.reg false [{ dst := some 33, op := .mv (.t 3) },
  { dst := some 2, op := .mv (.t 33) }])
 .ret)))) }
def A_xref09_Co : AFun := { res := [.t 2], body := (.seq (.reg false [{ dst := some 1, op := .box (.t 0) },
  { dst := some 2, op := .mv (.c (.nilp)) }])
 (.seq (.reg false [{ dst := some 7, op := .fa 1 (.t 1) },
  { dst := some 8, op := .ld none (.t 7) },
  { dst := some 9, op := .len (.t 8) },
  { dst := some 10, op := .call .thaw (.c (.fn 27 [] [])) [.t 9, .c (.sl [] 0 .rig)] },
  { dst := some 3, op := .mv (.t 10) }])
 (.seq (.seq (.reg false [{ dst := some 4, op := .mv (.c (.i .i64 0)) }])
 (.blk 0 (.loop (.seq (.seq (.reg false [{ dst := some 11, op := .mv (.t 4) },
  { dst := some 12, op := .fa 3 (.t 1) },
  { dst := some 13, op := .ld none (.t 12) },
  { dst := some 14, op := .len (.t 13) },
  { dst := some 15, op := .bin .lss (.t 11) (.t 14) }])
 (.cond (.t 15) .skip
 (.ext 0)))
 (.seq (.blk 1 (.seq (.reg false [{ dst := some 5, op := .mv (.c (.i .i64 0)) }])
 (.blk 2 (.loop (.seq (.seq (.reg false [{ dst := some 18, op := .mv (.t 5) },
  { dst := some 19, op := .fa 3 (.t 1) },
  { dst := some 20, op := .ld none (.t 19) },
  { dst := some 21, op := .mv (.t 4) },
  { dst := some 22, op := .ia 1 (.t 20) (.t 21) },
  { dst := some 23, op := .ld none (.t 22) },
  { dst := some 24, op := .len (.t 23) },
  { dst := some 25, op := .bin .lss (.t 18) (.t 24) }])
 (.cond (.t 25) .skip
 (.ext 2)))
 (.seq (.blk 3 (.seq (.reg false [{ dst := some 28, op := .mv (.t 5) },
  { dst := some 29, op := .bin .add (.t 28) (.c (.i .i64 1)) },
  { dst := some 6, op := .mv (.t 29) }])
 (.blk 4 (.loop (.seq (.seq (.reg false [{ dst := some 30, op := .mv (.t 6) },
  { dst := some 31, op := .fa 3 (.t 1) },
  { dst := some 32, op := .ld none (.t 31) },
  { dst := some 33, op := .mv (.t 4) },
  { dst := some 34, op := .ia 1 (.t 32) (.t 33) },
  { dst := some 35, op := .ld none (.t 34) },
  { dst := some 36, op := .len (.t 35) },
  { dst := some 37, op := .bin .lss (.t 30) (.t 36) }])
 (.cond (.t 37) .skip
 (.ext 4)))
 (.seq (.blk 5 (.reg true [{ dst := some 40, op := .mv (.t 3) },
  { dst := some 41, op := .fa 3 (.t 1) },
  { dst := some 42, op := .ld none (.t 41), pre := [] },
  { dst := some 43, op := .mv (.t 4) },
  { dst := some 44, op := .ia 1 (.t 42) (.t 43) },
  { dst := some 45, op := .ld none (.t 44), pre := [] },
  { dst := some 46, op := .mv (.t 5) },
  { dst := some 47, op := .ia 1 (.t 45) (.t 46) },
  { dst := some 48, op := .ld none (.t 47), pre := [] },
  { dst := some 49, op := .fa 3 (.t 1) },
  { dst := some 50, op := .ld none (.t 49), pre := [] },
  { dst := some 51, op := .mv (.t 4) },
  { dst := some 52, op := .ia 1 (.t 50) (.t 51) },
  { dst := some 53, op := .ld none (.t 52), pre := [] },
  { dst := some 54, op := .mv (.t 6) },
  { dst := some 55, op := .ia 1 (.t 53) (.t 54) },
  { dst := some 56, op := .ld none (.t 55), pre := [] },
  { dst := some 57, op := .nilck (.t 40) },
  { dst := some 58, op := .fa 1 (.t 57) },
  { dst := some 59, op := .iaa 40 40 (.t 58) (.t 48) },
  { dst := some 60, op := .iaa 40 1 (.t 59) (.t 56) },
  { dst := none, op := .st 1 (.t 60) (.c (.b true)), pre := [] }]))
 (.reg false [{ dst := some 38, op := .mv (.t 6) },
  { dst := some 39, op := .bin .add (.t 38) (.c (.i .i64 1)) },
  { dst := some 6, op := .mv (.t 39) }])))))))
 (.reg false [{ dst := some 26, op := .mv (.t 5) },
  { dst := some 27, op := .bin .add (.t 26) (.c (.i .i64 1)) },
  { dst := some 5, op := .mv (.t 27) }])))))))
 (.reg false [{ dst := some 16, op := .mv (.t 4) },
  { dst := some 17, op := .bin .add (.t 16) (.c (.i .i64 1)) },
  { dst := some 4, op := .mv (.t 17) }]))))))
 (.seq (.reg false [{ dst := some 61, op := .mv (.t 3) },
  { dst := some 2, op := .mv (.t 61) }])
 .ret)))) }
def A_xref09_Fr : AFun := { res := [.t 2], body := (.seq (.reg false [{ dst := some 1, op := .box (.t 0) },
  { dst := some 2, op := .mv (.c (.nilp)) }])
 (.seq (.reg true [{ dst := some 3, op := .ld (some 8) (.t 1), pre := [] },
  { dst := some 4, op := .call .pure (.c (.fn 69 [] [])) [.t 3], pre := [] },
  { dst := some 5, op := .call .pure (.c (.fn 33 [] [])) [.t 4], pre := [] },
  { dst := some 6, op := .ld (some 8) (.t 1), pre := [] },
  { dst := some 7, op := .call .pure (.c (.fn 70 [] [])) [.t 6], pre := [] },
  { dst := some 8, op := .call .pure (.c (.fn 32 [] [])) [.t 5, .t 7], pre := [] },
  { dst := some 2, op := .mv (.t 8) }])
 .ret)) }
def A_xref09_Eco : AFun := { res := [.t 2], body := (.seq (.reg false [{ dst := some 1, op := .box (.t 0) },
  { dst := some 2, op := .mv (.c (.nilp)) }])
 (.seq (.reg false [{ dst := some 3, op := .ld (some 8) (.t 1) },
  { dst := some 4, op := .call .pure (.c (.fn 83 [] [])) [.t 3] },
  { dst := some 5, op := .call .pure (.c (.fn 34 [] [])) [.t 4] },
  { dst := some 2, op := .mv (.t 5) }])
 .ret)) }
def A_xref09_Loc : AFun := { res := [.t 2], body := (.seq (.reg false [{ dst := some 1, op := .box (.t 0) },
  { dst := some 2, op := .mv (.c (.nilp)) }])
 (.seq (.reg false [{ dst := some 8, op := .ld (some 8) (.t 1) },
  { dst := some 9, op := .call .thaw (.c (.fn 84 [] [])) [.t 8] },
  { dst := some 3, op := .mv (.t 9) }])
 (.seq (.seq (.reg false [{ dst := some 4, op := .mv (.c (.i .i64 0)) }])
 (.blk 0 (.loop (.seq (.seq (.reg false [{ dst := some 10, op := .mv (.t 4) },
  { dst := some 11, op := .mv (.t 3) },
  { dst := some 12, op := .nilck (.t 11) },
  { dst := some 13, op := .fa 0 (.t 12) },
  { dst := some 14, op := .ld none (.t 13) },
  { dst := some 15, op := .bin .lss (.t 10) (.t 14) }])
 (.cond (.t 15) .skip
 (.ext 0)))
 (.seq (.blk 1 (.seq (.reg false [{ dst := some 5, op := .mv (.c (.i .i64 0)) }])
 (.blk 2 (.loop (.seq (.seq (.reg false [{ dst := some 18, op := .mv (.t 5) },
  { dst := some 19, op := .mv (.t 3) },
  { dst := some 20, op := .nilck (.t 19) },
  { dst := some 21, op := .fa 0 (.t 20) },
  { dst := some 22, op := .ld none (.t 21) },
  { dst := some 23, op := .bin .lss (.t 18) (.t 22) }])
 (.cond (.t 23) .skip
 (.ext 2)))
 (.seq (.blk 3 (.seq (.reg true [{ dst := some 26, op := .fa 1 (.t 1) },
  { dst := some 27, op := .ld none (.t 26), pre := [] },
  { dst := some 28, op := .mv (.t 4) },
  { dst := some 29, op := .ia 6 (.t 27) (.t 28) },
  { dst := some 30, op := .ld (some 6) (.t 29), pre := [] },
  { dst := some 31, op := .fa 1 (.t 1) },
  { dst := some 32, op := .ld none (.t 31), pre := [] },
  { dst := some 33, op := .mv (.t 5) },
  { dst := some 34, op := .ia 6 (.t 32) (.t 33) },
  { dst := some 35, op := .ld (some 6) (.t 34), pre := [] },
  { dst := some 6, op := .new (List.replicate 5 (.i .i64 0) ++ [.b false]) },
  { dst := some 7, op := .new (List.replicate 5 (.i .i64 0) ++ [.b false]) },
  { dst := none, op := .stL 6 (.t 6) (.t 30), pre := [10] },
  { dst := none, op := .stL 6 (.t 7) (.t 35), pre := [11] }])
 (.reg true [{ dst := some 36, op := .mv (.t 3) },
  { dst := some 37, op := .mv (.t 4) },
  { dst := some 38, op := .mv (.t 5) },
  { dst := some 39, op := .mv (.t 3) },
  { dst := some 40, op := .mv (.t 4) },
  { dst := some 41, op := .mv (.t 5) },
  { dst := some 42, op := .nilck (.t 39) },
  { dst := some 43, op := .fa 1 (.t 42) },
  { dst := some 44, op := .iaa 40 40 (.t 43) (.t 40) },
  { dst := some 45, op := .iaa 40 1 (.t 44) (.t 41) },
  { dst := some 46, op := .ld none (.t 45), pre := [] },
  { dst := some 47, op := .mv (.t 46) },
  { dst := some 48, op := .fa 1 (.t 6), grd := some (47, true) },
  { dst := some 49, op := .ld none (.t 48), grd := some (47, true), pre := [] },
  { dst := some 50, op := .bin .neq (.t 49) (.c (.i .i64 3)), grd := some (47, true) },
  { dst := some 51, op := .pick (.t 47) (.t 50) (.c (.b false)) },
  { dst := some 52, op := .mv (.t 51) },
  { dst := some 53, op := .fa 1 (.t 7), grd := some (52, true) },
  { dst := some 54, op := .ld none (.t 53), grd := some (52, true), pre := [] },
  { dst := some 55, op := .bin .neq (.t 54) (.c (.i .i64 3)), grd := some (52, true) },
  { dst := some 56, op := .pick (.t 52) (.t 55) (.c (.b false)) },
  { dst := some 57, op := .mv (.t 56) },
  { dst := some 58, op := .fa 3 (.t 6), grd := some (57, true) },
  { dst := some 59, op := .ld none (.t 58), grd := some (57, true), pre := [] },
  { dst := some 60, op := .fa 3 (.t 7), grd := some (57, true) },
  { dst := some 61, op := .ld none (.t 60), grd := some (57, true), pre := [] },
  { dst := some 62, op := .bin .eql (.t 59) (.t 61), grd := some (57, true) },
  { dst := some 63, op := .pick (.t 57) (.t 62) (.c (.b false)) },
  { dst := some 64, op := .nilck (.t 36) },
  { dst := some 65, op := .fa 1 (.t 64) },
  { dst := some 66, op := .iaa 40 40 (.t 65) (.t 37) },
  { dst := some 67, op := .iaa 40 1 (.t 66) (.t 38) },
  { dst := none, op := .st 1 (.t 67) (.t 63), pre := [] }])))
 (.reg false [{ dst := some 24, op := .mv (.t 5) },
  { dst := some 25, op := .bin .add (.t 24) (.c (.i .i64 1)) },
  { dst := some 5, op := .mv (.t 25) }])))))))
 (.reg false [{ dst := some 16, op := .mv (.t 4) },
  { dst := some 17, op := .bin .add (.t 16) (.c (.i .i64 1)) },
  { dst := some 4, op := .mv (.t 17) }]))))))
 (.seq (.reg false [{ dst := some 68, op := .mv (.t 3) },
  { dst := some 2, op := .mv (.t 68) }])
 .ret)))) }
def A_xref09_Inner : AFun := { res := [.t 4], body := (.seq (.reg false [{ dst := some 2, op := .box (.t 0) },
  { dst := some 4, op := .mv (.c (.nilp)) }])
 (.seq (.reg false [{ dst := some 5, op := .ld (some 8) (.t 2) },
  { dst := some 6, op := .mv (.t 1) },
  { dst := some 7, op := .call .pure (.c (.fn 85 [] [])) [.t 5, .t 6, .c (.b true)] },
  { dst := some 4, op := .mv (.t 7) }])
 .ret)) }
def A_xref09_Outer : AFun := { res := [.t 4], body := (.seq (.reg false [{ dst := some 2, op := .box (.t 0) },
  { dst := some 4, op := .mv (.c (.nilp)) }])
 (.seq (.reg false [{ dst := some 5, op := .ld (some 8) (.t 2) },
  { dst := some 6, op := .mv (.t 1) },
  { dst := some 7, op := .call .pure (.c (.fn 85 [] [])) [.t 5, .t 6, .c (.b false)] },
  { dst := some 4, op := .mv (.t 7) }])
 .ret)) }
def A_xref09_Com : AFun := { res := [.t 2], body := (.seq (.reg false [{ dst := some 1, op := .box (.t 0) },
  { dst := some 2, op := .mv (.c (.nilp)) }])
 (.seq (.reg true [{ dst := some 3, op := .ld (some 8) (.t 1), pre := [] },
  { dst := some 4, op := .call .pure (.c (.fn 69 [] [])) [.t 3], pre := [] },
  { dst := some 5, op := .ld (some 8) (.t 1), pre := [] },
  { dst := some 6, op := .call .pure (.c (.fn 70 [] [])) [.t 5], pre := [] },
  { dst := some 7, op := .call .pure (.c (.fn 29 [] [])) [.t 4, .t 6], pre := [] },
  { dst := some 8, op := .ld (some 8) (.t 1), pre := [] },
  { dst := some 9, op := .call .pure (.c (.fn 71 [] [])) [.t 8], pre := [] },
  { dst := some 10, op := .call .pure (.c (.fn 29 [] [])) [.t 7, .t 9], pre := [] },
  { dst := some 2, op := .mv (.t 10) }])
 .ret)) }
def A_xref09_part : AFun := { res := [.t 6], body := (.seq (.reg false [{ dst := some 3, op := .box (.t 0) },
  { dst := some 6, op := .mv (.c (.nilp)) }])
 (.seq (.reg false [{ dst := some 10, op := .mv (.t 1) },
  { dst := some 11, op := .nilck (.t 10) },
  { dst := some 12, op := .fa 0 (.t 11) },
  { dst := some 13, op := .ld none (.t 12) },
  { dst := some 14, op := .call .thaw (.c (.fn 27 [] [])) [.t 13, .c (.sl [] 0 .rig)] },
  { dst := some 7, op := .mv (.t 14) }])
 (.seq (.seq (.reg false [{ dst := some 8, op := .mv (.c (.i .i64 0)) }])
 (.blk 0 (.loop (.seq (.seq (.reg false [{ dst := some 15, op := .mv (.t 8) },
  { dst := some 16, op := .mv (.t 1) },
  { dst := some 17, op := .nilck (.t 16) },
  { dst := some 18, op := .fa 0 (.t 17) },
  { dst := some 19, op := .ld none (.t 18) },
  { dst := some 20, op := .bin .lss (.t 15) (.t 19) },
  { dst := some 21, op := .mv (.t 20) },
  { dst := some 22, op := .mv (.t 8), grd := some (21, true) },
  { dst := some 23, op := .fa 1 (.t 3), grd := some (21, true) },
  { dst := some 24, op := .ld none (.t 23), grd := some (21, true) },
  { dst := some 25, op := .len (.t 24), grd := some (21, true) },
  { dst := some 26, op := .bin .lss (.t 22) (.t 25), grd := some (21, true) },
  { dst := some 27, op := .pick (.t 21) (.t 26) (.c (.b false)) }])
 (.cond (.t 27) .skip
 (.ext 0)))
 (.seq (.blk 1 (.seq (.reg false [{ dst := some 9, op := .mv (.c (.i .i64 0)) }])
 (.blk 2 (.loop (.seq (.seq (.reg false [{ dst := some 30, op := .mv (.t 9) },
  { dst := some 31, op := .mv (.t 1) },
  { dst := some 32, op := .nilck (.t 31) },
  { dst := some 33, op := .fa 0 (.t 32) },
  { dst := some 34, op := .ld none (.t 33) },
  { dst := some 35, op := .bin .lss (.t 30) (.t 34) },
  { dst := some 36, op := .mv (.t 35) },
  { dst := some 37, op := .mv (.t 9), grd := some (36, true) },
  { dst := some 38, op := .fa 1 (.t 3), grd := some (36, true) },
  { dst := some 39, op := .ld none (.t 38), grd := some (36, true) },
  { dst := some 40, op := .len (.t 39), grd := some (36, true) },
  { dst := some 41, op := .bin .lss (.t 37) (.t 40), grd := some (36, true) },
  { dst := some 42, op := .pick (.t 36) (.t 41) (.c (.b false)) }])
 (.cond (.t 42) .skip
 (.ext 2)))
 (.seq (.blk 3 (.reg true [{ dst := some 45, op := .mv (.t 7) },
  { dst := some 46, op := .mv (.t 8) },
  { dst := some 47, op := .mv (.t 9) },
  { dst := some 48, op := .mv (.t 1) },
  { dst := some 49, op := .mv (.t 8) },
  { dst := some 50, op := .mv (.t 9) },
  { dst := some 51, op := .nilck (.t 48) },
  { dst := some 52, op := .fa 1 (.t 51) },
  { dst := some 53, op := .iaa 40 40 (.t 52) (.t 49) },
  { dst := some 54, op := .iaa 40 1 (.t 53) (.t 50) },
  { dst := some 55, op := .ld none (.t 54), pre := [] },
  { dst := some 56, op := .mv (.t 55) },
  { dst := some 57, op := .fa 1 (.t 3), grd := some (56, true) },
  { dst := some 58, op := .ld none (.t 57), grd := some (56, true), pre := [] },
  { dst := some 59, op := .mv (.t 8), grd := some (56, true) },
  { dst := some 60, op := .ia 6 (.t 58) (.t 59), grd := some (56, true) },
  { dst := some 61, op := .fa 0 (.t 60), grd := some (56, true) },
  { dst := some 62, op := .ld none (.t 61), grd := some (56, true), pre := [] },
  { dst := some 63, op := .fa 1 (.t 3), grd := some (56, true) },
  { dst := some 64, op := .ld none (.t 63), grd := some (56, true), pre := [] },
  { dst := some 65, op := .mv (.t 9), grd := some (56, true) },
  { dst := some 66, op := .ia 6 (.t 64) (.t 65), grd := some (56, true) },
  { dst := some 67, op := .fa 0 (.t 66), grd := some (56, true) },
  { dst := some 68, op := .ld none (.t 67), grd := some (56, true), pre := [] },
  { dst := some 69, op := .bin .eql (.t 62) (.t 68), grd := some (56, true) },
  { dst := some 70, op := .mv (.t 2), grd := some (56, true) },
  { dst := some 71, op := .eqb false (.t 69) (.t 70), grd := some (56, true) },
  { dst := some 72, op := .pick (.t 56) (.t 71) (.c (.b false)) },
  { dst := some 73, op := .nilck (.t 45) },
  { dst := some 74, op := .fa 1 (.t 73) },
  { dst := some 75, op := .iaa 40 40 (.t 74) (.t 46) },
  { dst := some 76, op := .iaa 40 1 (.t 75) (.t 47) },
  { dst := none, op := .st 1 (.t 76) (.t 72), pre := [] }]))
 (.reg false [{ dst := some 43, op := .mv (.t 9) },
  { dst := some 44, op := .bin .add (.t 43) (.c (.i .i64 1)) },
  { dst := some 9, op := .mv (.t 44) }])))))))
 (.reg false [{ dst := some 28, op := .mv (.t 8) },
  { dst := some 29, op := .bin .add (.t 28) (.c (.i .i64 1)) },
  { dst := some 8, op := .mv (.t 29) }]))))))
 (.seq (.reg false [{ dst := some 77, op := .mv (.t 7) },
  { dst := some 6, op := .mv (.t 77) }])
 .ret)))) }
structure Pk_xref09 (F : Funs) : Prop where
  xref09_Rf : F 69 = some A_xref09_Rf
  xref09_Co : F 70 = some A_xref09_Co
  xref09_Fr : F 71 = some A_xref09_Fr
  xref09_Loc : F 73 = some A_xref09_Loc
  xref09_Inner : F 74 = some A_xref09_Inner
  xref09_Outer : F 75 = some A_xref09_Outer
  xref09_part : F 85 = some A_xref09_part
end Go.Ab
end
section
/- What graphs may be: FewGraph; functions that answer yes or no. -/
set_option linter.unusedVariables false
set_option linter.unusedSimpArgs false
namespace Go.Ab
variable {F : Funs}
theorem evs_drop : ∀ {l : List Ev} {k : Nat} (h : k < l.length), (evsC l).drop (k * 6) = evC (l.getD k ev0) ++ evsC (l.drop (k + 1))
  | p :: l, 0, _ => by simp [evsC]
  | p :: l, k + 1, h => by
    have := evs_drop (l := l) (k := k) (by simpa using h)
    simp only [List.getD_cons_succ, List.drop_succ_cons]
    rw [← this]
    simp [evsC, Nat.succ_mul, evC]
theorem ev_th_at : ∀ {l : List Ev} {k : Nat} (h : k < l.length), part ((evsC l).drop (k * 6)) 0 none = some (.i .i64 (l.getD k ev0).th)
  | p :: l, 0, _ => by simp [evsC, part, evC]
  | p :: l, k + 1, h => by
    have := ev_th_at (l := l) (k := k) (by simpa using h)
    simp only [List.getD_cons_succ]
    rw [← this]
    simp [evsC, Nat.succ_mul, evC]
theorem ev_kd_at {l : List Ev} {k : Nat} (h : k < l.length) : part (((evsC l).drop (k * 6)).drop 1) 0 none = some (.i .i64 (l.getD k ev0).kd) := by
  rw [evs_drop h]; rfl
theorem ev_md_at {l : List Ev} {k : Nat} (h : k < l.length) : part (((evsC l).drop (k * 6)).drop 2) 0 none = some (.i .i64 (l.getD k ev0).md) := by
  rw [evs_drop h]; rfl
theorem ev_lc_at {l : List Ev} {k : Nat} (h : k < l.length) : part (((evsC l).drop (k * 6)).drop 3) 0 none = some (.i .i64 (l.getD k ev0).lc) := by
  rw [evs_drop h]; rfl
theorem ev_vl_at {l : List Ev} {k : Nat} (h : k < l.length) : part (((evsC l).drop (k * 6)).drop 4) 0 none = some (.i .i64 (l.getD k ev0).vl) := by
  rw [evs_drop h]; rfl
theorem ev_ex_at {l : List Ev} {k : Nat} (h : k < l.length) : part (((evsC l).drop (k * 6)).drop 5) 0 none = some (.b (l.getD k ev0).ex) := by
  rw [evs_drop h]; rfl
structure FewG (X : Gr) : Prop where
  evs : X.evs.length ≤ 50
  rf : X.rf.length ≤ 60
  co : X.co.length ≤ 6
  cos : ∀ c ∈ X.co, c.length ≤ 50
  rmw : X.rmw.length ≤ 50
  data : X.data.length ≤ 300
  ctrl : X.ctrl.length ≤ 300
  ctrli : X.ctrli.length ≤ 300
theorem FewG.few {X : Gr} (h : FewG X) : Few X := ⟨by have := h.evs; omega, h.co, fun c hc => by have := h.cos c hc; omega⟩
set_option maxRecDepth 100000 in
set_option maxHeartbeats 4000000 in
theorem sp_fewGraph (h44 : F 44 = some A_xlaw00_FewGraph) (X : Gr) : ∃ b, pureS F 44 [.agg (grC X)] = some (.b b) ∧ (b = true → FewG X) := by
  refine pureB_of h44 ?_
  have no : ∀ b : Bool, b = false → (b = true → FewG X) := fun b h h' => by rw [h] at h'; cases h'
  simp (disch := omega) only [A_xlaw00_FewGraph, wp, Nat.reduceAdd, Nat.reduceMul, Nat.reduceSub, gl]
  refine blk_cutR (fun e g => ∃ k : Nat, e 1 = .mp 0 0 ∧ g.hp 0 = some (.cells (grC X) false) ∧ 0 < g.nx ∧ ¬ (k < X.co.length ∧ k < 6) ∧ ∀ j, j < k → (X.co.getD j []).length ≤ 50) ?_ ?_
  · refine W_loop (fun q e g => ∃ k : Nat, q = 6 - k ∧ k ≤ 6 ∧ e 1 = .mp 0 0 ∧ e 3 = .i .i64 k ∧ g.hp 0 = some (.cells (grC X) false) ∧ 0 < g.nx ∧ ∀ j, j < k → (X.co.getD j []).length ≤ 50) 6 ?_ ?_
    · refine ⟨0, rfl, Nat.zero_le _, ?_⟩
      simp (disch := omega) only [wp, Nat.reduceAdd, Nat.reduceMul, Nat.reduceSub]
      exact ⟨rfl, by first | omega | (dsimp only; omega), fun j hj => by omega⟩
    · rintro q e g ⟨k, rfl, hk, e1, e3, hg, hnx, hall⟩
      by_cases h1 : k < X.co.length
      · have h1' : (k : Int) < X.co.length := by omega
        by_cases h2 : k < 6
        · have h2' : (k : Int) < 6 := by omega
          have hp := co_part h1
          have hw := succ_wrap (k := k) (by omega)
          by_cases h3 : (X.co.getD k []).length ≤ 50
          · have h3' : ¬ (((X.co.getD k []).length : Int) > 50) := by omega
            simp (disch := omega) only [wp, Nat.reduceAdd, Nat.reduceMul, Nat.reduceSub, gl, e1, e3, hg, h1', h2', hp, h3', hw]
            refine ⟨6 - (k + 1), by omega, k + 1, rfl, by omega, rfl, by first | omega | (dsimp only; omega), fun j hj => ?_⟩
            by_cases hjk : j = k
            · subst hjk; exact h3
            · exact hall j (by omega)
          · have h3' : ((X.co.getD k []).length : Int) > 50 := by omega
            simp (disch := omega) only [wp, Nat.reduceAdd, Nat.reduceMul, Nat.reduceSub, gl, e1, e3, hg, h1', h2', hp, h3']
            exact ⟨_, rfl, no _ rfl⟩
        · have h2' : ¬ ((k : Int) < 6) := by omega
          simp (disch := omega) only [wp, Nat.reduceAdd, Nat.reduceMul, Nat.reduceSub, gl, e1, e3, hg, h1', h2']
          exact ⟨k, by first | omega | (dsimp only; omega), by omega, hall⟩
      · have h1' : ¬ ((k : Int) < X.co.length) := by omega
        simp (disch := omega) only [wp, Nat.reduceAdd, Nat.reduceMul, Nat.reduceSub, gl, e1, e3, hg, h1']
        exact ⟨k, by first | omega | (dsimp only; omega), by omega, hall⟩
  · rintro e g ⟨k, e1, hg, hnx, hk, hall⟩
    by_cases c1 : (X.evs.length : Int) ≤ 50
    · by_cases c2 : (X.rf.length : Int) ≤ 60
      · by_cases c3 : (X.co.length : Int) ≤ 6
        · by_cases c4 : (X.rmw.length : Int) ≤ 50
          · by_cases c5 : (X.data.length : Int) ≤ 300
            · by_cases c6 : (X.ctrl.length : Int) ≤ 300
              · by_cases c7 : (X.ctrli.length : Int) ≤ 300
                · simp (disch := omega) only [wp, Nat.reduceAdd, Nat.reduceMul, Nat.reduceSub, gl, e1, hg, c1, c2, c3, c4, c5, c6, c7]
                  refine ⟨_, rfl, fun _ => ⟨by omega, by omega, by omega, fun c hc => ?_, by omega, by omega, by omega, by omega⟩⟩
                  obtain ⟨j, hj, rfl⟩ := List.getElem_of_mem hc
                  have := hall j (by omega)
                  rwa [List.getD_eq_getElem?_getD, List.getElem?_eq_getElem hj] at this
                · simp (disch := omega) only [wp, Nat.reduceAdd, Nat.reduceMul, Nat.reduceSub, gl, e1, hg, c1, c2, c3, c4, c5, c6, c7]
                  exact ⟨_, rfl, no _ rfl⟩
              · simp (disch := omega) only [wp, Nat.reduceAdd, Nat.reduceMul, Nat.reduceSub, gl, e1, hg, c1, c2, c3, c4, c5, c6]
                exact ⟨_, rfl, no _ rfl⟩
            · simp (disch := omega) only [wp, Nat.reduceAdd, Nat.reduceMul, Nat.reduceSub, gl, e1, hg, c1, c2, c3, c4, c5]
              exact ⟨_, rfl, no _ rfl⟩
          · simp (disch := omega) only [wp, Nat.reduceAdd, Nat.reduceMul, Nat.reduceSub, gl, e1, hg, c1, c2, c3, c4]
            exact ⟨_, rfl, no _ rfl⟩
        · simp (disch := omega) only [wp, Nat.reduceAdd, Nat.reduceMul, Nat.reduceSub, gl, e1, hg, c1, c2, c3]
          exact ⟨_, rfl, no _ rfl⟩
      · simp (disch := omega) only [wp, Nat.reduceAdd, Nat.reduceMul, Nat.reduceSub, gl, e1, hg, c1, c2]
        exact ⟨_, rfl, no _ rfl⟩
    · simp (disch := omega) only [wp, Nat.reduceAdd, Nat.reduceMul, Nat.reduceSub, gl, e1, hg, c1]
      exact ⟨_, rfl, no _ rfl⟩
end Go.Ab
end
section
/- ref06: event, rf, co, rising, rmw, deps, Check. -/
set_option linter.unusedVariables false
set_option linter.unusedSimpArgs false
namespace Go.Ab
variable {F : Funs}
def EvOk (locs i : Int) (p e : Ev) : Prop :=
  (i < locs → e.th = 0 ∧ e.kd = 2 ∧ e.md = 0 ∧ e.lc = i ∧ e.vl = 0 ∧ e.ex = false) ∧
  (¬ i < locs → 1 ≤ e.th ∧ e.th ≤ 4 ∧ p.th ≤ e.th ∧ ((e.kd = 1 ∧ 0 ≤ e.lc ∧ e.lc < locs ∧ (e.md = 0 ∨ e.md = 1)) ∨ (e.kd = 2 ∧ 0 ≤ e.lc ∧ e.lc < locs ∧ (e.md = 0 ∨ e.md = 2)) ∨ (e.kd = 3 ∧ 1 ≤ e.md ∧ e.md ≤ 4 ∧ e.lc = 0 ∧ e.vl = 0 ∧ e.ex = false)))
set_option maxRecDepth 100000 in
set_option maxHeartbeats 4000000 in
theorem sp_event (h63 : F 63 = some A_xref06_event) {X : Gr} {i : Nat} (hi : i < X.evs.length) (hl : 1 ≤ X.locs) (hn : X.evs.length ≤ 100) : ∃ b, pureS F 63 [.agg (grC X), .i .i64 i] = some (.b b) ∧ (b = true → EvOk X.locs i (X.evs.getD (i - 1) ev0) (X.evs.getD i ev0)) := by
  refine pureB_of h63 ?_
  have hp := ev_part hi
  have hq := ev_th_at (l := X.evs) (k := i - 1) (by omega)
  have hdl : (List.drop ((i - 1) * 6) (evsC X.evs)).length = X.evs.length * 6 - (i - 1) * 6 := by rw [List.length_drop, evsC_len]
  generalize X.evs.getD i ev0 = ev at hp
  generalize X.evs.getD (i - 1) ev0 = pv at hq
  have hlen0 : 0 < (evC ev).length := by show 0 < 6; omega
  obtain ⟨th, kd, md, lc, vl, ex⟩ := ev
  have s6 : ∀ b1 b2 b3 b4 b5 b6 c1 c2 c3 c4 c5 c6 : AV, splice [b1, b2, b3, b4, b5, b6] 0 [c1, c2, c3, c4, c5, c6] = [c1, c2, c3, c4, c5, c6] := fun _ _ _ _ _ _ _ _ _ _ _ _ => rfl

  by_cases hlt : (i : Int) < X.locs
  · skip
    cases c1 : (th == 0)
    case false =>
      simp (disch := omega) only [A_xref06_event, wp, Nat.reduceAdd, Nat.reduceMul, Nat.reduceSub, gl, hp, hlt, c1]
      exact ⟨_, rfl, fun h => by cases h⟩
    cases c2 : (kd == 2)
    case false =>
      simp (disch := omega) only [A_xref06_event, wp, Nat.reduceAdd, Nat.reduceMul, Nat.reduceSub, gl, hp, hlt, c1, c2]
      exact ⟨_, rfl, fun h => by cases h⟩
    cases c3 : (md == 0)
    case false =>
      simp (disch := omega) only [A_xref06_event, wp, Nat.reduceAdd, Nat.reduceMul, Nat.reduceSub, gl, hp, hlt, c1, c2, c3]
      exact ⟨_, rfl, fun h => by cases h⟩
    cases c4 : (lc == (i : Int))
    case false =>
      simp (disch := omega) only [A_xref06_event, wp, Nat.reduceAdd, Nat.reduceMul, Nat.reduceSub, gl, hp, hlt, c1, c2, c3, c4]
      exact ⟨_, rfl, fun h => by cases h⟩
    cases c5 : (vl == 0)
    case false =>
      simp (disch := omega) only [A_xref06_event, wp, Nat.reduceAdd, Nat.reduceMul, Nat.reduceSub, gl, hp, hlt, c1, c2, c3, c4, c5]
      exact ⟨_, rfl, fun h => by cases h⟩
    simp (disch := omega) only [A_xref06_event, wp, Nat.reduceAdd, Nat.reduceMul, Nat.reduceSub, gl, hp, hlt, c1, c2, c3, c4, c5]
    refine ⟨_, rfl, fun h => ?_⟩
    unfold EvOk; dsimp only; refine ⟨fun _ => ?_, fun h => absurd hlt h⟩
    simp only [beq_iff_eq, Bool.not_eq_true'] at c1 c2 c3 c4 c5 h; exact ⟨c1, c2, c3, c4, c5, h⟩
  · have hi0 : 0 < i := by omega
    have hw1 : IntKind.i64.wrap ((i : Int) - 1) = ((i - 1 : Nat) : Int) := by rw [i64_wrap (by omega) (by omega)]; omega
    have hi0' : (0 : Int) < i := by omega
    by_cases t1 : th < 1
    case pos =>
      simp (disch := omega) only [A_xref06_event, wp, Nat.reduceAdd, Nat.reduceMul, Nat.reduceSub, gl, hp, hlt, t1]
      exact ⟨_, rfl, fun h => by cases h⟩
    by_cases t2 : 4 < th
    case pos =>
      simp (disch := omega) only [A_xref06_event, wp, Nat.reduceAdd, Nat.reduceMul, Nat.reduceSub, gl, hp, hlt, t1, t2]
      exact ⟨_, rfl, fun h => by cases h⟩
    by_cases t3 : th < pv.th
    case pos =>
      simp (disch := omega) only [A_xref06_event, wp, Nat.reduceAdd, Nat.reduceMul, Nat.reduceSub, gl, hp, hlt, t1, t2, hi0', hw1, hq, hdl, t3]
      exact ⟨_, rfl, fun h => by cases h⟩
    by_cases l1 : 0 ≤ lc
    case neg =>
      cases k1 : (kd == 1)
      case true =>
        simp (disch := omega) only [A_xref06_event, wp, Nat.reduceAdd, Nat.reduceMul, Nat.reduceSub, gl, hp, hlt, t1, t2, hi0', hw1, hq, hdl, t3, l1, k1]
        exact ⟨_, rfl, fun h => by cases h⟩
      cases k2 : (kd == 2)
      case true =>
        simp (disch := omega) only [A_xref06_event, wp, Nat.reduceAdd, Nat.reduceMul, Nat.reduceSub, gl, hp, hlt, t1, t2, hi0', hw1, hq, hdl, t3, l1, k1, k2]
        exact ⟨_, rfl, fun h => by cases h⟩
      cases k3 : (kd == 3)
      case false =>
        simp (disch := omega) only [A_xref06_event, wp, Nat.reduceAdd, Nat.reduceMul, Nat.reduceSub, gl, hp, hlt, t1, t2, hi0', hw1, hq, hdl, t3, l1, k1, k2, k3]
        exact ⟨_, rfl, fun h => by cases h⟩
      by_cases a1 : 1 ≤ md
      case neg =>
        simp (disch := omega) only [A_xref06_event, wp, Nat.reduceAdd, Nat.reduceMul, Nat.reduceSub, gl, hp, hlt, t1, t2, hi0', hw1, hq, hdl, t3, l1, k1, k2, k3, a1]
        exact ⟨_, rfl, fun h => by cases h⟩
      by_cases a2 : md ≤ 4
      case neg =>
        simp (disch := omega) only [A_xref06_event, wp, Nat.reduceAdd, Nat.reduceMul, Nat.reduceSub, gl, hp, hlt, t1, t2, hi0', hw1, hq, hdl, t3, l1, k1, k2, k3, a1, a2]
        exact ⟨_, rfl, fun h => by cases h⟩
      cases a3 : (lc == 0)
      case false =>
        simp (disch := omega) only [A_xref06_event, wp, Nat.reduceAdd, Nat.reduceMul, Nat.reduceSub, gl, hp, hlt, t1, t2, hi0', hw1, hq, hdl, t3, l1, k1, k2, k3, a1, a2, a3]
        exact ⟨_, rfl, fun h => by cases h⟩
      cases a4 : (vl == 0)
      case false =>
        simp (disch := omega) only [A_xref06_event, wp, Nat.reduceAdd, Nat.reduceMul, Nat.reduceSub, gl, hp, hlt, t1, t2, hi0', hw1, hq, hdl, t3, l1, k1, k2, k3, a1, a2, a3, a4]
        exact ⟨_, rfl, fun h => by cases h⟩
      simp (disch := omega) only [A_xref06_event, wp, Nat.reduceAdd, Nat.reduceMul, Nat.reduceSub, gl, hp, hlt, t1, t2, hi0', hw1, hq, hdl, t3, l1, k1, k2, k3, a1, a2, a3, a4]
      refine ⟨_, rfl, fun h => ?_⟩; unfold EvOk; dsimp only; exact ⟨fun h => absurd h hlt, fun _ => ⟨by omega, by omega, by omega, .inr (.inr ⟨by simpa using k3, a1, a2, by simpa using a3, by simpa using a4, by simpa using h⟩)⟩⟩
    by_cases l2 : lc < X.locs
    case neg =>
      cases k1 : (kd == 1)
      case true =>
        simp (disch := omega) only [A_xref06_event, wp, Nat.reduceAdd, Nat.reduceMul, Nat.reduceSub, gl, hp, hlt, t1, t2, hi0', hw1, hq, hdl, t3, l1, l2, k1]
        exact ⟨_, rfl, fun h => by cases h⟩
      cases k2 : (kd == 2)
      case true =>
        simp (disch := omega) only [A_xref06_event, wp, Nat.reduceAdd, Nat.reduceMul, Nat.reduceSub, gl, hp, hlt, t1, t2, hi0', hw1, hq, hdl, t3, l1, l2, k1, k2]
        exact ⟨_, rfl, fun h => by cases h⟩
      cases k3 : (kd == 3)
      case false =>
        simp (disch := omega) only [A_xref06_event, wp, Nat.reduceAdd, Nat.reduceMul, Nat.reduceSub, gl, hp, hlt, t1, t2, hi0', hw1, hq, hdl, t3, l1, l2, k1, k2, k3]
        exact ⟨_, rfl, fun h => by cases h⟩
      by_cases a1 : 1 ≤ md
      case neg =>
        simp (disch := omega) only [A_xref06_event, wp, Nat.reduceAdd, Nat.reduceMul, Nat.reduceSub, gl, hp, hlt, t1, t2, hi0', hw1, hq, hdl, t3, l1, l2, k1, k2, k3, a1]
        exact ⟨_, rfl, fun h => by cases h⟩
      by_cases a2 : md ≤ 4
      case neg =>
        simp (disch := omega) only [A_xref06_event, wp, Nat.reduceAdd, Nat.reduceMul, Nat.reduceSub, gl, hp, hlt, t1, t2, hi0', hw1, hq, hdl, t3, l1, l2, k1, k2, k3, a1, a2]
        exact ⟨_, rfl, fun h => by cases h⟩
      cases a3 : (lc == 0)
      case false =>
        simp (disch := omega) only [A_xref06_event, wp, Nat.reduceAdd, Nat.reduceMul, Nat.reduceSub, gl, hp, hlt, t1, t2, hi0', hw1, hq, hdl, t3, l1, l2, k1, k2, k3, a1, a2, a3]
        exact ⟨_, rfl, fun h => by cases h⟩
      cases a4 : (vl == 0)
      case false =>
        simp (disch := omega) only [A_xref06_event, wp, Nat.reduceAdd, Nat.reduceMul, Nat.reduceSub, gl, hp, hlt, t1, t2, hi0', hw1, hq, hdl, t3, l1, l2, k1, k2, k3, a1, a2, a3, a4]
        exact ⟨_, rfl, fun h => by cases h⟩
      simp (disch := omega) only [A_xref06_event, wp, Nat.reduceAdd, Nat.reduceMul, Nat.reduceSub, gl, hp, hlt, t1, t2, hi0', hw1, hq, hdl, t3, l1, l2, k1, k2, k3, a1, a2, a3, a4]
      refine ⟨_, rfl, fun h => ?_⟩; unfold EvOk; dsimp only; exact ⟨fun h => absurd h hlt, fun _ => ⟨by omega, by omega, by omega, .inr (.inr ⟨by simpa using k3, a1, a2, by simpa using a3, by simpa using a4, by simpa using h⟩)⟩⟩
    cases k1 : (kd == 1)
    case true =>
      cases m0 : (md == 0)
      case true =>
        simp (disch := omega) only [A_xref06_event, wp, Nat.reduceAdd, Nat.reduceMul, Nat.reduceSub, gl, hp, hlt, t1, t2, hi0', hw1, hq, hdl, t3, l1, l2, k1, m0]
        refine ⟨_, rfl, fun _ => ?_⟩; unfold EvOk; dsimp only; exact ⟨fun h => absurd h hlt, fun _ => ⟨by omega, by omega, by omega, .inl ⟨by simpa using k1, l1, l2, .inl (by simpa using m0)⟩⟩⟩
      simp (disch := omega) only [A_xref06_event, wp, Nat.reduceAdd, Nat.reduceMul, Nat.reduceSub, gl, hp, hlt, t1, t2, hi0', hw1, hq, hdl, t3, l1, l2, k1, m0]
      refine ⟨_, rfl, fun h => ?_⟩; unfold EvOk; dsimp only; exact ⟨fun h => absurd h hlt, fun _ => ⟨by omega, by omega, by omega, .inl ⟨by simpa using k1, l1, l2, .inr (by simpa using h)⟩⟩⟩
    cases k2 : (kd == 2)
    case true =>
      cases m0 : (md == 0)
      case true =>
        simp (disch := omega) only [A_xref06_event, wp, Nat.reduceAdd, Nat.reduceMul, Nat.reduceSub, gl, hp, hlt, t1, t2, hi0', hw1, hq, hdl, t3, l1, l2, k1, k2, m0]
        refine ⟨_, rfl, fun _ => ?_⟩; unfold EvOk; dsimp only; exact ⟨fun h => absurd h hlt, fun _ => ⟨by omega, by omega, by omega, .inr (.inl ⟨by simpa using k2, l1, l2, .inl (by simpa using m0)⟩)⟩⟩
      simp (disch := omega) only [A_xref06_event, wp, Nat.reduceAdd, Nat.reduceMul, Nat.reduceSub, gl, hp, hlt, t1, t2, hi0', hw1, hq, hdl, t3, l1, l2, k1, k2, m0]
      refine ⟨_, rfl, fun h => ?_⟩; unfold EvOk; dsimp only; exact ⟨fun h => absurd h hlt, fun _ => ⟨by omega, by omega, by omega, .inr (.inl ⟨by simpa using k2, l1, l2, .inr (by simpa using h)⟩)⟩⟩
    cases k3 : (kd == 3)
    case false =>
      simp (disch := omega) only [A_xref06_event, wp, Nat.reduceAdd, Nat.reduceMul, Nat.reduceSub, gl, hp, hlt, t1, t2, hi0', hw1, hq, hdl, t3, l1, l2, k1, k2, k3]
      exact ⟨_, rfl, fun h => by cases h⟩
    by_cases a1 : 1 ≤ md
    case neg =>
      simp (disch := omega) only [A_xref06_event, wp, Nat.reduceAdd, Nat.reduceMul, Nat.reduceSub, gl, hp, hlt, t1, t2, hi0', hw1, hq, hdl, t3, l1, l2, k1, k2, k3, a1]
      exact ⟨_, rfl, fun h => by cases h⟩
    by_cases a2 : md ≤ 4
    case neg =>
      simp (disch := omega) only [A_xref06_event, wp, Nat.reduceAdd, Nat.reduceMul, Nat.reduceSub, gl, hp, hlt, t1, t2, hi0', hw1, hq, hdl, t3, l1, l2, k1, k2, k3, a1, a2]
      exact ⟨_, rfl, fun h => by cases h⟩
    cases a3 : (lc == 0)
    case false =>
      simp (disch := omega) only [A_xref06_event, wp, Nat.reduceAdd, Nat.reduceMul, Nat.reduceSub, gl, hp, hlt, t1, t2, hi0', hw1, hq, hdl, t3, l1, l2, k1, k2, k3, a1, a2, a3]
      exact ⟨_, rfl, fun h => by cases h⟩
    cases a4 : (vl == 0)
    case false =>
      simp (disch := omega) only [A_xref06_event, wp, Nat.reduceAdd, Nat.reduceMul, Nat.reduceSub, gl, hp, hlt, t1, t2, hi0', hw1, hq, hdl, t3, l1, l2, k1, k2, k3, a1, a2, a3, a4]
      exact ⟨_, rfl, fun h => by cases h⟩
    simp (disch := omega) only [A_xref06_event, wp, Nat.reduceAdd, Nat.reduceMul, Nat.reduceSub, gl, hp, hlt, t1, t2, hi0', hw1, hq, hdl, t3, l1, l2, k1, k2, k3, a1, a2, a3, a4]
    refine ⟨_, rfl, fun h => ?_⟩; unfold EvOk; dsimp only; exact ⟨fun h => absurd h hlt, fun _ => ⟨by omega, by omega, by omega, .inr (.inr ⟨by simpa using k3, a1, a2, by simpa using a3, by simpa using a4, by simpa using h⟩)⟩⟩
end Go.Ab
end
section
/- ref06: rf, co. -/
set_option linter.unusedVariables false
set_option linter.unusedSimpArgs false
namespace Go.Ab
variable {F : Funs}
def RfOk (X : Gr) (i : Nat) : Prop := ((X.evs.getD i ev0).kd ≠ 1 → X.rf.getD i 0 = -1) ∧
  ((X.evs.getD i ev0).kd = 1 → 0 ≤ X.rf.getD i 0 ∧ X.rf.getD i 0 < X.evs.length ∧ (X.evs.getD (X.rf.getD i 0).toNat ev0).kd = 2 ∧ (X.evs.getD (X.rf.getD i 0).toNat ev0).lc = (X.evs.getD i ev0).lc ∧ (X.evs.getD (X.rf.getD i 0).toNat ev0).vl = (X.evs.getD i ev0).vl)
set_option maxRecDepth 100000 in
set_option maxHeartbeats 4000000 in
theorem sp_rfC (h64 : F 64 = some A_xref06_rf) {X : Gr} {i : Nat} (hi : i < X.evs.length) (hr : i < X.rf.length) : ∃ b, pureS F 64 [.agg (grC X), .i .i64 i] = some (.b b) ∧ (b = true → RfOk X i) := by
  refine pureB_of h64 ?_
  have hp := ev_part hi
  have hq := ints_part hr
  have hx := fun h => ev_part (l := X.evs) (k := (X.rf.getD i 0).toNat) h
  have fin : ∀ P : Prop, (RfOk X i → P) → (((X.evs.getD i ev0).kd ≠ 1 → X.rf.getD i 0 = -1) ∧ ((X.evs.getD i ev0).kd = 1 → 0 ≤ X.rf.getD i 0 ∧ X.rf.getD i 0 < X.evs.length ∧ (X.evs.getD (X.rf.getD i 0).toNat ev0).kd = 2 ∧ (X.evs.getD (X.rf.getD i 0).toNat ev0).lc = (X.evs.getD i ev0).lc ∧ (X.evs.getD (X.rf.getD i 0).toNat ev0).vl = (X.evs.getD i ev0).vl)) → P := fun P h h' => h h'
  have fin := fin _ id
  generalize RfOk X i = P at fin
  generalize X.evs.getD i ev0 = ev at hp fin
  generalize X.rf.getD i 0 = w at hq hx fin
  generalize X.evs.getD w.toNat ev0 = xv at hx fin
  obtain ⟨th, kd, md, lc, vl, ex⟩ := ev
  obtain ⟨th', kd', md', lc', vl', ex'⟩ := xv
  have s6 : ∀ b1 b2 b3 b4 b5 b6 c1 c2 c3 c4 c5 c6 : AV, splice [b1, b2, b3, b4, b5, b6] 0 [c1, c2, c3, c4, c5, c6] = [c1, c2, c3, c4, c5, c6] := fun _ _ _ _ _ _ _ _ _ _ _ _ => rfl
  simp only at fin
  cases c1 : (kd != 1)
  case true =>
    simp (disch := omega) only [A_xref06_rf, wp, Nat.reduceAdd, Nat.reduceMul, Nat.reduceSub, gl, hp, hq, c1]
    exact ⟨_, rfl, fun h => fin ⟨fun _ => by simpa using h, fun h' => by simp [h'] at c1⟩⟩
  have hk : kd = 1 := by simpa using c1
  by_cases w0 : w < 0
  case pos =>
    simp (disch := omega) only [A_xref06_rf, wp, Nat.reduceAdd, Nat.reduceMul, Nat.reduceSub, gl, hp, hq, c1, w0]
    exact ⟨_, rfl, fun h => by cases h⟩
  by_cases w1 : X.evs.length ≤ w
  case pos =>
    simp (disch := omega) only [A_xref06_rf, wp, Nat.reduceAdd, Nat.reduceMul, Nat.reduceSub, gl, hp, hq, c1, w0, w1]
    exact ⟨_, rfl, fun h => by cases h⟩
  have hx := hx (by omega)
  cases c2 : (kd' == 2)
  case false =>
    simp (disch := omega) only [A_xref06_rf, wp, Nat.reduceAdd, Nat.reduceMul, Nat.reduceSub, gl, hp, hq, c1, w0, w1, hx, c2]
    exact ⟨_, rfl, fun h => by cases h⟩
  cases c3 : (lc' == lc)
  case false =>
    simp (disch := omega) only [A_xref06_rf, wp, Nat.reduceAdd, Nat.reduceMul, Nat.reduceSub, gl, hp, hq, c1, w0, w1, hx, c2, c3]
    exact ⟨_, rfl, fun h => by cases h⟩
  simp (disch := omega) only [A_xref06_rf, wp, Nat.reduceAdd, Nat.reduceMul, Nat.reduceSub, gl, hp, hq, c1, w0, w1, hx, c2, c3]
  exact ⟨_, rfl, fun h => fin ⟨fun h' => absurd hk h', fun _ => ⟨by omega, by omega, by simpa using c2, by simpa using c3, by simpa using h⟩⟩⟩
def isWr (loc : Int) (e : Ev) : Bool := e.kd == 2 && e.lc == loc
def cntW (X : Gr) (loc : Int) (k : Nat) : Nat := ((X.evs.take k).filter (isWr loc)).length
theorem cntW_succ {X : Gr} {loc : Int} {k : Nat} (h : k < X.evs.length) : cntW X loc (k + 1) = if isWr loc (X.evs.getD k ev0) then cntW X loc k + 1 else cntW X loc k := by
  unfold cntW
  rw [List.take_add_one, List.filter_append, List.getElem?_eq_getElem h, List.getD_eq_getElem?_getD, List.getElem?_eq_getElem h, List.length_append]
  simp only [Option.toList, Option.getD_some, List.filter_cons, List.filter_nil]
  split <;> simp_all
theorem cntW_le (X : Gr) (loc : Int) (k : Nat) : cntW X loc k ≤ k := by
  unfold cntW
  have h1 := List.length_filter_le (isWr loc) (X.evs.take k)
  rw [List.length_take] at h1; omega
structure CoOk (X : Gr) (loc : Nat) : Prop where
  wr : ∀ i, i < (X.co.getD loc []).length → 0 ≤ (X.co.getD loc []).getD i 0 ∧ (X.co.getD loc []).getD i 0 < X.evs.length ∧ (X.evs.getD ((X.co.getD loc []).getD i 0).toNat ev0).kd = 2 ∧ (X.evs.getD ((X.co.getD loc []).getD i 0).toNat ev0).lc = loc
  ne : ∀ i, i < (X.co.getD loc []).length → ∀ k, k < i → (X.co.getD loc []).getD k 0 ≠ (X.co.getD loc []).getD i 0
  len : (X.co.getD loc []).length = cntW X loc X.evs.length
  pos : 0 < (X.co.getD loc []).length
  hd : (X.co.getD loc []).getD 0 0 = loc
set_option maxRecDepth 100000 in
set_option maxHeartbeats 4000000 in
theorem sp_coC (h65 : F 65 = some A_xref06_co) {X : Gr} {loc : Nat} (hl : loc < X.co.length) (hn : X.evs.length ≤ 100) (hc : (X.co.getD loc []).length ≤ 100) : ∃ b, pureS F 65 [.agg (grC X), .i .i64 loc] = some (.b b) ∧ (b = true → CoOk X loc) := by
  refine pureB_of h65 ?_
  have hp := co_part hl
  have fin : (∀ i, i < (X.co.getD loc []).length → 0 ≤ (X.co.getD loc []).getD i 0 ∧ (X.co.getD loc []).getD i 0 < X.evs.length ∧ (X.evs.getD ((X.co.getD loc []).getD i 0).toNat ev0).kd = 2 ∧ (X.evs.getD ((X.co.getD loc []).getD i 0).toNat ev0).lc = loc) → (∀ i, i < (X.co.getD loc []).length → ∀ k, k < i → (X.co.getD loc []).getD k 0 ≠ (X.co.getD loc []).getD i 0) → (X.co.getD loc []).length = cntW X loc X.evs.length → 0 < (X.co.getD loc []).length → (X.co.getD loc []).getD 0 0 = loc → CoOk X loc := fun a b c d e => ⟨a, b, c, d, e⟩
  generalize X.co.getD loc [] = l at hp fin hc
  simp (disch := omega) only [A_xref06_co, wp, Nat.reduceAdd, Nat.reduceMul, Nat.reduceSub, gl, hp]
  refine blk_cut (fun e g => e 1 = .i .i64 loc ∧ e 2 = .mp 0 0 ∧ e 5 = .sl (intsC l) l.length .non ∧ e 6 = .i .i64 (cntW X loc X.evs.length : Nat) ∧ g.hp 0 = some (.cells (grC X) false) ∧ 0 < g.nx) ?_ ?_
  · refine W_loop (fun q e g => ∃ k : Nat, q = X.evs.length - k ∧ k ≤ X.evs.length ∧ e 1 = .i .i64 loc ∧ e 2 = .mp 0 0 ∧ e 5 = .sl (intsC l) l.length .non ∧ e 6 = .i .i64 (cntW X loc k : Nat) ∧ e 7 = .i .i64 k ∧ g.hp 0 = some (.cells (grC X) false) ∧ 0 < g.nx) X.evs.length ?_ ?_
    · refine ⟨0, rfl, Nat.zero_le _, ?_⟩
      simp (disch := omega) only [wp, Nat.reduceAdd, Nat.reduceMul, Nat.reduceSub]
      exact ⟨rfl, rfl, by first | omega | (dsimp only; omega)⟩
    · rintro q e g ⟨k, rfl, hk, e1, e2, e5, e6, e7, hg, hnx⟩
      by_cases hk' : k < X.evs.length
      · have hk1 : (k : Int) < X.evs.length := by omega
        have hwk := succ_wrap (k := k) (by omega)
        have hkd := ev_kd_at hk'
        have hlc := ev_lc_at hk'
        have hdl : (List.drop (k * 6) (evsC X.evs)).length = X.evs.length * 6 - k * 6 := by rw [List.length_drop, evsC_len]
        have hs := cntW_succ (loc := loc) hk'
        have hle := cntW_le X loc k
        unfold isWr at hs
        generalize cntW X loc k = c at e6 hs hle
        have hwc := succ_wrap (k := c) (by omega)
        generalize X.evs.getD k ev0 = ev at hkd hlc hs
        cases c1 : (ev.kd == 2)
        case false =>
          rw [c1] at hs
          simp (disch := omega) only [wp, Nat.reduceAdd, Nat.reduceMul, Nat.reduceSub, gl, e1, e2, e5, e6, e7, hg, hk1, hkd, hlc, hdl, c1, hwk]
          refine ⟨X.evs.length - (k + 1), by omega, k + 1, rfl, by omega, by rw [hs]; rfl, rfl, by first | omega | (dsimp only; omega)⟩
        cases c2 : (ev.lc == (loc : Int))
        case false =>
          rw [c1, c2] at hs
          simp (disch := omega) only [wp, Nat.reduceAdd, Nat.reduceMul, Nat.reduceSub, gl, e1, e2, e5, e6, e7, hg, hk1, hkd, hlc, hdl, c1, c2, hwk]
          refine ⟨X.evs.length - (k + 1), by omega, k + 1, rfl, by omega, by rw [hs]; rfl, rfl, by first | omega | (dsimp only; omega)⟩
        rw [c1, c2] at hs
        simp (disch := omega) only [wp, Nat.reduceAdd, Nat.reduceMul, Nat.reduceSub, gl, e1, e2, e5, e6, e7, hg, hk1, hkd, hlc, hdl, c1, c2, hwk, hwc]
        refine ⟨X.evs.length - (k + 1), by omega, k + 1, rfl, by omega, by rw [hs]; rfl, rfl, by first | omega | (dsimp only; omega)⟩
      · obtain rfl : k = X.evs.length := by omega
        have hk1 : ¬ ((X.evs.length : Int) < X.evs.length) := by omega
        simp (disch := omega) only [wp, Nat.reduceAdd, Nat.reduceMul, Nat.reduceSub, gl, e1, e2, e5, e6, e7, hg, hk1]
        first | omega | (dsimp only; omega)
  · rintro e g ⟨e1, e2, e5, e6, hg, hnx⟩
    simp (disch := omega) only [wp, Nat.reduceAdd, Nat.reduceMul, Nat.reduceSub, e1, e2, e5, e6]
    have hcl := cntW_le X loc X.evs.length
    generalize cntW X loc X.evs.length = N at e6 fin hcl
    refine W_loop (fun q e g => ∃ i : Nat, q = l.length - i ∧ i ≤ l.length ∧ e 1 = .i .i64 loc ∧ e 2 = .mp 0 0 ∧ e 5 = .sl (intsC l) l.length .non ∧ e 6 = .i .i64 (N : Nat) ∧ e 8 = .i .i64 i ∧ g.hp 0 = some (.cells (grC X) false) ∧ 0 < g.nx ∧
      (∀ j, j < i → 0 ≤ l.getD j 0 ∧ l.getD j 0 < X.evs.length ∧ (X.evs.getD (l.getD j 0).toNat ev0).kd = 2 ∧ (X.evs.getD (l.getD j 0).toNat ev0).lc = loc) ∧ (∀ j, j < i → ∀ k, k < j → l.getD k 0 ≠ l.getD j 0)) l.length ?_ ?_
    · refine ⟨0, rfl, Nat.zero_le _, ?_⟩
      simp (disch := omega) only [wp, Nat.reduceAdd, Nat.reduceMul, Nat.reduceSub, e1, e2, e5, e6]
      exact ⟨rfl, hg, by first | omega | (dsimp only; omega), fun j hj => by omega, fun j hj => by omega⟩
    · rintro q e g ⟨i, rfl, hi, e1, e2, e5, e6, e8, hg, hnx, hall, hne⟩
      by_cases hi' : i < l.length
      · have hi1 : (i : Int) < l.length := by omega
        have hwi := succ_wrap (k := i) (by omega)
        have hip := ints_part hi'
        have hnew : ∀ x, l.getD i 0 = x → True := fun _ _ => trivial
        by_cases b1 : l.getD i 0 < 0
        case pos =>
          simp (disch := omega) only [wp, Nat.reduceAdd, Nat.reduceMul, Nat.reduceSub, gl, e1, e2, e5, e6, e8, hg, hi1, hip, b1]
          exact ⟨_, rfl, fun h => by cases h⟩
        by_cases b2 : (X.evs.length : Int) ≤ l.getD i 0
        case pos =>
          simp (disch := omega) only [wp, Nat.reduceAdd, Nat.reduceMul, Nat.reduceSub, gl, e1, e2, e5, e6, e8, hg, hi1, hip, b1, b2]
          exact ⟨_, rfl, fun h => by cases h⟩
        have hkd := ev_kd_at (l := X.evs) (k := (l.getD i 0).toNat) (by omega)
        have hlc := ev_lc_at (l := X.evs) (k := (l.getD i 0).toNat) (by omega)
        have hdl : (List.drop ((l.getD i 0).toNat * 6) (evsC X.evs)).length = X.evs.length * 6 - (l.getD i 0).toNat * 6 := by rw [List.length_drop, evsC_len]
        cases c1 : ((X.evs.getD (l.getD i 0).toNat ev0).kd != 2)
        case true =>
          simp (disch := omega) only [wp, Nat.reduceAdd, Nat.reduceMul, Nat.reduceSub, gl, e1, e2, e5, e6, e8, hg, hi1, hip, b1, b2, hkd, hlc, hdl, c1]
          exact ⟨_, rfl, fun h => by cases h⟩
        cases c2 : ((X.evs.getD (l.getD i 0).toNat ev0).lc != (loc : Int))
        case true =>
          simp (disch := omega) only [wp, Nat.reduceAdd, Nat.reduceMul, Nat.reduceSub, gl, e1, e2, e5, e6, e8, hg, hi1, hip, b1, b2, hkd, hlc, hdl, c1, c2]
          exact ⟨_, rfl, fun h => by cases h⟩
        simp (disch := omega) only [wp, Nat.reduceAdd, Nat.reduceMul, Nat.reduceSub, gl, e1, e2, e5, e6, e8, hg, hi1, hip, b1, b2, hkd, hlc, hdl, c1, c2]
        have hall' : ∀ j, j < i + 1 → 0 ≤ l.getD j 0 ∧ l.getD j 0 < X.evs.length ∧ (X.evs.getD (l.getD j 0).toNat ev0).kd = 2 ∧ (X.evs.getD (l.getD j 0).toNat ev0).lc = loc := by
          intro j hj
          by_cases hji : j = i
          · subst hji; exact ⟨by omega, by omega, by simpa using c1, by simpa using c2⟩
          · exact hall j (by omega)
        refine W_loop (fun q e g => ∃ k : Nat, q = i - k ∧ k ≤ i ∧ e 1 = .i .i64 loc ∧ e 2 = .mp 0 0 ∧ e 5 = .sl (intsC l) l.length .non ∧ e 6 = .i .i64 (N : Nat) ∧ e 8 = .i .i64 i ∧ e 9 = .i .i64 k ∧ g.hp 0 = some (.cells (grC X) false) ∧ 0 < g.nx ∧ (∀ m, m < k → l.getD m 0 ≠ l.getD i 0)) i ?_ ?_
        · refine ⟨0, rfl, Nat.zero_le _, ?_⟩
          simp (disch := omega) only [wp, Nat.reduceAdd, Nat.reduceMul, Nat.reduceSub, e1, e2, e5, e6, e8]
          exact ⟨rfl, hg, by first | omega | (dsimp only; omega), fun j hj => by omega⟩
        · rintro q e g ⟨k, rfl, hk, e1, e2, e5, e6, e8, e9, hg, hnx, hm⟩
          by_cases hk' : k < i
          · have hk1 : (k : Int) < i := by omega
            have hkl : (k : Int) < l.length := by omega
            have hwk := succ_wrap (k := k) (by omega)
            have hkp := ints_part (l := l) (k := k) (by omega)
            cases c3 : (l.getD k 0 == l.getD i 0)
            case true =>
              simp (disch := omega) only [wp, Nat.reduceAdd, Nat.reduceMul, Nat.reduceSub, gl, e1, e2, e5, e6, e8, e9, hg, hk1, hkl, hi1, hip, hkp, c3]
              exact ⟨_, rfl, fun h => by cases h⟩
            simp (disch := omega) only [wp, Nat.reduceAdd, Nat.reduceMul, Nat.reduceSub, gl, e1, e2, e5, e6, e8, e9, hg, hk1, hkl, hi1, hip, hkp, c3, hwk]
            refine ⟨i - (k + 1), by omega, k + 1, rfl, by omega, rfl, by first | omega | (dsimp only; omega), fun m hmk => ?_⟩
            by_cases hmk' : m = k
            · subst hmk'; simpa using c3
            · exact hm m (by omega)
          · obtain rfl : k = i := by omega
            have hk1 : ¬ ((k : Int) < k) := by omega
            simp (disch := omega) only [wp, Nat.reduceAdd, Nat.reduceMul, Nat.reduceSub, gl, e1, e2, e5, e6, e8, e9, hg, hk1, hwi]
            refine ⟨l.length - (k + 1), by omega, k + 1, rfl, by omega, rfl, by first | omega | (dsimp only; omega), hall', fun j hj m hmj => ?_⟩
            by_cases hjk : j = k
            · subst hjk; exact hm m hmj
            · exact hne j (by omega) m hmj
      · obtain rfl : i = l.length := by omega
        have hi1 : ¬ ((l.length : Int) < l.length) := by omega
        cases c4 : ((l.length : Int) == (N : Int))
        case false =>
          simp (disch := omega) only [wp, Nat.reduceAdd, Nat.reduceMul, Nat.reduceSub, gl, e1, e2, e5, e6, e8, hg, hi1, c4]
          exact ⟨_, rfl, fun h => by cases h⟩
        by_cases c5 : (0 : Int) < N
        case neg =>
          simp (disch := omega) only [wp, Nat.reduceAdd, Nat.reduceMul, Nat.reduceSub, gl, e1, e2, e5, e6, e8, hg, hi1, c4, c5]
          exact ⟨_, rfl, fun h => by cases h⟩
        have hlN : (l.length : Int) = N := by simpa using c4
        have hp0 := ints_part (l := l) (k := 0) (by omega)
        rw [Nat.zero_mul, List.drop_zero] at hp0
        simp (disch := omega) only [wp, Nat.reduceAdd, Nat.reduceMul, Nat.reduceSub, gl, e1, e2, e5, e6, e8, hg, hi1, c4, c5, hp0]
        exact ⟨_, rfl, fun h => fin hall hne (by omega) (by omega) (by simpa using h)⟩
end Go.Ab
end
section
/- ref06: rising, deps, rmw. -/
set_option linter.unusedVariables false
set_option linter.unusedSimpArgs false
namespace Go.Ab
variable {F : Funs}
def lessP (p q : Int × Int) : Prop := p.1 < q.1 ∨ (p.1 = q.1 ∧ p.2 < q.2)
def Rising (l : List (Int × Int)) : Prop := ∀ i, i + 1 < l.length → lessP (l.getD i (0, 0)) (l.getD (i + 1) (0, 0))
set_option maxRecDepth 100000 in
set_option maxHeartbeats 4000000 in
theorem sp_rising (h82 : F 82 = some A_xref06_rising) (l : List (Int × Int)) (t : Tok) (hl : l.length ≤ 1000) : ∃ b, pureS F 82 [.sl (pairsC l) l.length t] = some (.b b) ∧ (b = true → Rising l) := by
  refine pureB_of h82 ?_
  have fin : (∀ i, i + 1 < l.length → lessP (l.getD i (0, 0)) (l.getD (i + 1) (0, 0))) → Rising l := id
  generalize Rising l = P at fin
  simp (disch := omega) only [A_xref06_rising, wp, Nat.reduceAdd, Nat.reduceMul, Nat.reduceSub, gl]
  refine W_loop (fun q e g => ∃ k : Nat, q = l.length - k ∧ k ≤ l.length ∧ e 0 = .sl (pairsC l) l.length t ∧ e 3 = .i .i64 ((k + 1 : Nat) : Int) ∧ (∀ i, i + 1 < k + 1 → lessP (l.getD i (0, 0)) (l.getD (i + 1) (0, 0)))) l.length ?_ ?_
  · refine ⟨0, rfl, Nat.zero_le _, ?_⟩
    simp (disch := omega) only [wp, Nat.reduceAdd, Nat.reduceMul, Nat.reduceSub]
    exact ⟨rfl, fun i hi => by omega⟩
  · rintro q e g ⟨k, rfl, hk, e0, e3, hall⟩
    by_cases hk' : k + 1 < l.length
    · have hk1 : ((k + 1 : Nat) : Int) < l.length := by omega
      have hk0 : (k : Int) < l.length := by omega
      have hwk := succ_wrap (k := k + 1) (by omega)
      have hw1 : IntKind.i64.wrap (((k + 1 : Nat) : Int) - 1) = (k : Int) := by rw [i64_wrap (by omega) (by omega)]; omega
      have a0 := pairs_a (l := l) (k := k) (by omega)
      have b0 := pairs_b (l := l) (k := k) (by omega)
      have a1 := pairs_a hk'
      have b1 := pairs_b hk'
      have d0 : (List.drop (k * 2) (pairsC l)).length = l.length * 2 - k * 2 := by rw [List.length_drop, pairsC_len]
      have d1 : (List.drop ((k + 1) * 2) (pairsC l)).length = l.length * 2 - (k + 1) * 2 := by rw [List.length_drop, pairsC_len]
      have step : lessP (l.getD k (0, 0)) (l.getD (k + 1) (0, 0)) → ∀ i, i + 1 < k + 1 + 1 → lessP (l.getD i (0, 0)) (l.getD (i + 1) (0, 0)) := by
        intro h i hi
        by_cases hik : i = k
        · subst hik; exact h
        · exact hall i (by omega)
      generalize l.getD k (0, 0) = p at a0 b0 step
      generalize l.getD (k + 1) (0, 0) = q at a1 b1 step
      by_cases c1 : q.1 < p.1
      case pos =>
        simp (disch := omega) only [wp, Nat.reduceAdd, Nat.reduceMul, Nat.reduceSub, gl, e0, e3, hk1, hk0, hw1, a0, a1, b0, b1, d0, d1, c1]
        exact ⟨_, rfl, fun h => by cases h⟩
      cases c2 : (q.1 == p.1)
      case false =>
        have ne : q.1 ≠ p.1 := by simpa using c2
        simp (disch := omega) only [wp, Nat.reduceAdd, Nat.reduceMul, Nat.reduceSub, gl, e0, e3, hk1, hk0, hw1, a0, a1, b0, b1, d0, d1, c1, c2, hwk]
        exact ⟨l.length - (k + 1), by omega, k + 1, rfl, by omega, rfl, step (.inl (by omega))⟩
      by_cases c3 : q.2 ≤ p.2
      case pos =>
        simp (disch := omega) only [wp, Nat.reduceAdd, Nat.reduceMul, Nat.reduceSub, gl, e0, e3, hk1, hk0, hw1, a0, a1, b0, b1, d0, d1, c1, c2, c3]
        exact ⟨_, rfl, fun h => by cases h⟩
      have eq : q.1 = p.1 := by simpa using c2
      simp (disch := omega) only [wp, Nat.reduceAdd, Nat.reduceMul, Nat.reduceSub, gl, e0, e3, hk1, hk0, hw1, a0, a1, b0, b1, d0, d1, c1, c2, c3, hwk]
      exact ⟨l.length - (k + 1), by omega, k + 1, rfl, by omega, rfl, step (.inr ⟨by omega, by omega⟩)⟩
    · have hk1 : ¬ (((k + 1 : Nat) : Int) < l.length) := by omega
      simp (disch := omega) only [wp, Nat.reduceAdd, Nat.reduceMul, Nat.reduceSub, gl, e0, e3, hk1]
      exact ⟨_, rfl, fun _ => fin fun i hi => hall i (by omega)⟩
def DepOk (X : Gr) (p : Int × Int) : Prop := 0 ≤ p.1 ∧ p.1 < p.2 ∧ p.2 < X.evs.length ∧ (X.evs.getD p.1.toNat ev0).kd = 1 ∧ (X.evs.getD p.1.toNat ev0).th = (X.evs.getD p.2.toNat ev0).th
def DepsOk (X : Gr) (l : List (Int × Int)) : Prop := (∀ i, i < l.length → DepOk X (l.getD i (0, 0))) ∧ Rising l
set_option maxRecDepth 100000 in
set_option maxHeartbeats 4000000 in
theorem sp_deps (h67 : F 67 = some A_xref06_deps) (h82 : F 82 = some A_xref06_rising) (X : Gr) (l : List (Int × Int)) (t : Tok) (hl : l.length ≤ 1000) : ∃ b, pureS F 67 [.agg (grC X), .sl (pairsC l) l.length t] = some (.b b) ∧ (b = true → DepsOk X l) := by
  refine pureB_of h67 ?_
  have fin : (∀ i, i < l.length → DepOk X (l.getD i (0, 0))) ∧ Rising l → DepsOk X l := id
  generalize DepsOk X l = P at fin
  obtain ⟨br, hr, hrt⟩ := sp_rising h82 l .non hl
  simp (disch := omega) only [A_xref06_deps, wp, Nat.reduceAdd, Nat.reduceMul, Nat.reduceSub, gl]
  refine W_loop (fun q e g => ∃ k : Nat, q = l.length - k ∧ k ≤ l.length ∧ e 1 = .sl (pairsC l) l.length t ∧ e 2 = .mp 0 0 ∧ e 5 = .i .i64 k ∧ g.hp 0 = some (.cells (grC X) false) ∧ 0 < g.nx ∧ (∀ i, i < k → DepOk X (l.getD i (0, 0)))) l.length ?_ ?_
  · refine ⟨0, rfl, Nat.zero_le _, ?_⟩
    simp (disch := omega) only [wp, Nat.reduceAdd, Nat.reduceMul, Nat.reduceSub]
    exact ⟨rfl, by first | omega | (dsimp only; omega), fun i hi => by omega⟩
  · rintro q e g ⟨k, rfl, hk, e1, e2, e5, hg, hnx, hall⟩
    by_cases hk' : k < l.length
    · have hk1 : (k : Int) < l.length := by omega
      have hwk := succ_wrap (k := k) (by omega)
      have a0 := pairs_a hk'
      have b0 := pairs_b hk'
      have d0 : (List.drop (k * 2) (pairsC l)).length = l.length * 2 - k * 2 := by rw [List.length_drop, pairsC_len]
      have step : DepOk X (l.getD k (0, 0)) → ∀ i, i < k + 1 → DepOk X (l.getD i (0, 0)) := by
        intro h i hi
        by_cases hik : i = k
        · subst hik; exact h
        · exact hall i (by omega)
      generalize l.getD k (0, 0) = p at a0 b0 step
      obtain ⟨a, b⟩ := p
      simp only at a0 b0
      by_cases c1 : a < 0
      case pos =>
        simp (disch := omega) only [wp, Nat.reduceAdd, Nat.reduceMul, Nat.reduceSub, gl, e1, e2, e5, hg, hk1, a0, b0, d0, c1]
        exact ⟨_, rfl, fun h => by cases h⟩
      by_cases c2 : b ≤ a
      case pos =>
        simp (disch := omega) only [wp, Nat.reduceAdd, Nat.reduceMul, Nat.reduceSub, gl, e1, e2, e5, hg, hk1, a0, b0, d0, c1, c2]
        exact ⟨_, rfl, fun h => by cases h⟩
      by_cases c3 : (X.evs.length : Int) ≤ b
      case pos =>
        simp (disch := omega) only [wp, Nat.reduceAdd, Nat.reduceMul, Nat.reduceSub, gl, e1, e2, e5, hg, hk1, a0, b0, d0, c1, c2, c3]
        exact ⟨_, rfl, fun h => by cases h⟩
      have ka := ev_kd_at (l := X.evs) (k := a.toNat) (by omega)
      have ta := ev_th_at (l := X.evs) (k := a.toNat) (by omega)
      have tb := ev_th_at (l := X.evs) (k := b.toNat) (by omega)
      have da : (List.drop (a.toNat * 6) (evsC X.evs)).length = X.evs.length * 6 - a.toNat * 6 := by rw [List.length_drop, evsC_len]
      have db : (List.drop (b.toNat * 6) (evsC X.evs)).length = X.evs.length * 6 - b.toNat * 6 := by rw [List.length_drop, evsC_len]
      cases c4 : ((X.evs.getD a.toNat ev0).kd != 1)
      case true =>
        simp (disch := omega) only [wp, Nat.reduceAdd, Nat.reduceMul, Nat.reduceSub, gl, e1, e2, e5, hg, hk1, a0, b0, d0, c1, c2, c3, ka, ta, tb, da, db, c4]
        exact ⟨_, rfl, fun h => by cases h⟩
      cases c5 : ((X.evs.getD a.toNat ev0).th != (X.evs.getD b.toNat ev0).th)
      case true =>
        simp (disch := omega) only [wp, Nat.reduceAdd, Nat.reduceMul, Nat.reduceSub, gl, e1, e2, e5, hg, hk1, a0, b0, d0, c1, c2, c3, ka, ta, tb, da, db, c4, c5]
        exact ⟨_, rfl, fun h => by cases h⟩
      simp (disch := omega) only [wp, Nat.reduceAdd, Nat.reduceMul, Nat.reduceSub, gl, e1, e2, e5, hg, hk1, a0, b0, d0, c1, c2, c3, ka, ta, tb, da, db, c4, c5, hwk]
      refine ⟨l.length - (k + 1), by omega, k + 1, rfl, by omega, rfl, by first | omega | (dsimp only; omega), step ⟨?_, ?_, ?_, by simpa using c4, by simpa using c5⟩⟩ <;> (dsimp only; omega)
    · obtain rfl : k = l.length := by omega
      have hk1 : ¬ ((l.length : Int) < l.length) := by omega
      simp (disch := omega) only [wp, Nat.reduceAdd, Nat.reduceMul, Nat.reduceSub, gl, e1, e2, e5, hg, hk1, hr]
      exact ⟨_, rfl, fun h => fin ⟨hall, hrt h⟩⟩
end Go.Ab
end
section
/- ref06: rmw. -/
set_option linter.unusedVariables false
set_option linter.unusedSimpArgs false
namespace Go.Ab
variable {F : Funs}
def cntC (f : Nat → Nat) : List AV := (List.range 40).map fun i => .i .i64 (f i)
theorem cntC_len (f) : (cntC f).length = 40 := by simp [cntC]
theorem cnt_zero : List.replicate 40 (AV.i .i64 0) = cntC (fun _ => 0) := by rfl
theorem cnt_at {f : Nat → Nat} {a : Nat} (h : a < 40) : part (cntC f) (a * 1) none = some (.i .i64 (f a)) := by
  simp only [part, cntC, Nat.mul_one, List.getElem?_map, List.getElem?_range h, Option.map_some]
theorem cnt_set {f : Nat → Nat} {a n : Nat} (h : a < 40) : (cntC f).set (a * 1) (.i .i64 (n : Int)) = cntC (upd f a n) := by
  rw [Nat.mul_one]
  refine List.ext_getElem? fun i => ?_
  rw [List.getElem?_set]
  unfold cntC
  by_cases hi : i < 40
  · by_cases ha : a = i
    · subst ha
      simp [hi, upd]
    · have : i ≠ a := fun h => ha h.symm
      simp [hi, ha, upd, this]
  · by_cases ha : a = i
    · omega
    · simp [hi, ha]
def inB (i : Nat) (p : Int × Int) : Bool := p.1 == (i : Int) || p.2 == (i : Int)
def inC (l : List (Int × Int)) (i : Nat) : Nat := (l.filter (inB i)).length
theorem inC_take {l : List (Int × Int)} {k : Nat} (h : k < l.length) (i : Nat) : inC (l.take (k + 1)) i = inC (l.take k) i + if inB i (l.getD k (0, 0)) then 1 else 0 := by
  unfold inC
  rw [List.take_add_one, List.filter_append, List.getElem?_eq_getElem h, List.getD_eq_getElem?_getD, List.getElem?_eq_getElem h, List.length_append]
  simp only [Option.toList, Option.getD_some, List.filter_cons, List.filter_nil]
  split <;> rfl
theorem inC_le (l : List (Int × Int)) (i : Nat) : inC l i ≤ l.length := List.length_filter_le _ _
def PairOk (X : Gr) (p : Int × Int) : Prop := 0 ≤ p.1 ∧ p.1 < X.evs.length - 1 ∧ p.2 = p.1 + 1 ∧ (X.evs.getD p.1.toNat ev0).th = (X.evs.getD p.2.toNat ev0).th ∧ (X.evs.getD p.1.toNat ev0).kd = 1 ∧ (X.evs.getD p.2.toNat ev0).kd = 2 ∧ (X.evs.getD p.1.toNat ev0).lc = (X.evs.getD p.2.toNat ev0).lc ∧ (X.evs.getD p.1.toNat ev0).ex = true ∧ (X.evs.getD p.2.toNat ev0).ex = true
structure RmwOk (X : Gr) : Prop where
  pairs : ∀ j, j < X.rmw.length → PairOk X (X.rmw.getD j (0, 0))
  once : ∀ i, i < X.evs.length → inC X.rmw i ≤ 1 ∧ (X.evs.getD i ev0).ex = ((inC X.rmw i : Int) == 1)
  rise : Rising X.rmw
set_option maxRecDepth 100000 in
set_option maxHeartbeats 4000000 in
theorem sp_rmw (h66 : F 66 = some A_xref06_rmw) (h82 : F 82 = some A_xref06_rising) {X : Gr} (hn : X.evs.length ≤ 40) (hl : X.rmw.length ≤ 1000) : ∃ b, pureS F 66 [.agg (grC X)] = some (.b b) ∧ (b = true → RmwOk X) := by
  refine pureB_of h66 ?_
  have fin : (∀ j, j < X.rmw.length → PairOk X (X.rmw.getD j (0, 0))) → (∀ i, i < X.evs.length → inC X.rmw i ≤ 1 ∧ (X.evs.getD i ev0).ex = ((inC X.rmw i : Int) == 1)) → Rising X.rmw → RmwOk X := fun a b c => ⟨a, b, c⟩
  generalize RmwOk X = P at fin
  obtain ⟨br, hr, hrt⟩ := sp_rising h82 X.rmw .non hl
  have s6 : ∀ b1 b2 b3 b4 b5 b6 c1 c2 c3 c4 c5 c6 : AV, splice [b1, b2, b3, b4, b5, b6] 0 [c1, c2, c3, c4, c5, c6] = [c1, c2, c3, c4, c5, c6] := fun _ _ _ _ _ _ _ _ _ _ _ _ => rfl
  simp (disch := omega) only [A_xref06_rmw, wp, Nat.reduceAdd, Nat.reduceMul, Nat.reduceSub, gl, cnt_zero]
  refine blk_cutR (fun e g => e 1 = .mp 0 0 ∧ e 3 = .mp 2 0 ∧ g.hp 0 = some (.cells (grC X) false) ∧ g.hp 2 = some (.cells (cntC (inC X.rmw)) false) ∧ 2 < g.nx ∧ ∀ j, j < X.rmw.length → PairOk X (X.rmw.getD j (0, 0))) ?_ ?_
  · refine W_loop (fun q e g => ∃ k : Nat, q = X.rmw.length - k ∧ k ≤ X.rmw.length ∧ e 1 = .mp 0 0 ∧ e 3 = .mp 2 0 ∧ e 4 = .i .i64 k ∧ g.hp 0 = some (.cells (grC X) false) ∧ g.hp 2 = some (.cells (cntC (inC (X.rmw.take k))) false) ∧ 2 < g.nx ∧ ∀ j, j < k → PairOk X (X.rmw.getD j (0, 0))) X.rmw.length ?_ ?_
    · refine ⟨0, rfl, Nat.zero_le _, ?_⟩
      simp (disch := omega) only [wp, Nat.reduceAdd, Nat.reduceMul, Nat.reduceSub]
      exact ⟨rfl, by rfl, by first | omega | (dsimp only; omega), fun i hi => by omega⟩
    · rintro q e g ⟨k, rfl, hk, e1, e3, e4, hg, hc, hnx, hall⟩
      by_cases hk' : k < X.rmw.length
      · have hk1 : (k : Int) < X.rmw.length := by omega
        have hwk := succ_wrap (k := k) (by omega)
        have a0 := pairs_a hk'
        have b0 := pairs_b hk'
        have d0 : (List.drop (k * 2) (pairsC X.rmw)).length = X.rmw.length * 2 - k * 2 := by rw [List.length_drop, pairsC_len]
        have hin := inC_take hk'
        have hinl : ∀ i, inC (X.rmw.take k) i ≤ 1000 := fun i => by
          have := inC_le (X.rmw.take k) i
          rw [List.length_take] at this; omega
        have step : PairOk X (X.rmw.getD k (0, 0)) → ∀ i, i < k + 1 → PairOk X (X.rmw.getD i (0, 0)) := by
          intro h i hi
          by_cases hik : i = k
          · subst hik; exact h
          · exact hall i (by omega)
        generalize X.rmw.getD k (0, 0) = p at a0 b0 step hin
        generalize inC (X.rmw.take k) = f at hc hin hinl
        obtain ⟨a, b⟩ := p
        simp only at a0 b0
        by_cases c1 : a < 0
        case pos =>
          simp (disch := omega) only [wp, Nat.reduceAdd, Nat.reduceMul, Nat.reduceSub, gl, e1, e3, e4, hg, hc, hk1, a0, b0, d0, c1]
          exact ⟨_, rfl, fun h => by cases h⟩
        have hws : IntKind.i64.wrap ((X.evs.length : Int) - 1) = (X.evs.length : Int) - 1 := by rw [i64_wrap (by omega) (by omega)]
        by_cases c2 : (X.evs.length : Int) - 1 ≤ a
        case pos =>
          simp (disch := omega) only [wp, Nat.reduceAdd, Nat.reduceMul, Nat.reduceSub, gl, e1, e3, e4, hg, hc, hk1, a0, b0, d0, c1, c2, hws]
          exact ⟨_, rfl, fun h => by cases h⟩
        have hwa : IntKind.i64.wrap (a + 1) = a + 1 := by rw [i64_wrap (by omega) (by omega)]
        cases c3 : (b != a + 1)
        case true =>
          simp (disch := omega) only [wp, Nat.reduceAdd, Nat.reduceMul, Nat.reduceSub, gl, e1, e3, e4, hg, hc, hk1, a0, b0, d0, c1, c2, hws, hwa, c3]
          exact ⟨_, rfl, fun h => by cases h⟩
        have hba : b = a + 1 := by simpa using c3
        have pa := ev_part (l := X.evs) (k := a.toNat) (by omega)
        have pb := ev_part (l := X.evs) (k := b.toNat) (by omega)
        have hal : a < X.evs.length := by omega
        have hbl : b < X.evs.length := by omega
        unfold PairOk at step
        simp only at step
        generalize X.evs.getD a.toNat ev0 = u at pa step
        generalize X.evs.getD b.toNat ev0 = v at pb step
        obtain ⟨th, kd, md, lc, vl, ex⟩ := u
        obtain ⟨th', kd', md', lc', vl', ex'⟩ := v
        simp only at step
        cases c4 : (th != th')
        case true =>
          simp (disch := omega) only [wp, Nat.reduceAdd, Nat.reduceMul, Nat.reduceSub, gl, e1, e3, e4, hg, hc, hk1, a0, b0, d0, c1, c2, hws, hwa, c3, pa, pb, s6, c4]
          exact ⟨_, rfl, fun h => by cases h⟩
        cases c5 : (kd != 1)
        case true =>
          simp (disch := omega) only [wp, Nat.reduceAdd, Nat.reduceMul, Nat.reduceSub, gl, e1, e3, e4, hg, hc, hk1, a0, b0, d0, c1, c2, hws, hwa, c3, pa, pb, s6, c4, c5]
          exact ⟨_, rfl, fun h => by cases h⟩
        cases c6 : (kd' != 2)
        case true =>
          simp (disch := omega) only [wp, Nat.reduceAdd, Nat.reduceMul, Nat.reduceSub, gl, e1, e3, e4, hg, hc, hk1, a0, b0, d0, c1, c2, hws, hwa, c3, pa, pb, s6, c4, c5, c6]
          exact ⟨_, rfl, fun h => by cases h⟩
        cases c7 : (lc != lc')
        case true =>
          simp (disch := omega) only [wp, Nat.reduceAdd, Nat.reduceMul, Nat.reduceSub, gl, e1, e3, e4, hg, hc, hk1, a0, b0, d0, c1, c2, hws, hwa, c3, pa, pb, s6, c4, c5, c6, c7]
          exact ⟨_, rfl, fun h => by cases h⟩
        cases ex
        case false =>
          simp (disch := omega) only [wp, Nat.reduceAdd, Nat.reduceMul, Nat.reduceSub, gl, e1, e3, e4, hg, hc, hk1, a0, b0, d0, c1, c2, hws, hwa, c3, pa, pb, s6, c4, c5, c6, c7]
          exact ⟨_, rfl, fun h => by cases h⟩
        cases ex'
        case false =>
          simp (disch := omega) only [wp, Nat.reduceAdd, Nat.reduceMul, Nat.reduceSub, gl, e1, e3, e4, hg, hc, hk1, a0, b0, d0, c1, c2, hws, hwa, c3, pa, pb, s6, c4, c5, c6, c7]
          exact ⟨_, rfl, fun h => by cases h⟩
        have ra := cnt_at (f := f) (a := a.toNat) (by omega)
        have hf1 := succ_wrap (k := f a.toNat) (by have := hinl a.toNat; omega)
        have sa := cnt_set (f := f) (a := a.toNat) (n := f a.toNat + 1) (by omega)
        have rb := cnt_at (f := upd f a.toNat (f a.toNat + 1)) (a := b.toNat) (by omega)
        rw [upd_ne _ _ (by omega)] at rb
        have hf2 := succ_wrap (k := f b.toNat) (by have := hinl b.toNat; omega)
        have sb := cnt_set (f := upd f a.toNat (f a.toNat + 1)) (a := b.toNat) (n := f b.toNat + 1) (by omega)
        have hfin : upd (upd f a.toNat (f a.toNat + 1)) b.toNat (f b.toNat + 1) = inC (X.rmw.take (k + 1)) := by
          funext i
          rw [hin i]
          unfold upd inB
          by_cases i1 : i = b.toNat
          · have : (b == (i : Int)) = true := by simp; omega
            rw [if_pos i1, this, Bool.or_true, if_pos rfl, i1]
          · rw [if_neg i1]
            have n1 : (b == (i : Int)) = false := by simp; omega
            by_cases i2 : i = a.toNat
            · have : (a == (i : Int)) = true := by simp; omega
              rw [if_pos i2, this, Bool.true_or, if_pos rfl, i2]
            · have n2 : (a == (i : Int)) = false := by simp; omega
              rw [if_neg i2, n1, n2]; rfl
        simp (disch := omega) only [wp, Nat.reduceAdd, Nat.reduceMul, Nat.reduceSub, gl, e1, e3, e4, hg, hc, hk1, a0, b0, d0, c1, c2, hws, hwa, c3, pa, pb, s6, c4, c5, c6, c7, cntC_len, ra, hf1, sa, rb, hf2, sb, hfin, hwk]
        refine ⟨X.rmw.length - (k + 1), by omega, k + 1, rfl, by omega, rfl, rfl, by first | omega | (dsimp only; omega), step ⟨by omega, by omega, hba, by simpa using c4, by simpa using c5, by simpa using c6, by simpa using c7, rfl, rfl⟩⟩
      · obtain rfl : k = X.rmw.length := by omega
        have hk1 : ¬ ((X.rmw.length : Int) < X.rmw.length) := by omega
        rw [List.take_length] at hc
        simp (disch := omega) only [wp, Nat.reduceAdd, Nat.reduceMul, Nat.reduceSub, gl, e1, e3, e4, hg, hc, hk1]
        exact ⟨by first | omega | (dsimp only; omega), hall⟩
  · rintro e g ⟨e1, e3, hg, hc, hnx, hall⟩
    have hinl : ∀ i, inC X.rmw i ≤ 1000 := fun i => by
      have := inC_le X.rmw i; omega
    have fin := fin hall
    generalize inC X.rmw = f at hc fin hinl
    simp (disch := omega) only [wp, Nat.reduceAdd, Nat.reduceMul, Nat.reduceSub, e1, e3]
    refine W_loop (fun q e g => ∃ k : Nat, q = X.evs.length - k ∧ k ≤ X.evs.length ∧ e 1 = .mp 0 0 ∧ e 3 = .mp 2 0 ∧ e 9 = .i .i64 k ∧ g.hp 0 = some (.cells (grC X) false) ∧ g.hp 2 = some (.cells (cntC f) false) ∧ 2 < g.nx ∧ ∀ i, i < k → f i ≤ 1 ∧ (X.evs.getD i ev0).ex = ((f i : Int) == 1)) X.evs.length ?_ ?_
    · refine ⟨0, rfl, Nat.zero_le _, ?_⟩
      simp (disch := omega) only [wp, Nat.reduceAdd, Nat.reduceMul, Nat.reduceSub, e1, e3]
      exact ⟨rfl, hg, hc, by first | omega | (dsimp only; omega), fun i hi => by omega⟩
    · rintro q e g ⟨k, rfl, hk, e1, e3, e9, hg, hc, hnx, hev⟩
      by_cases hk' : k < X.evs.length
      · have hk1 : (k : Int) < X.evs.length := by omega
        have hk40 : (k : Int) < 40 := by omega
        have hwk := succ_wrap (k := k) (by omega)
        have rk := cnt_at (f := f) (a := k) (by omega)
        have hex := ev_ex_at hk'
        have hdl : (List.drop (k * 6) (evsC X.evs)).length = X.evs.length * 6 - k * 6 := by rw [List.length_drop, evsC_len]
        have step : f k ≤ 1 ∧ (X.evs.getD k ev0).ex = ((f k : Int) == 1) → ∀ i, i < k + 1 → f i ≤ 1 ∧ (X.evs.getD i ev0).ex = ((f i : Int) == 1) := by
          intro h i hi
          by_cases hik : i = k
          · subst hik; exact h
          · exact hev i (by omega)
        generalize (X.evs.getD k ev0).ex = ex at hex step
        by_cases c1 : 1 < (f k : Int)
        case pos =>
          simp (disch := omega) only [wp, Nat.reduceAdd, Nat.reduceMul, Nat.reduceSub, gl, e1, e3, e9, hg, hc, hk1, rk, c1]
          exact ⟨_, rfl, fun h => by cases h⟩
        cases c2 : (ex == ((f k : Int) == 1))
        case false =>
          simp (disch := omega) only [wp, Nat.reduceAdd, Nat.reduceMul, Nat.reduceSub, gl, e1, e3, e9, hg, hc, hk1, rk, c1, hex, hdl, c2]
          exact ⟨_, rfl, fun h => by cases h⟩
        simp (disch := omega) only [wp, Nat.reduceAdd, Nat.reduceMul, Nat.reduceSub, gl, e1, e3, e9, hg, hc, hk1, rk, c1, hex, hdl, c2, hwk]
        refine ⟨X.evs.length - (k + 1), by omega, k + 1, rfl, by omega, rfl, by first | omega | (dsimp only; omega), step ⟨by omega, by simpa using c2⟩⟩
      · obtain rfl : k = X.evs.length := by omega
        have hk1 : ¬ ((X.evs.length : Int) < X.evs.length) := by omega
        simp (disch := omega) only [wp, Nat.reduceAdd, Nat.reduceMul, Nat.reduceSub, gl, e1, e3, e9, hg, hc, hk1, hr]
        exact ⟨_, rfl, fun h => fin hev (hrt h)⟩
end Go.Ab
end
section
/- ref06: Check. -/
set_option linter.unusedVariables false
set_option linter.unusedSimpArgs false
namespace Go.Ab
variable {F : Funs}
structure GraphOk (X : Gr) : Prop where
  locs1 : 1 ≤ X.locs
  locs4 : X.locs ≤ 4
  nl : X.locs ≤ X.evs.length
  n40 : X.evs.length ≤ 40
  rfl : X.rf.length = X.evs.length
  col : (X.co.length : Int) = X.locs
  ev : ∀ i, i < X.evs.length → EvOk X.locs i (X.evs.getD (i - 1) ev0) (X.evs.getD i ev0)
  rf : ∀ i, i < X.evs.length → RfOk X i
  co : ∀ i, i < X.co.length → CoOk X i
  rmw : RmwOk X
  data : DepsOk X X.data
  ctrl : DepsOk X X.ctrl
  ctrli : DepsOk X X.ctrli
set_option maxRecDepth 100000 in
set_option maxHeartbeats 4000000 in
theorem sp_check (h45 : F 45 = some A_xref06_Check) (h63 : F 63 = some A_xref06_event) (h64 : F 64 = some A_xref06_rf) (h65 : F 65 = some A_xref06_co) (h66 : F 66 = some A_xref06_rmw) (h67 : F 67 = some A_xref06_deps) (h82 : F 82 = some A_xref06_rising) {X : Gr} (hX : FewG X) : ∃ b, pureS F 45 [.agg (grC X)] = some (.b b) ∧ (b = true → GraphOk X) := by
  refine pureB_of h45 ?_
  have fin : 1 ≤ X.locs → X.locs ≤ 4 → X.locs ≤ X.evs.length → X.evs.length ≤ 40 → X.rf.length = X.evs.length → (X.co.length : Int) = X.locs → (∀ i, i < X.evs.length → EvOk X.locs i (X.evs.getD (i - 1) ev0) (X.evs.getD i ev0)) → (∀ i, i < X.evs.length → RfOk X i) → (∀ i, i < X.co.length → CoOk X i) → RmwOk X → DepsOk X X.data → DepsOk X X.ctrl → DepsOk X X.ctrli → GraphOk X :=
    fun a b c d e f g h i j k l m => ⟨a, b, c, d, e, f, g, h, i, j, k, l, m⟩
  generalize GraphOk X = P at fin
  by_cases c1 : X.locs < 1
  case pos =>
    simp (disch := omega) only [A_xref06_Check, wp, Nat.reduceAdd, Nat.reduceMul, Nat.reduceSub, gl, c1]
    exact ⟨_, rfl, fun h => by cases h⟩
  by_cases c2 : 4 < X.locs
  case pos =>
    simp (disch := omega) only [A_xref06_Check, wp, Nat.reduceAdd, Nat.reduceMul, Nat.reduceSub, gl, c1, c2]
    exact ⟨_, rfl, fun h => by cases h⟩
  by_cases c3 : (X.evs.length : Int) < X.locs
  case pos =>
    simp (disch := omega) only [A_xref06_Check, wp, Nat.reduceAdd, Nat.reduceMul, Nat.reduceSub, gl, c1, c2, c3]
    exact ⟨_, rfl, fun h => by cases h⟩
  by_cases c4 : 40 < (X.evs.length : Int)
  case pos =>
    simp (disch := omega) only [A_xref06_Check, wp, Nat.reduceAdd, Nat.reduceMul, Nat.reduceSub, gl, c1, c2, c3, c4]
    exact ⟨_, rfl, fun h => by cases h⟩
  cases c5 : ((X.rf.length : Int) != (X.evs.length : Int))
  case true =>
    simp (disch := omega) only [A_xref06_Check, wp, Nat.reduceAdd, Nat.reduceMul, Nat.reduceSub, gl, c1, c2, c3, c4, c5]
    exact ⟨_, rfl, fun h => by cases h⟩
  cases c6 : ((X.co.length : Int) != X.locs)
  case true =>
    simp (disch := omega) only [A_xref06_Check, wp, Nat.reduceAdd, Nat.reduceMul, Nat.reduceSub, gl, c1, c2, c3, c4, c5, c6]
    exact ⟨_, rfl, fun h => by cases h⟩
  have hrl : (X.rf.length : Int) = X.evs.length := by simpa using c5
  have hcl : (X.co.length : Int) = X.locs := by simpa using c6
  have fin := fin (by omega) (by omega) (by omega) (by omega) (by omega) hcl
  simp (disch := omega) only [A_xref06_Check, wp, Nat.reduceAdd, Nat.reduceMul, Nat.reduceSub, gl, c1, c2, c3, c4, c5, c6]
  refine blk_cutR (fun e g => e 1 = .mp 0 0 ∧ g.hp 0 = some (.cells (grC X) false) ∧ 0 < g.nx ∧ (∀ i, i < X.evs.length → EvOk X.locs i (X.evs.getD (i - 1) ev0) (X.evs.getD i ev0)) ∧ ∀ i, i < X.evs.length → RfOk X i) ?_ ?_
  · refine W_loop (fun q e g => ∃ k : Nat, q = X.evs.length - k ∧ k ≤ X.evs.length ∧ e 1 = .mp 0 0 ∧ e 3 = .i .i64 X.evs.length ∧ e 4 = .i .i64 k ∧ g.hp 0 = some (.cells (grC X) false) ∧ 0 < g.nx ∧ (∀ i, i < k → EvOk X.locs i (X.evs.getD (i - 1) ev0) (X.evs.getD i ev0)) ∧ ∀ i, i < k → RfOk X i) X.evs.length ?_ ?_
    · refine ⟨0, rfl, Nat.zero_le _, ?_⟩
      simp (disch := omega) only [wp, Nat.reduceAdd, Nat.reduceMul, Nat.reduceSub]
      exact ⟨rfl, by first | omega | (dsimp only; omega), fun i hi => by omega, fun i hi => by omega⟩
    · rintro q e g ⟨k, rfl, hk, e1, e3, e4, hg, hnx, hev, hrf⟩
      by_cases hk' : k < X.evs.length
      · have hk1 : (k : Int) < X.evs.length := by omega
        have hwk := succ_wrap (k := k) (by omega)
        obtain ⟨b1, h1, p1⟩ := sp_event h63 hk' (by omega) (by omega)
        obtain ⟨b2, h2, p2⟩ := sp_rfC h64 hk' (by omega)
        cases b1
        case false =>
          simp (disch := omega) only [wp, Nat.reduceAdd, Nat.reduceMul, Nat.reduceSub, gl, e1, e3, e4, hg, hk1, h1]
          exact ⟨_, rfl, fun h => by cases h⟩
        cases b2
        case false =>
          simp (disch := omega) only [wp, Nat.reduceAdd, Nat.reduceMul, Nat.reduceSub, gl, e1, e3, e4, hg, hk1, h1, h2]
          exact ⟨_, rfl, fun h => by cases h⟩
        have p1 := p1 rfl
        have p2 := p2 rfl
        simp (disch := omega) only [wp, Nat.reduceAdd, Nat.reduceMul, Nat.reduceSub, gl, e1, e3, e4, hg, hk1, h1, h2, hwk]
        refine ⟨X.evs.length - (k + 1), by omega, k + 1, rfl, by omega, rfl, by first | omega | (dsimp only; omega), fun i hi => ?_, fun i hi => ?_⟩
        · by_cases hik : i = k
          · subst hik; exact p1
          · exact hev i (by omega)
        · by_cases hik : i = k
          · subst hik; exact p2
          · exact hrf i (by omega)
      · obtain rfl : k = X.evs.length := by omega
        have hk1 : ¬ ((X.evs.length : Int) < X.evs.length) := by omega
        simp (disch := omega) only [wp, Nat.reduceAdd, Nat.reduceMul, Nat.reduceSub, gl, e1, e3, e4, hg, hk1]
        exact ⟨by first | omega | (dsimp only; omega), hev, hrf⟩
  · rintro e g ⟨e1, hg, hnx, hev, hrf⟩
    have fin := fin hev hrf
    simp (disch := omega) only [wp, Nat.reduceAdd, Nat.reduceMul, Nat.reduceSub, e1]
    refine blk_cutR (fun e g => e 1 = .mp 0 0 ∧ g.hp 0 = some (.cells (grC X) false) ∧ 0 < g.nx ∧ ∀ i, i < X.co.length → CoOk X i) ?_ ?_
    · refine W_loop (fun q e g => ∃ k : Nat, q = X.co.length - k ∧ k ≤ X.co.length ∧ e 1 = .mp 0 0 ∧ e 5 = .i .i64 k ∧ g.hp 0 = some (.cells (grC X) false) ∧ 0 < g.nx ∧ ∀ i, i < k → CoOk X i) X.co.length ?_ ?_
      · refine ⟨0, rfl, Nat.zero_le _, ?_⟩
        simp (disch := omega) only [wp, Nat.reduceAdd, Nat.reduceMul, Nat.reduceSub, e1]
        exact ⟨rfl, hg, by first | omega | (dsimp only; omega), fun i hi => by omega⟩
      · rintro q e g ⟨k, rfl, hk, e1, e5, hg, hnx, hco⟩
        by_cases hk' : k < X.co.length
        · have hk1 : (k : Int) < X.locs := by omega
          have hwk := succ_wrap (k := k) (by omega)
          obtain ⟨b1, h1, p1⟩ := sp_coC h65 hk' (by have := hX.evs; omega) (by
            have hm : X.co.getD k [] ∈ X.co := by
              rw [List.getD_eq_getElem?_getD, List.getElem?_eq_getElem hk']; exact List.getElem_mem hk'
            have := hX.cos _ hm; omega)
          cases b1
          case false =>
            simp (disch := omega) only [wp, Nat.reduceAdd, Nat.reduceMul, Nat.reduceSub, gl, e1, e5, hg, hk1, h1]
            exact ⟨_, rfl, fun h => by cases h⟩
          have p1 := p1 rfl
          simp (disch := omega) only [wp, Nat.reduceAdd, Nat.reduceMul, Nat.reduceSub, gl, e1, e5, hg, hk1, h1, hwk]
          refine ⟨X.co.length - (k + 1), by omega, k + 1, rfl, by omega, rfl, by first | omega | (dsimp only; omega), fun i hi => ?_⟩
          by_cases hik : i = k
          · subst hik; exact p1
          · exact hco i (by omega)
        · obtain rfl : k = X.co.length := by omega
          have hk1 : ¬ ((X.co.length : Int) < X.locs) := by omega
          simp (disch := omega) only [wp, Nat.reduceAdd, Nat.reduceMul, Nat.reduceSub, gl, e1, e5, hg, hk1]
          exact ⟨by first | omega | (dsimp only; omega), hco⟩
    · rintro e g ⟨e1, hg, hnx, hco⟩
      have fin := fin hco
      obtain ⟨b1, h1, p1⟩ := sp_rmw h66 h82 (X := X) (by omega) (by have := hX.rmw; omega)
      obtain ⟨b2, h2, p2⟩ := sp_deps h67 h82 X X.data .non (by have := hX.data; omega)
      obtain ⟨b3, h3, p3⟩ := sp_deps h67 h82 X X.ctrl .non (by have := hX.ctrl; omega)
      obtain ⟨b4, h4, p4⟩ := sp_deps h67 h82 X X.ctrli .non (by have := hX.ctrli; omega)
      cases b1
      case false =>
        simp (disch := omega) only [wp, Nat.reduceAdd, Nat.reduceMul, Nat.reduceSub, gl, e1, hg, h1]
        exact ⟨_, rfl, fun h => by cases h⟩
      cases b2
      case false =>
        simp (disch := omega) only [wp, Nat.reduceAdd, Nat.reduceMul, Nat.reduceSub, gl, e1, hg, h1, h2]
        exact ⟨_, rfl, fun h => by cases h⟩
      cases b3
      case false =>
        simp (disch := omega) only [wp, Nat.reduceAdd, Nat.reduceMul, Nat.reduceSub, gl, e1, hg, h1, h2, h3]
        exact ⟨_, rfl, fun h => by cases h⟩
      simp (disch := omega) only [wp, Nat.reduceAdd, Nat.reduceMul, Nat.reduceSub, gl, e1, hg, h1, h2, h3, h4]
      exact ⟨_, rfl, fun h => fin (p1 rfl) (p2 rfl) (p3 rfl) (p4 h)⟩
end Go.Ab
end
section
/- ref09: Rf, Co, Fr, Com, Eco. -/
set_option linter.unusedVariables false
set_option linter.unusedSimpArgs false
namespace Go.Ab
variable {F : Funs}
def anyM (L : List (Int × Int)) : Mx := fun a b => L.any fun q => decide (q = ((a : Int), (b : Int)))
theorem anyM_nil : anyM [] = fun _ _ => false := rfl
theorem anyM_add (L : List (Int × Int)) {a b : Int} (h0 : 0 ≤ a) (h1 : 0 ≤ b) : upd2 (anyM L) a.toNat b.toNat true = anyM (L ++ [(a, b)]) := by
  funext i j
  unfold upd2 anyM
  rw [List.any_append]
  by_cases h : i = a.toNat ∧ j = b.toNat
  · rw [if_pos h]
    have : decide ((a, b) = ((i : Int), (j : Int))) = true := by rw [decide_eq_true_eq, Prod.mk.injEq]; omega
    simp only [List.any_cons, List.any_nil, this, Bool.true_or, Bool.or_true]
  · rw [if_neg h]
    have : decide ((a, b) = ((i : Int), (j : Int))) = false := by rw [decide_eq_false_iff_not, Prod.mk.injEq]; omega
    simp only [List.any_cons, List.any_nil, this, Bool.or_false]
theorem anyM_mem {L : List (Int × Int)} {a b : Nat} : anyM L a b = true ↔ ((a : Int), (b : Int)) ∈ L := by
  unfold anyM
  rw [List.any_eq_true]
  constructor
  · rintro ⟨q, hq, h⟩; rw [decide_eq_true_eq] at h; rw [← h]; exact hq
  · intro h; exact ⟨_, h, by simp⟩
def rfL (X : Gr) (k : Nat) : List (Int × Int) := (List.range k).flatMap fun (i : Nat) => if 0 ≤ X.rf.getD i 0 then [(X.rf.getD i 0, (i : Int))] else []
theorem rfL_succ (X k) : rfL X (k + 1) = rfL X k ++ (if 0 ≤ X.rf.getD k 0 then [(X.rf.getD k 0, (k : Int))] else []) := by simp [rfL, List.range_succ]
set_option maxRecDepth 100000 in
set_option maxHeartbeats 4000000 in
theorem sp_mRf (h69 : F 69 = some A_xref09_Rf) (h27 : F 27 = some A_xref01_New) {X : Gr} (hn : X.evs.length ≤ 40) (hr : X.rf.length ≤ 40) (hw : ∀ i, i < X.rf.length → X.rf.getD i 0 < 40) : pureS F 69 [.agg (grC X)] = some (.ptr (matC X.evs.length (anyM (rfL X X.rf.length)))) := by
  refine pure_of_thaw h69 (matC_flat _ _) ?_
  simp (disch := omega) only [A_xref09_Rf, wp, Nat.reduceAdd, Nat.reduceMul, Nat.reduceSub, gl, ml, thaw27 h27]
  refine W_loop (fun q e g => ∃ k : Nat, q = X.rf.length - k ∧ k ≤ X.rf.length ∧ e 1 = .mp 0 0 ∧ e 3 = .mp 5 0 ∧ e 4 = .i .i64 k ∧ g.hp 0 = some (.cells (grC X) false) ∧ g.hp 5 = some (.cells (matC X.evs.length (anyM (rfL X k))) false) ∧ 5 < g.nx) X.rf.length ?_ ?_
  · refine ⟨0, rfl, Nat.zero_le _, ?_⟩
    simp (disch := omega) only [wp, Nat.reduceAdd, Nat.reduceMul, Nat.reduceSub]
    exact ⟨rfl, rfl, by first | omega | (dsimp only; omega)⟩
  · rintro q e g ⟨k, rfl, hk, e1, e3, e4, hg, hm, hnx⟩
    by_cases hk' : k < X.rf.length
    · have hk1 : (k : Int) < X.rf.length := by omega
      have hk40 : (k : Int) < 40 := by omega
      have hwk := succ_wrap (k := k) (by omega)
      have hp := ints_part hk'
      have hs := rfL_succ X k
      have hwb := hw k hk'
      generalize X.rf.getD k 0 = w at hp hs hwb
      generalize rfL X k = L at hm hs
      by_cases c1 : 0 ≤ w
      case neg =>
        rw [if_neg c1, List.append_nil] at hs
        simp (disch := omega) only [wp, Nat.reduceAdd, Nat.reduceMul, Nat.reduceSub, gl, ml, e1, e3, e4, hg, hm, hk1, hp, c1, hwk]
        exact ⟨X.rf.length - (k + 1), by omega, k + 1, rfl, by omega, rfl, by rw [hs], by first | omega | (dsimp only; omega)⟩
      rw [if_pos c1] at hs
      have hadd := anyM_add L c1 (b := (k : Int)) (by omega)
      rw [Int.toNat_natCast] at hadd
      have hset := matC_set (n := X.evs.length) (M := anyM L) (a := w.toNat) (b := k) (x := true) (by omega)
      rw [hadd, ← hs] at hset
      simp (disch := omega) only [wp, Nat.reduceAdd, Nat.reduceMul, Nat.reduceSub, gl, ml, e1, e3, e4, hg, hm, hk1, hp, c1, hwk, hset]
      exact ⟨X.rf.length - (k + 1), by omega, k + 1, rfl, by omega, rfl, rfl, by first | omega | (dsimp only; omega)⟩
    · obtain rfl : k = X.rf.length := by omega
      have hk1 : ¬ ((X.rf.length : Int) < X.rf.length) := by omega
      simp (disch := omega) only [wp, Nat.reduceAdd, Nat.reduceMul, Nat.reduceSub, gl, ml, e1, e3, e4, hg, hm, hk1]
      exact ⟨_, rfl, hm⟩
def coI (c : List Int) (i k : Nat) : List (Int × Int) := (List.range k).flatMap fun m => if i < m then [(c.getD i 0, c.getD m 0)] else []
theorem coI_succ {c : List Int} {i k : Nat} (h : i < k) : coI c i (k + 1) = coI c i k ++ [(c.getD i 0, c.getD k 0)] := by simp [coI, List.range_succ, h]
theorem coI_0 (c : List Int) (i : Nat) : coI c i (i + 1) = [] := by
  unfold coI
  rw [List.flatMap_eq_nil_iff]
  intro m hm
  rw [if_neg (by have := List.mem_range.1 hm; omega)]
def coJ (c : List Int) (i : Nat) : List (Int × Int) := (List.range i).flatMap fun j => coI c j c.length
theorem coJ_succ (c i) : coJ c (i + 1) = coJ c i ++ coI c i c.length := by simp [coJ, List.range_succ]
def coX (X : Gr) (l : Nat) : List (Int × Int) := (List.range l).flatMap fun j => coJ (X.co.getD j []) (X.co.getD j []).length
theorem coX_succ (X l) : coX X (l + 1) = coX X l ++ coJ (X.co.getD l []) (X.co.getD l []).length := by simp [coX, List.range_succ]
set_option maxRecDepth 100000 in
set_option maxHeartbeats 4000000 in
theorem sp_mCo (h70 : F 70 = some A_xref09_Co) (h27 : F 27 = some A_xref01_New) {X : Gr} (hn : X.evs.length ≤ 40) (hl : X.co.length ≤ 1000) (hc : ∀ j, j < X.co.length → (X.co.getD j []).length ≤ 1000 ∧ ∀ i, i < (X.co.getD j []).length → 0 ≤ (X.co.getD j []).getD i 0 ∧ (X.co.getD j []).getD i 0 < 40) : pureS F 70 [.agg (grC X)] = some (.ptr (matC X.evs.length (anyM (coX X X.co.length)))) := by
  refine pure_of_thaw h70 (matC_flat _ _) ?_
  simp (disch := omega) only [A_xref09_Co, wp, Nat.reduceAdd, Nat.reduceMul, Nat.reduceSub, gl, ml, thaw27 h27]
  refine W_loop (fun q e g => ∃ j : Nat, q = X.co.length - j ∧ j ≤ X.co.length ∧ e 1 = .mp 0 0 ∧ e 3 = .mp 5 0 ∧ e 4 = .i .i64 j ∧ g.hp 0 = some (.cells (grC X) false) ∧ g.hp 5 = some (.cells (matC X.evs.length (anyM (coX X j))) false) ∧ 5 < g.nx) X.co.length ?_ ?_
  · refine ⟨0, rfl, Nat.zero_le _, ?_⟩
    simp (disch := omega) only [wp, Nat.reduceAdd, Nat.reduceMul, Nat.reduceSub]
    exact ⟨rfl, rfl, by first | omega | (dsimp only; omega)⟩
  · rintro q e g ⟨j, rfl, hj, e1, e3, e4, hg, hm, hnx⟩
    by_cases hj' : j < X.co.length
    · have hj1 : (j : Int) < X.co.length := by omega
      have hwj := succ_wrap (k := j) (by omega)
      have hp := co_part hj'
      have hs := coX_succ X j
      obtain ⟨hcl, hcr⟩ := hc j hj'
      generalize X.co.getD j [] = c at hp hs hcl hcr
      generalize coX X j = L at hm hs
      simp (disch := omega) only [wp, Nat.reduceAdd, Nat.reduceMul, Nat.reduceSub, gl, ml, e1, e3, e4, hg, hm, hj1]
      refine W_loop (fun q e g => ∃ i : Nat, q = c.length - i ∧ i ≤ c.length ∧ e 1 = .mp 0 0 ∧ e 3 = .mp 5 0 ∧ e 4 = .i .i64 j ∧ e 5 = .i .i64 i ∧ g.hp 0 = some (.cells (grC X) false) ∧ g.hp 5 = some (.cells (matC X.evs.length (anyM (L ++ coJ c i))) false) ∧ 5 < g.nx) c.length ?_ ?_
      · refine ⟨0, rfl, Nat.zero_le _, ?_⟩
        simp (disch := omega) only [wp, Nat.reduceAdd, Nat.reduceMul, Nat.reduceSub, e1, e3, e4]
        exact ⟨rfl, hg, by rw [hm]; simp [coJ], by first | omega | (dsimp only; omega)⟩
      · rintro q e g ⟨i, rfl, hi, e1, e3, e4, e5, hg, hm, hnx⟩
        by_cases hi' : i < c.length
        · have hi1 : (i : Int) < c.length := by omega
          have hwi := succ_wrap (k := i) (by omega)
          have hip := ints_part hi'
          have hsJ := coJ_succ c i
          have ⟨ha0, ha1⟩ := hcr i hi'
          generalize hLJ : L ++ coJ c i = LJ at hm
          have hsJ' : L ++ coJ c (i + 1) = LJ ++ coI c i c.length := by rw [hsJ, ← List.append_assoc, hLJ]
          simp (disch := omega) only [wp, Nat.reduceAdd, Nat.reduceMul, Nat.reduceSub, gl, ml, e1, e3, e4, e5, hg, hm, hj1, hp, hi1, hwi]
          refine W_loop (fun q e g => ∃ k : Nat, q = c.length - k ∧ i < k ∧ k ≤ c.length ∧ e 1 = .mp 0 0 ∧ e 3 = .mp 5 0 ∧ e 4 = .i .i64 j ∧ e 5 = .i .i64 i ∧ e 6 = .i .i64 k ∧ g.hp 0 = some (.cells (grC X) false) ∧ g.hp 5 = some (.cells (matC X.evs.length (anyM (LJ ++ coI c i k))) false) ∧ 5 < g.nx) (c.length - (i + 1)) ?_ ?_
          · refine ⟨i + 1, rfl, by omega, by omega, ?_⟩
            simp (disch := omega) only [wp, Nat.reduceAdd, Nat.reduceMul, Nat.reduceSub, e1, e3, e4, e5, coI_0, List.append_nil]
            exact ⟨hg, hm, by first | omega | (dsimp only; omega)⟩
          · rintro q e g ⟨k, rfl, hik, hk, e1, e3, e4, e5, e6, hg, hm, hnx⟩
            by_cases hk' : k < c.length
            · have hk1 : (k : Int) < c.length := by omega
              have hwk := succ_wrap (k := k) (by omega)
              have hkp := ints_part hk'
              have hsI := coI_succ (c := c) hik
              have ⟨hb0, hb1⟩ := hcr k hk'
              generalize hLI : LJ ++ coI c i k = LI at hm
              have hsI' : LJ ++ coI c i (k + 1) = LI ++ [(c.getD i 0, c.getD k 0)] := by rw [hsI, ← List.append_assoc, hLI]
              generalize c.getD i 0 = va at hip ha0 ha1 hsI'
              generalize c.getD k 0 = vb at hkp hb0 hb1 hsI'
              have hadd := anyM_add LI ha0 hb0
              have hset := matC_set (n := X.evs.length) (M := anyM LI) (a := va.toNat) (b := vb.toNat) (x := true) (by omega)
              rw [hadd, ← hsI'] at hset
              simp (disch := omega) only [wp, Nat.reduceAdd, Nat.reduceMul, Nat.reduceSub, gl, ml, e1, e3, e4, e5, e6, hg, hm, hj1, hp, hi1, hk1, hip, hkp, hwk, hset]
              exact ⟨c.length - (k + 1), by omega, k + 1, rfl, by omega, by omega, rfl, rfl, by first | omega | (dsimp only; omega)⟩
            · obtain rfl : k = c.length := by omega
              have hk1 : ¬ ((c.length : Int) < c.length) := by omega
              simp (disch := omega) only [wp, Nat.reduceAdd, Nat.reduceMul, Nat.reduceSub, gl, ml, e1, e3, e4, e5, e6, hg, hm, hj1, hp, hk1, hwi]
              exact ⟨c.length - (i + 1), by omega, i + 1, rfl, by omega, rfl, by rw [hsJ'], by first | omega | (dsimp only; omega)⟩
        · obtain rfl : i = c.length := by omega
          have hi1 : ¬ ((c.length : Int) < c.length) := by omega
          simp (disch := omega) only [wp, Nat.reduceAdd, Nat.reduceMul, Nat.reduceSub, gl, ml, e1, e3, e4, e5, hg, hm, hj1, hp, hi1, hwj]
          exact ⟨X.co.length - (j + 1), by omega, j + 1, rfl, by omega, rfl, by rw [hs], by first | omega | (dsimp only; omega)⟩
    · obtain rfl : j = X.co.length := by omega
      have hj1 : ¬ ((X.co.length : Int) < X.co.length) := by omega
      simp (disch := omega) only [wp, Nat.reduceAdd, Nat.reduceMul, Nat.reduceSub, gl, ml, e1, e3, e4, hg, hm, hj1]
      exact ⟨_, rfl, hm⟩
end Go.Ab
end
section
/- ref09: Fr, Com, Eco; ref06.Po; ref09: Loc, part, Inner, Outer. -/
set_option linter.unusedVariables false
set_option linter.unusedSimpArgs false
namespace Go.Ab
variable {F : Funs}
def frM (n : Nat) (A C : Mx) : Mx := thM (bkM A n n 0) C n n
def comM (n : Nat) (A C : Mx) : Mx := opM (fun x y => x || y) (opM (fun x y => x || y) A C n) (frM n A C) n
set_option maxRecDepth 100000 in
theorem sp_mFr (h71 : F 71 = some A_xref09_Fr) (h27 : F 27 = some A_xref01_New) (h32 : F 32 = some A_xref01_R_Then) (h33 : F 33 = some A_xref01_R_Back) {X : Gr} {n : Nat} (hn : n ≤ 40) {A C : Mx} (hA : pureS F 69 [.agg (grC X)] = some (.ptr (matC n A))) (hC : pureS F 70 [.agg (grC X)] = some (.ptr (matC n C))) : pureS F 71 [.agg (grC X)] = some (.ptr (matC n (frM n A C))) := by
  refine pure_of h71 ?_
  simp (disch := omega) only [A_xref09_Fr, wp, Nat.reduceAdd, Nat.reduceMul, Nat.reduceSub, gl, hA, hC, sp_mback h33 h27 hn, sp_mthen h32 h27 hn hn, Nat.max_self]
  rfl
set_option maxRecDepth 100000 in
theorem sp_mCom (h83 : F 83 = some A_xref09_Com) (h27 : F 27 = some A_xref01_New) (h29 : F 29 = some A_xref01_R_Or) {X : Gr} {n : Nat} (hn : n ≤ 40) {A C : Mx} (hA : pureS F 69 [.agg (grC X)] = some (.ptr (matC n A))) (hC : pureS F 70 [.agg (grC X)] = some (.ptr (matC n C))) (hF : pureS F 71 [.agg (grC X)] = some (.ptr (matC n (frM n A C)))) : pureS F 83 [.agg (grC X)] = some (.ptr (matC n (comM n A C))) := by
  refine pure_of h83 ?_
  simp (disch := omega) only [A_xref09_Com, wp, Nat.reduceAdd, Nat.reduceMul, Nat.reduceSub, gl, hA, hC, hF, sp_mor h29 h27 hn hn, Nat.max_self]
  rfl
set_option maxRecDepth 100000 in
theorem sp_mEco (h72 : F 72 = some A_xref09_Eco) (h27 : F 27 = some A_xref01_New) (h34 : F 34 = some A_xref01_R_Plus) {X : Gr} {n : Nat} (hn : n ≤ 40) {M : Mx} (hM : pureS F 83 [.agg (grC X)] = some (.ptr (matC n M))) : pureS F 72 [.agg (grC X)] = some (.ptr (matC n (plM n M n))) := by
  refine pure_of h72 ?_
  simp (disch := omega) only [A_xref09_Eco, wp, Nat.reduceAdd, Nat.reduceMul, Nat.reduceSub, gl, hM, sp_mplus h34 h27 hn]
def stU (φ : Nat → Nat → Bool) (n a b : Nat) : Mx := fun i j => if (i < a ∧ i < j ∧ j < n) ∨ (i = a ∧ i < j ∧ j < b) then φ i j else false
theorem stU_succ {φ : Nat → Nat → Bool} {n a b : Nat} (h : a < b) : upd2 (stU φ n a b) a b (φ a b) = stU φ n a (b + 1) := by
  funext i j
  unfold upd2 stU
  by_cases h1 : i = a ∧ j = b
  · obtain ⟨rfl, rfl⟩ := h1
    rw [if_pos ⟨rfl, rfl⟩, if_pos (by omega)]
  · rw [if_neg h1]
    by_cases h2 : (i < a ∧ i < j ∧ j < n) ∨ (i = a ∧ i < j ∧ j < b)
    · rw [if_pos h2, if_pos (by omega)]
    · rw [if_neg h2, if_neg (by omega)]
theorem stU_row (φ : Nat → Nat → Bool) (n a : Nat) : stU φ n a n = stU φ n (a + 1) (a + 1 + 1) := by
  funext i j
  unfold stU
  by_cases h2 : (i < a ∧ i < j ∧ j < n) ∨ (i = a ∧ i < j ∧ j < n)
  · rw [if_pos h2, if_pos (by omega)]
  · rw [if_neg h2, if_neg (by omega)]
theorem stU_0 (φ : Nat → Nat → Bool) (n : Nat) : stU φ n 0 (0 + 1) = fun _ _ => false := by
  funext i j; unfold stU; rw [if_neg (by omega)]
def thI (X : Gr) (i : Nat) : Int := (X.evs.getD i ev0).th
def poV (X : Gr) (i j : Nat) : Bool := (thI X i == 0 && decide (0 < thI X j)) || (decide (0 < thI X i) && thI X i == thI X j)
set_option maxRecDepth 100000 in
set_option maxHeartbeats 4000000 in
theorem po_W (h27 : F 27 = some A_xref01_New) {X : Gr} (hn : X.evs.length ≤ 40) : W F A_xref06_Po.body (argEnv [.agg (grC X)]) g0 (retT A_xref06_Po.res (matC X.evs.length (stU (poV X) X.evs.length X.evs.length (X.evs.length + 1)))) := by
  simp (disch := omega) only [A_xref06_Po, wp, Nat.reduceAdd, Nat.reduceMul, Nat.reduceSub, gl, ml, thaw27 h27]
  refine W_loop (fun q e g => ∃ a : Nat, q = X.evs.length - a ∧ a ≤ X.evs.length ∧ e 1 = .mp 0 0 ∧ e 3 = .mp 5 0 ∧ e 4 = .i .i64 a ∧ g.hp 0 = some (.cells (grC X) false) ∧ g.hp 5 = some (.cells (matC X.evs.length (stU (poV X) X.evs.length a (a + 1))) false) ∧ 5 < g.nx) X.evs.length ?_ ?_
  · refine ⟨0, rfl, Nat.zero_le _, ?_⟩
    simp (disch := omega) only [wp, Nat.reduceAdd, Nat.reduceMul, Nat.reduceSub]
    exact ⟨rfl, by rw [stU_0], by first | omega | (dsimp only; omega)⟩
  · rintro q e g ⟨a, rfl, ha, e1, e3, e4, hg, hm, hnx⟩
    by_cases ha' : a < X.evs.length
    · have ha1 : (a : Int) < X.evs.length := by omega
      have hwa := succ_wrap (k := a) (by omega)
      simp (disch := omega) only [wp, Nat.reduceAdd, Nat.reduceMul, Nat.reduceSub, gl, ml, e1, e3, e4, hg, hm, ha1, hwa]
      refine W_loop (fun q e g => ∃ b : Nat, q = X.evs.length - b ∧ a < b ∧ b ≤ X.evs.length ∧ e 1 = .mp 0 0 ∧ e 3 = .mp 5 0 ∧ e 4 = .i .i64 a ∧ e 5 = .i .i64 b ∧ g.hp 0 = some (.cells (grC X) false) ∧ g.hp 5 = some (.cells (matC X.evs.length (stU (poV X) X.evs.length a b)) false) ∧ 5 < g.nx) (X.evs.length - (a + 1)) ?_ ?_
      · refine ⟨a + 1, rfl, by omega, by omega, ?_⟩
        simp (disch := omega) only [wp, Nat.reduceAdd, Nat.reduceMul, Nat.reduceSub, e1, e3, e4]
        exact ⟨hg, hm, by first | omega | (dsimp only; omega)⟩
      · rintro q e g ⟨b, rfl, hab, hb, e1, e3, e4, e5, hg, hm, hnx⟩
        by_cases hb' : b < X.evs.length
        · have hb1 : (b : Int) < X.evs.length := by omega
          have hwb := succ_wrap (k := b) (by omega)
          have tA := ev_th_at ha'
          have tB := ev_th_at hb'
          have dA : (List.drop (a * 6) (evsC X.evs)).length = X.evs.length * 6 - a * 6 := by rw [List.length_drop, evsC_len]
          have dB : (List.drop (b * 6) (evsC X.evs)).length = X.evs.length * 6 - b * 6 := by rw [List.length_drop, evsC_len]
          have hv : poV X a b = ((thI X a == 0 && decide (0 < thI X b)) || (decide (0 < thI X a) && thI X a == thI X b)) := rfl
          have hs := stU_succ (φ := poV X) (n := X.evs.length) hab
          have hset := fun x => matC_set (n := X.evs.length) (M := stU (poV X) X.evs.length a b) (a := a) (b := b) (x := x) (by omega)
          unfold thI at hv
          generalize (X.evs.getD a ev0).th = ta at tA hv
          generalize (X.evs.getD b ev0).th = tb at tB hv
          generalize poV X a b = v at hs hv
          have fin : ∀ x, x = v → X.evs.length - (b + 1) < X.evs.length - b ∧ upd2 (stU (poV X) X.evs.length a b) a b x = stU (poV X) X.evs.length a (b + 1) := fun x hx => ⟨by omega, by rw [hx, hs]⟩
          cases c1 : (ta == 0)
          case true =>
            by_cases c2 : 0 < tb
            case pos =>
              simp (disch := omega) only [wp, Nat.reduceAdd, Nat.reduceMul, Nat.reduceSub, gl, ml, e1, e3, e4, e5, hg, hm, hb1, tA, tB, dA, dB, c1, c2, hset, hwb]
              obtain ⟨f1, f2⟩ := fin true (by rw [hv, c1, decide_eq_true c2]; rfl)
              exact ⟨_, f1, b + 1, rfl, by omega, by omega, rfl, by rw [f2], by first | omega | (dsimp only; omega)⟩
            have c3 : ¬ 0 < ta := by have : ta = 0 := by simpa using c1
                                     omega
            simp (disch := omega) only [wp, Nat.reduceAdd, Nat.reduceMul, Nat.reduceSub, gl, ml, e1, e3, e4, e5, hg, hm, hb1, tA, tB, dA, dB, c1, c2, c3, hset, hwb]
            obtain ⟨f1, f2⟩ := fin false (by rw [hv, c1, decide_eq_false c2, decide_eq_false c3]; rfl)
            exact ⟨_, f1, b + 1, rfl, by omega, by omega, rfl, by rw [f2], by first | omega | (dsimp only; omega)⟩
          by_cases c3 : 0 < ta
          case neg =>
            simp (disch := omega) only [wp, Nat.reduceAdd, Nat.reduceMul, Nat.reduceSub, gl, ml, e1, e3, e4, e5, hg, hm, hb1, tA, tB, dA, dB, c1, c3, hset, hwb]
            obtain ⟨f1, f2⟩ := fin false (by rw [hv, c1, decide_eq_false c3]; rfl)
            exact ⟨_, f1, b + 1, rfl, by omega, by omega, rfl, by rw [f2], by first | omega | (dsimp only; omega)⟩
          simp (disch := omega) only [wp, Nat.reduceAdd, Nat.reduceMul, Nat.reduceSub, gl, ml, e1, e3, e4, e5, hg, hm, hb1, tA, tB, dA, dB, c1, c3, hset, hwb]
          obtain ⟨f1, f2⟩ := fin (ta == tb) (by rw [hv, c1, decide_eq_true c3]; simp)
          exact ⟨_, f1, b + 1, rfl, by omega, by omega, rfl, by rw [f2], by first | omega | (dsimp only; omega)⟩
        · obtain rfl : b = X.evs.length := by omega
          have hb1 : ¬ ((X.evs.length : Int) < X.evs.length) := by omega
          simp (disch := omega) only [wp, Nat.reduceAdd, Nat.reduceMul, Nat.reduceSub, gl, ml, e1, e3, e4, e5, hg, hm, hb1, hwa]
          exact ⟨X.evs.length - (a + 1), by omega, a + 1, rfl, by omega, rfl, by rw [stU_row], by first | omega | (dsimp only; omega)⟩
    · obtain rfl : a = X.evs.length := by omega
      have ha1 : ¬ ((X.evs.length : Int) < X.evs.length) := by omega
      simp (disch := omega) only [wp, Nat.reduceAdd, Nat.reduceMul, Nat.reduceSub, gl, ml, e1, e3, e4, hg, hm, ha1]
      exact ⟨_, rfl, hm⟩
def mpoM (X : Gr) : Mx := stU (poV X) X.evs.length X.evs.length (X.evs.length + 1)
theorem sp_mPo (h84 : F 84 = some A_xref06_Po) (h27 : F 27 = some A_xref01_New) {X : Gr} (hn : X.evs.length ≤ 40) : pureS F 84 [.agg (grC X)] = some (.ptr (matC X.evs.length (mpoM X))) := pure_of_thaw h84 (matC_flat _ _) (po_W h27 hn)
theorem thaw84 (h84 : F 84 = some A_xref06_Po) (h27 : F 27 = some A_xref01_New) {X : Gr} (hn : X.evs.length ≤ 40) (al : Nat → Bool) (id : Nat) (g : G) : vThaw F al id (.fn 84 [] []) [.agg (grC X)] g = some (.mp id 0, ⟨upd g.hp id (some (.cells (matC X.evs.length (mpoM X)) false)), g.nx⟩) :=
  vThaw_S (bs := [.agg (grC X)]) (by simp only [frzL_cons, frz_gr, frzL_nil, consO_ok]) (thaw_of h84 (matC_flat _ _) (po_W h27 hn)) (by simp only [List.flatMap_cons, List.flatMap_nil, vis_gr, List.append_nil])
end Go.Ab
end
section
/- ref09: Loc, part, Inner, Outer. -/
set_option linter.unusedVariables false
set_option linter.unusedSimpArgs false
namespace Go.Ab
variable {F : Funs}
/-- Cell by cell in place. -/
def stK (M : Mx) (φ : Nat → Nat → Bool) (n a b : Nat) : Mx := fun i j => if (i < a ∧ j < n) ∨ (i = a ∧ j < b) then M i j && φ i j else M i j
theorem stK_succ (M φ n a b) : upd2 (stK M φ n a b) a b (M a b && φ a b) = stK M φ n a (b + 1) := by
  funext i j
  unfold upd2 stK
  by_cases h1 : i = a ∧ j = b
  · obtain ⟨rfl, rfl⟩ := h1
    rw [if_pos ⟨rfl, rfl⟩, if_pos (by omega)]
  · rw [if_neg h1]
    by_cases h2 : (i < a ∧ j < n) ∨ (i = a ∧ j < b)
    · rw [if_pos h2, if_pos (by omega)]
    · rw [if_neg h2, if_neg (by omega)]
theorem stK_row (M φ n a) : stK M φ n a n = stK M φ n (a + 1) 0 := by
  funext i j
  unfold stK
  by_cases h2 : (i < a ∧ j < n) ∨ (i = a ∧ j < n)
  · rw [if_pos h2, if_pos (by omega)]
  · rw [if_neg h2, if_neg (by omega)]
theorem stK_0 (M φ n) : stK M φ n 0 0 = M := by funext i j; unfold stK; rw [if_neg (by omega)]
theorem stK_at (M φ n a b) : stK M φ n a b a b = M a b := by unfold stK; rw [if_neg (by omega)]
def locV (X : Gr) (i j : Nat) : Bool := (X.evs.getD i ev0).kd != 3 && ((X.evs.getD j ev0).kd != 3 && (X.evs.getD i ev0).lc == (X.evs.getD j ev0).lc)
def locM (X : Gr) : Mx := stK (mpoM X) (locV X) X.evs.length X.evs.length 0
set_option maxRecDepth 100000 in
set_option maxHeartbeats 4000000 in
theorem sp_mLoc (h73 : F 73 = some A_xref09_Loc) (h84 : F 84 = some A_xref06_Po) (h27 : F 27 = some A_xref01_New) {X : Gr} (hn : X.evs.length ≤ 40) : pureS F 73 [.agg (grC X)] = some (.ptr (matC X.evs.length (locM X))) := by
  refine pure_of_thaw h73 (matC_flat _ _) ?_
  have s6 : ∀ b1 b2 b3 b4 b5 b6 c1 c2 c3 c4 c5 c6 : AV, splice [b1, b2, b3, b4, b5, b6] 0 [c1, c2, c3, c4, c5, c6] = [c1, c2, c3, c4, c5, c6] := fun _ _ _ _ _ _ _ _ _ _ _ _ => rfl
  simp (disch := omega) only [A_xref09_Loc, wp, Nat.reduceAdd, Nat.reduceMul, Nat.reduceSub, gl, ml, thaw84 h84 h27 hn]
  generalize hM0 : mpoM X = M0
  have hloc : locM X = stK M0 (locV X) X.evs.length X.evs.length 0 := by unfold locM; rw [hM0]
  refine W_loop (fun q e g => ∃ a : Nat, q = X.evs.length - a ∧ a ≤ X.evs.length ∧ e 1 = .mp 0 0 ∧ e 3 = .mp 3 0 ∧ e 4 = .i .i64 a ∧ g.hp 0 = some (.cells (grC X) false) ∧ g.hp 3 = some (.cells (matC X.evs.length (stK M0 (locV X) X.evs.length a 0)) false) ∧ 3 < g.nx) X.evs.length ?_ ?_
  · refine ⟨0, rfl, Nat.zero_le _, ?_⟩
    simp (disch := omega) only [wp, Nat.reduceAdd, Nat.reduceMul, Nat.reduceSub]
    exact ⟨rfl, by rw [stK_0], by first | omega | (dsimp only; omega)⟩
  · rintro q e g ⟨a, rfl, ha, e1, e3, e4, hg, hm, hnx⟩
    by_cases ha' : a < X.evs.length
    · have ha1 : (a : Int) < X.evs.length := by omega
      have hwa := succ_wrap (k := a) (by omega)
      simp (disch := omega) only [wp, Nat.reduceAdd, Nat.reduceMul, Nat.reduceSub, gl, ml, e1, e3, e4, hg, hm, ha1]
      refine W_loop (fun q e g => ∃ b : Nat, q = X.evs.length - b ∧ b ≤ X.evs.length ∧ e 1 = .mp 0 0 ∧ e 3 = .mp 3 0 ∧ e 4 = .i .i64 a ∧ e 5 = .i .i64 b ∧ g.hp 0 = some (.cells (grC X) false) ∧ g.hp 3 = some (.cells (matC X.evs.length (stK M0 (locV X) X.evs.length a b)) false) ∧ 3 < g.nx) X.evs.length ?_ ?_
      · refine ⟨0, rfl, Nat.zero_le _, ?_⟩
        simp (disch := omega) only [wp, Nat.reduceAdd, Nat.reduceMul, Nat.reduceSub, e1, e3, e4]
        exact ⟨rfl, hg, hm, by first | omega | (dsimp only; omega)⟩
      · rintro q e g ⟨b, rfl, hb, e1, e3, e4, e5, hg, hm, hnx⟩
        by_cases hb' : b < X.evs.length
        · have hb1 : (b : Int) < X.evs.length := by omega
          have hwb := succ_wrap (k := b) (by omega)
          have pa := ev_part ha'
          have pb := ev_part hb'
          have hv : locV X a b = ((X.evs.getD a ev0).kd != 3 && ((X.evs.getD b ev0).kd != 3 && (X.evs.getD a ev0).lc == (X.evs.getD b ev0).lc)) := rfl
          have hs := stK_succ M0 (locV X) X.evs.length a b
          have hat := stK_at M0 (locV X) X.evs.length a b
          have hset := fun x => matC_set (n := X.evs.length) (M := stK M0 (locV X) X.evs.length a b) (a := a) (b := b) (x := x) (by omega)
          generalize X.evs.getD a ev0 = u at pa hv
          generalize X.evs.getD b ev0 = v at pb hv
          obtain ⟨th, kd, md, lc, vl, ex⟩ := u
          obtain ⟨th', kd', md', lc', vl', ex'⟩ := v
          simp only at hv
          generalize locV X a b = z at hs hv
          have fin : ∀ x, x = (M0 a b && z) → X.evs.length - (b + 1) < X.evs.length - b ∧ upd2 (stK M0 (locV X) X.evs.length a b) a b x = stK M0 (locV X) X.evs.length a (b + 1) := fun x hx => ⟨by omega, by rw [hx, hs]⟩
          cases c0 : M0 a b
          case false =>
            rw [c0] at hat
            simp (disch := omega) only [wp, Nat.reduceAdd, Nat.reduceMul, Nat.reduceSub, gl, ml, e1, e3, e4, e5, hg, hm, ha1, hb1, pa, pb, s6, hat, c0, hset, hwb]
            obtain ⟨f1, f2⟩ := fin false (by rw [c0]; rfl)
            exact ⟨_, f1, b + 1, rfl, by omega, rfl, by rw [f2], by first | omega | (dsimp only; omega)⟩
          rw [c0] at hat
          cases c1 : (kd != 3)
          case false =>
            simp (disch := omega) only [wp, Nat.reduceAdd, Nat.reduceMul, Nat.reduceSub, gl, ml, e1, e3, e4, e5, hg, hm, ha1, hb1, pa, pb, s6, hat, c0, c1, hset, hwb]
            obtain ⟨f1, f2⟩ := fin false (by rw [c0, hv, c1]; rfl)
            exact ⟨_, f1, b + 1, rfl, by omega, rfl, by rw [f2], by first | omega | (dsimp only; omega)⟩
          cases c2 : (kd' != 3)
          case false =>
            simp (disch := omega) only [wp, Nat.reduceAdd, Nat.reduceMul, Nat.reduceSub, gl, ml, e1, e3, e4, e5, hg, hm, ha1, hb1, pa, pb, s6, hat, c0, c1, c2, hset, hwb]
            obtain ⟨f1, f2⟩ := fin false (by rw [c0, hv, c1, c2]; rfl)
            exact ⟨_, f1, b + 1, rfl, by omega, rfl, by rw [f2], by first | omega | (dsimp only; omega)⟩
          simp (disch := omega) only [wp, Nat.reduceAdd, Nat.reduceMul, Nat.reduceSub, gl, ml, e1, e3, e4, e5, hg, hm, ha1, hb1, pa, pb, s6, hat, c0, c1, c2, hset, hwb]
          obtain ⟨f1, f2⟩ := fin (lc == lc') (by rw [c0, hv, c1, c2]; simp)
          exact ⟨_, f1, b + 1, rfl, by omega, rfl, by rw [f2], by first | omega | (dsimp only; omega)⟩
        · obtain rfl : b = X.evs.length := by omega
          have hb1 : ¬ ((X.evs.length : Int) < X.evs.length) := by omega
          simp (disch := omega) only [wp, Nat.reduceAdd, Nat.reduceMul, Nat.reduceSub, gl, ml, e1, e3, e4, e5, hg, hm, hb1, hwa]
          exact ⟨X.evs.length - (a + 1), by omega, a + 1, rfl, by omega, rfl, by rw [stK_row], by first | omega | (dsimp only; omega)⟩
    · obtain rfl : a = X.evs.length := by omega
      have ha1 : ¬ ((X.evs.length : Int) < X.evs.length) := by omega
      simp (disch := omega) only [wp, Nat.reduceAdd, Nat.reduceMul, Nat.reduceSub, gl, ml, e1, e3, e4, hg, hm, ha1, hloc]
      exact ⟨_, rfl, hm⟩
def thV (X : Gr) (one : Bool) : Mx := fun i j => (thI X i == thI X j) == one
def prtM (X : Gr) (one : Bool) (A : Mx) : Mx := opM (fun x y => x && y) A (thV X one) X.evs.length
set_option maxRecDepth 100000 in
set_option maxHeartbeats 4000000 in
theorem sp_mpart (h85 : F 85 = some A_xref09_part) (h27 : F 27 = some A_xref01_New) {X : Gr} (hn : X.evs.length ≤ 40) (A : Mx) (one : Bool) : pureS F 85 [.agg (grC X), .ptr (matC X.evs.length A), .b one] = some (.ptr (matC X.evs.length (prtM X one A))) := by
  refine pure_of_thaw h85 (matC_flat _ _) ?_
  have fin0 : prtM X one A = stM (fun x y => x && y) A (thV X one) X.evs.length X.evs.length 0 := rfl
  simp (disch := omega) only [A_xref09_part, wp, Nat.reduceAdd, Nat.reduceMul, Nat.reduceSub, gl, ml, thaw27 h27]
  generalize hB : thV X one = B at fin0
  refine W_loop (fun q e g => ∃ a : Nat, q = X.evs.length - a ∧ a ≤ X.evs.length ∧ e 1 = .ptr (matC X.evs.length A) ∧ e 2 = .b one ∧ e 3 = .mp 0 0 ∧ e 7 = .mp 6 0 ∧ e 8 = .i .i64 a ∧ g.hp 0 = some (.cells (grC X) false) ∧ g.hp 6 = some (.cells (matC X.evs.length (stM (fun x y => x && y) A B X.evs.length a 0)) false) ∧ 6 < g.nx) X.evs.length ?_ ?_
  · refine ⟨0, rfl, Nat.zero_le _, ?_⟩
    simp (disch := omega) only [wp, Nat.reduceAdd, Nat.reduceMul, Nat.reduceSub]
    exact ⟨rfl, by rw [stM_0], by first | omega | (dsimp only; omega)⟩
  · rintro q e g ⟨a, rfl, ha, e1, e2, e3, e7, e8, hg, hm, hnx⟩
    by_cases ha' : a < X.evs.length
    · have ha1 : (a : Int) < X.evs.length := by omega
      have hwa := succ_wrap (k := a) (by omega)
      simp (disch := omega) only [wp, Nat.reduceAdd, Nat.reduceMul, Nat.reduceSub, gl, ml, e1, e2, e3, e7, e8, hg, hm, ha1]
      refine W_loop (fun q e g => ∃ b : Nat, q = X.evs.length - b ∧ b ≤ X.evs.length ∧ e 1 = .ptr (matC X.evs.length A) ∧ e 2 = .b one ∧ e 3 = .mp 0 0 ∧ e 7 = .mp 6 0 ∧ e 8 = .i .i64 a ∧ e 9 = .i .i64 b ∧ g.hp 0 = some (.cells (grC X) false) ∧ g.hp 6 = some (.cells (matC X.evs.length (stM (fun x y => x && y) A B X.evs.length a b)) false) ∧ 6 < g.nx) X.evs.length ?_ ?_
      · refine ⟨0, rfl, Nat.zero_le _, ?_⟩
        simp (disch := omega) only [wp, Nat.reduceAdd, Nat.reduceMul, Nat.reduceSub, e1, e2, e3, e7, e8]
        exact ⟨rfl, hg, hm, by first | omega | (dsimp only; omega)⟩
      · rintro q e g ⟨b, rfl, hb, e1, e2, e3, e7, e8, e9, hg, hm, hnx⟩
        by_cases hb' : b < X.evs.length
        · have hb1 : (b : Int) < X.evs.length := by omega
          have hwb := succ_wrap (k := b) (by omega)
          have tA := ev_th_at ha'
          have tB := ev_th_at hb'
          have dA : (List.drop (a * 6) (evsC X.evs)).length = X.evs.length * 6 - a * 6 := by rw [List.length_drop, evsC_len]
          have dB : (List.drop (b * 6) (evsC X.evs)).length = X.evs.length * 6 - b * 6 := by rw [List.length_drop, evsC_len]
          have hv : B a b = (((X.evs.getD a ev0).th == (X.evs.getD b ev0).th) == one) := by rw [← hB]; rfl
          have hs := stM_succ (fun x y => x && y) A B X.evs.length a b
          have hset := fun x => matC_set (n := X.evs.length) (M := stM (fun x y => x && y) A B X.evs.length a b) (a := a) (b := b) (x := x) (by omega)
          generalize (X.evs.getD a ev0).th = ta at tA hv
          generalize (X.evs.getD b ev0).th = tb at tB hv
          have fin : ∀ x, x = (A a b && B a b) → X.evs.length - (b + 1) < X.evs.length - b ∧ upd2 (stM (fun x y => x && y) A B X.evs.length a b) a b x = stM (fun x y => x && y) A B X.evs.length a (b + 1) := fun x hx => ⟨by omega, by rw [hx]; exact hs⟩
          cases c0 : A a b
          case false =>
            simp (disch := omega) only [wp, Nat.reduceAdd, Nat.reduceMul, Nat.reduceSub, gl, ml, e1, e2, e3, e7, e8, e9, hg, hm, ha1, hb1, tA, tB, dA, dB, c0, hset, hwb]
            obtain ⟨f1, f2⟩ := fin false (by rw [c0]; rfl)
            exact ⟨_, f1, b + 1, rfl, by omega, rfl, by rw [f2], by first | omega | (dsimp only; omega)⟩
          simp (disch := omega) only [wp, Nat.reduceAdd, Nat.reduceMul, Nat.reduceSub, gl, ml, e1, e2, e3, e7, e8, e9, hg, hm, ha1, hb1, tA, tB, dA, dB, c0, hset, hwb]
          obtain ⟨f1, f2⟩ := fin ((ta == tb) == one) (by rw [c0, hv]; rfl)
          exact ⟨_, f1, b + 1, rfl, by omega, rfl, by rw [f2], by first | omega | (dsimp only; omega)⟩
        · obtain rfl : b = X.evs.length := by omega
          have hb1 : ¬ ((X.evs.length : Int) < X.evs.length) := by omega
          simp (disch := omega) only [wp, Nat.reduceAdd, Nat.reduceMul, Nat.reduceSub, gl, ml, e1, e2, e3, e7, e8, e9, hg, hm, hb1, hwa]
          exact ⟨X.evs.length - (a + 1), by omega, a + 1, rfl, by omega, rfl, by rw [stM_row], by first | omega | (dsimp only; omega)⟩
    · obtain rfl : a = X.evs.length := by omega
      have ha1 : ¬ ((X.evs.length : Int) < X.evs.length) := by omega
      simp (disch := omega) only [wp, Nat.reduceAdd, Nat.reduceMul, Nat.reduceSub, gl, ml, e1, e2, e3, e7, e8, hg, hm, ha1, fin0]
      exact ⟨_, rfl, hm⟩
set_option maxRecDepth 100000 in
theorem sp_mInner (h74 : F 74 = some A_xref09_Inner) (h85 : F 85 = some A_xref09_part) (h27 : F 27 = some A_xref01_New) {X : Gr} (hn : X.evs.length ≤ 40) (A : Mx) : pureS F 74 [.agg (grC X), .ptr (matC X.evs.length A)] = some (.ptr (matC X.evs.length (prtM X true A))) := by
  refine pure_of h74 ?_
  simp (disch := omega) only [A_xref09_Inner, wp, Nat.reduceAdd, Nat.reduceMul, Nat.reduceSub, gl, sp_mpart h85 h27 hn]
set_option maxRecDepth 100000 in
theorem sp_mOuter (h75 : F 75 = some A_xref09_Outer) (h85 : F 85 = some A_xref09_part) (h27 : F 27 = some A_xref01_New) {X : Gr} (hn : X.evs.length ≤ 40) (A : Mx) : pureS F 75 [.agg (grC X), .ptr (matC X.evs.length A)] = some (.ptr (matC X.evs.length (prtM X false A))) := by
  refine pure_of h75 ?_
  simp (disch := omega) only [A_xref09_Outer, wp, Nat.reduceAdd, Nat.reduceMul, Nat.reduceSub, gl, sp_mpart h85 h27 hn]
end Go.Ab
end
section
/- Of a graph that may be: the program's relations are the document's. -/
set_option linter.unusedVariables false
set_option linter.unusedSimpArgs false
namespace Go.Ab
variable {F : Funs}
theorem GraphOk.nOf {X : Gr} (h : GraphOk X) : nOf X = X.evs.length := by
  have := h.n40
  unfold Go.Ab.nOf clamp; omega
theorem hb_newM {n : Nat} (hn : n ≤ 40) (L : List (Int × Int)) {a b : Nat} (ha : a < n) (hb' : b < n) : hb (newR n L) a b = anyM L a b := by
  rw [hb_new hn, decide_eq_true ha, decide_eq_true hb', Bool.true_and, Bool.true_and]; rfl
theorem sameL {n : Nat} (hn : n ≤ 40) {L L' : List (Int × Int)} (h : ∀ a b : Nat, a < n → b < n → (((a : Int), (b : Int)) ∈ L ↔ ((a : Int), (b : Int)) ∈ L')) {a b : Nat} (ha : a < n) (hb' : b < n) : anyM L a b = hb (newR n L') a b := by
  rw [hb_newM hn _ ha hb', Bool.eq_iff_iff, anyM_mem, anyM_mem]
  exact h a b ha hb'
theorem aft_spec (w : Int) (c : List Int) : ∀ k, k ≤ c.length → (∀ b, b ∈ (aft w (c.take k)).1 ↔ ∃ i m, i < m ∧ m < k ∧ c.getD i 0 = w ∧ c.getD m 0 = b) ∧ ((aft w (c.take k)).2 = true ↔ ∃ i, i < k ∧ c.getD i 0 = w) := by
  intro k
  induction k with
  | zero => intro _; constructor
            · intro b; simp [aft]
            · simp [aft]
  | succ k ih =>
    intro hk
    obtain ⟨h1, h2⟩ := ih (by omega)
    rw [aft_take (by omega)]
    unfold aftS
    constructor
    · intro b
      simp only
      cases hm : (aft w (c.take k)).2 with
      | true =>
        obtain ⟨i0, hi0, hw⟩ := h2.1 hm
        rw [if_pos rfl, List.mem_append, h1 b, List.mem_singleton]
        constructor
        · rintro (⟨i, m, him, hmk, ha, hb'⟩ | rfl)
          · exact ⟨i, m, him, by omega, ha, hb'⟩
          · exact ⟨i0, k, hi0, by omega, hw, rfl⟩
        · rintro ⟨i, m, him, hmk, ha, hb'⟩
          by_cases hmk' : m = k
          · right; subst hmk'; exact hb'.symm
          · left; exact ⟨i, m, him, by omega, ha, hb'⟩
      | false =>
        rw [if_neg (by simp), h1 b]
        constructor
        · rintro ⟨i, m, him, hmk, ha, hb'⟩; exact ⟨i, m, him, by omega, ha, hb'⟩
        · rintro ⟨i, m, him, hmk, ha, hb'⟩
          by_cases hmk' : m = k
          · have := h2.2 ⟨i, by omega, ha⟩
            rw [hm] at this; cases this
          · exact ⟨i, m, him, by omega, ha, hb'⟩
    · simp only [Bool.or_eq_true, beq_iff_eq, h2]
      constructor
      · rintro (⟨i, hi, hw⟩ | hw)
        · exact ⟨i, by omega, hw⟩
        · exact ⟨k, by omega, hw⟩
      · rintro ⟨i, hi, hw⟩
        by_cases hik : i = k
        · right; subst hik; exact hw
        · left; exact ⟨i, by omega, hw⟩
theorem mem_aft {w : Int} {c : List Int} {b : Int} : b ∈ (aft w c).1 ↔ ∃ i m, i < m ∧ m < c.length ∧ c.getD i 0 = w ∧ c.getD m 0 = b := by
  have := (aft_spec w c c.length (Nat.le_refl _)).1 b
  rwa [List.take_length] at this
theorem mem_beh {a w x y : Int} {co : List (List Int)} : (x, y) ∈ behL a w co ↔ x = a ∧ ∃ j i m, j < co.length ∧ i < m ∧ m < (co.getD j []).length ∧ (co.getD j []).getD i 0 = w ∧ (co.getD j []).getD m 0 = y := by
  unfold behL
  simp only [List.mem_flatMap, List.mem_map, Prod.mk.injEq]
  constructor
  · rintro ⟨c, hc, z, hz, rfl, rfl⟩
    obtain ⟨j, hj, rfl⟩ := List.getElem_of_mem hc
    obtain ⟨i, m, h1, h2, h3, h4⟩ := mem_aft.1 hz
    have e : co.getD j [] = co[j] := by rw [List.getD_eq_getElem?_getD, List.getElem?_eq_getElem hj]; rfl
    exact ⟨rfl, j, i, m, hj, h1, by rw [e]; exact h2, by rw [e]; exact h3, by rw [e]; exact h4⟩
  · rintro ⟨rfl, j, i, m, hj, h1, h2, h3, h4⟩
    have e : co.getD j [] = co[j] := by rw [List.getD_eq_getElem?_getD, List.getElem?_eq_getElem hj]; rfl
    rw [e] at h2 h3 h4
    exact ⟨co[j], List.getElem_mem hj, y, mem_aft.2 ⟨i, m, h1, h2, h3, h4⟩, rfl, rfl⟩
theorem mem_coX {X : Gr} {x y : Int} : (x, y) ∈ coX X X.co.length ↔ ∃ j i m, j < X.co.length ∧ i < m ∧ m < (X.co.getD j []).length ∧ (X.co.getD j []).getD i 0 = x ∧ (X.co.getD j []).getD m 0 = y := by
  unfold coX coJ coI
  simp only [List.mem_flatMap, List.mem_range]
  constructor
  · rintro ⟨j, hj, i, hi, m, hm, h⟩
    by_cases him : i < m
    · rw [if_pos him, List.mem_singleton, Prod.mk.injEq] at h
      exact ⟨j, i, m, hj, him, hm, h.1.symm, h.2.symm⟩
    · rw [if_neg him] at h; cases h
  · rintro ⟨j, i, m, hj, him, hm, h1, h2⟩
    exact ⟨j, hj, i, by omega, m, hm, by rw [if_pos him, h1, h2]; exact List.mem_singleton.2 rfl⟩
section
variable {X : Gr} (h : GraphOk X)
include h
theorem GraphOk.rfr (i : Nat) (hi : i < X.evs.length) : (0 ≤ X.rf.getD i 0 ↔ (X.evs.getD i ev0).kd = 1) ∧ X.rf.getD i 0 < X.evs.length := by
  obtain ⟨h1, h2⟩ := h.rf i hi
  by_cases hk : (X.evs.getD i ev0).kd = 1
  · obtain ⟨h3, h4, _⟩ := h2 hk
    exact ⟨⟨fun _ => hk, fun _ => h3⟩, h4⟩
  · have := h1 hk
    exact ⟨⟨fun h => by omega, fun h => absurd h hk⟩, by omega⟩
theorem GraphOk.cor (j : Nat) (hj : j < X.co.length) (i : Nat) (hi : i < (X.co.getD j []).length) : 0 ≤ (X.co.getD j []).getD i 0 ∧ (X.co.getD j []).getD i 0 < X.evs.length ∧ (X.evs.getD ((X.co.getD j []).getD i 0).toNat ev0).kd = 2 := by
  obtain ⟨h1, h2, h3, _⟩ := (h.co j hj).wr i hi
  exact ⟨h1, h2, h3⟩
theorem mem_rfL {x y : Int} : (x, y) ∈ rfL X X.rf.length ↔ ∃ i : Nat, i < X.evs.length ∧ (X.evs.getD i ev0).kd = 1 ∧ x = X.rf.getD i 0 ∧ y = i := by
  have hl := h.rfl
  unfold rfL
  simp only [List.mem_flatMap, List.mem_range]
  constructor
  · rintro ⟨i, hi, hh⟩
    by_cases h0 : 0 ≤ X.rf.getD i 0
    · rw [if_pos h0, List.mem_singleton, Prod.mk.injEq] at hh
      exact ⟨i, by omega, (h.rfr i (by omega)).1.1 h0, hh.1, hh.2⟩
    · rw [if_neg h0] at hh; cases hh
  · rintro ⟨i, hi, hk, rfl, rfl⟩
    exact ⟨i, by omega, by rw [if_pos ((h.rfr i hi).1.2 hk)]; exact List.mem_singleton.2 rfl⟩
theorem mem_rfE {x y : Int} : (x, y) ∈ pairsE rfS X X.evs.length ↔ ∃ i : Nat, i < X.evs.length ∧ (X.evs.getD i ev0).kd = 1 ∧ x = X.rf.getD i 0 ∧ y = i := by
  have hl := h.rfl
  unfold pairsE rfS
  simp only [List.mem_flatMap, List.mem_range]
  constructor
  · rintro ⟨i, hi, hh⟩
    by_cases hk : (X.evs.getD i ev0).kd = 1
    · rw [if_pos hk, List.mem_singleton, Prod.mk.injEq] at hh
      rw [wOf, if_pos (by omega)] at hh
      exact ⟨i, hi, hk, hh.1, hh.2⟩
    · rw [if_neg hk] at hh; cases hh
  · rintro ⟨i, hi, hk, rfl, rfl⟩
    refine ⟨i, hi, ?_⟩
    rw [if_pos hk, wOf, if_pos (by omega)]; exact List.mem_singleton.2 rfl
theorem mem_coE {x y : Int} : (x, y) ∈ pairsE (coS X.co) X X.evs.length ↔ (x, y) ∈ coX X X.co.length := by
  rw [mem_coX]
  unfold pairsE coS
  simp only [List.mem_flatMap, List.mem_range]
  constructor
  · rintro ⟨i, hi, hh⟩
    by_cases hk : (X.evs.getD i ev0).kd = 2
    · rw [if_pos hk] at hh
      obtain ⟨rfl, j, a, m, h1, h2, h3, h4, h5⟩ := mem_beh.1 hh
      exact ⟨j, a, m, h1, h2, h3, h4, h5⟩
    · rw [if_neg hk] at hh; cases hh
  · rintro ⟨j, a, m, h1, h2, h3, h4, h5⟩
    obtain ⟨g1, g2, g3⟩ := h.cor j h1 a (by omega)
    rw [h4] at g1 g2 g3
    refine ⟨x.toNat, by omega, ?_⟩
    rw [if_pos g3]
    exact mem_beh.2 ⟨by omega, j, a, m, h1, h2, h3, by omega, h5⟩
theorem mem_frE {x y : Int} : (x, y) ∈ pairsE (frS X.co) X X.evs.length ↔ ∃ w, (w, x) ∈ rfL X X.rf.length ∧ (w, y) ∈ coX X X.co.length := by
  have hl := h.rfl
  unfold pairsE frS
  simp only [List.mem_flatMap, List.mem_range, mem_rfL h]
  constructor
  · rintro ⟨i, hi, hh⟩
    by_cases hk : (X.evs.getD i ev0).kd = 1
    · rw [if_pos hk] at hh
      obtain ⟨rfl, j, a, m, h1, h2, h3, h4, h5⟩ := mem_beh.1 hh
      rw [wOf, if_pos (by omega)] at h4
      exact ⟨X.rf.getD i 0, ⟨i, hi, hk, rfl, rfl⟩, mem_coX.2 ⟨j, a, m, h1, h2, h3, h4, h5⟩⟩
    · rw [if_neg hk] at hh; cases hh
  · rintro ⟨w, ⟨i, hi, hk, rfl, rfl⟩, hc⟩
    obtain ⟨j, a, m, h1, h2, h3, h4, h5⟩ := mem_coX.1 hc
    refine ⟨i, hi, ?_⟩
    rw [if_pos hk, wOf, if_pos (by omega)]
    exact mem_beh.2 ⟨rfl, j, a, m, h1, h2, h3, h4, h5⟩
theorem rf_get {a b : Nat} (ha : a < X.evs.length) (hb' : b < X.evs.length) : anyM (rfL X X.rf.length) a b = hb (relE rfS X) a b := by
  unfold relE; rw [h.nOf]
  exact sameL h.n40 (fun a b _ _ => by rw [mem_rfL h, mem_rfE h]) ha hb'
theorem co_get {a b : Nat} (ha : a < X.evs.length) (hb' : b < X.evs.length) : anyM (coX X X.co.length) a b = hb (relE (coS X.co) X) a b := by
  unfold relE; rw [h.nOf]
  exact sameL h.n40 (fun a b _ _ => (mem_coE h).symm) ha hb'
theorem fr_get {a b : Nat} (ha : a < X.evs.length) (hb' : b < X.evs.length) : frM X.evs.length (anyM (rfL X X.rf.length)) (anyM (coX X X.co.length)) a b = hb (relE (frS X.co) X) a b := by
  unfold relE; rw [h.nOf, hb_newM h.n40 _ ha hb', Bool.eq_iff_iff, anyM_mem, mem_frE h]
  unfold frM
  rw [thM_get _ _ _ _ _ _ hb', decide_eq_true ha, Bool.true_and, List.any_eq_true]
  constructor
  · rintro ⟨c, hc, hh⟩
    rw [mback_get _ _ _ _ ha (List.mem_range.1 hc), Bool.and_eq_true, anyM_mem, anyM_mem] at hh
    exact ⟨c, hh.1, hh.2⟩
  · rintro ⟨w, h1, h2⟩
    obtain ⟨i, hi, hk, e1, e2⟩ := (mem_rfL h).1 h1
    have h3 := (h.rfr i hi).1.2 hk
    have h4 := (h.rfr i hi).2
    have hw : ((w.toNat : Nat) : Int) = w := by omega
    refine ⟨w.toNat, List.mem_range.2 (by omega), ?_⟩
    rw [mback_get _ _ _ _ ha (by omega), Bool.and_eq_true, anyM_mem, anyM_mem, hw]
    exact ⟨h1, h2⟩
end
end Go.Ab
end
section
/- A graph that comes in. -/
set_option linter.unusedVariables false
set_option linter.unusedSimpArgs false
namespace Go.Ab
open Go.RowKit
section
variable {H : Type} {enc : TypeId × Value → H} {P : Program} {c : Cx}
/-- An argument that is a struct. -/
theorem read_agg (hb : c.base = c.w.heap.size) (hJ : c.J = fun _ => True) (m : Nat) {t : TypeId} {cs : Array Value} {d : DataW H} {ps : List MemPlace} (hp : plainB P m t = true) (h : DataW.Trod enc P c.w 0 (fun _ => true) true t (.agg cs) d ps) :
    ∃ asx, Sh P m t asx ∧ Rep c true (.agg asx) (.agg cs) := by
  obtain ⟨fuel, hf⟩ := h
  obtain ⟨asx, h1, h2, _⟩ := read_cells hb hJ m hp hf
  refine ⟨asx, h1, ?_⟩
  have := Rep.agg (c := c) (m := true) (cs := asx) cs.toList h2.1 fun j x v hx hv => (h2.2 j x v hx hv).up
  rwa [Array.toArray_toList] at this
end
theorem sh_int {P : Program} {m : Nat} {t : TypeId} {asx : List AV} (ht : P.underlying t = some (.int .i64)) (h : Sh P (m + 1) t asx) : ∃ n, asx = [.i .i64 n] := by
  simp only [Sh, ht] at h
  obtain ⟨n, h, _⟩ := h
  exact ⟨n, h⟩
theorem sh_bool {P : Program} {m : Nat} {t : TypeId} {asx : List AV} (ht : P.underlying t = some .bool) (h : Sh P (m + 1) t asx) : ∃ b, asx = [.b b] := by
  simp only [Sh, ht] at h; exact h
theorem sh_slice {P : Program} {m : Nat} {t e : TypeId} {asx : List AV} {α : Type} {f : α → List AV} (ht : P.underlying t = some (.slice e)) (he : ∀ r, Sh P m e r → ∃ p, r = f p) (h : Sh P (m + 1) t asx) : ∃ l : List α, asx = [.sl (l.flatMap f) l.length .non] ∧ l.length ≤ maxLen := by
  simp only [Sh, ht] at h
  obtain ⟨cs, n, rfl, hn, rows, hl, rfl, hS⟩ := h
  have key : ∀ rows : List (List AV), (∀ r ∈ rows, Sh P m e r) → ∃ l : List α, rows.flatten = l.flatMap f ∧ l.length = rows.length := by
    intro rows
    induction rows with
    | nil => intro _; exact ⟨[], rfl, rfl⟩
    | cons r rows ih =>
      intro h
      obtain ⟨p, rfl⟩ := he r (h r (List.mem_cons_self ..))
      obtain ⟨l, h1, h2⟩ := ih fun r hr => h r (List.mem_cons_of_mem _ hr)
      exact ⟨p :: l, by rw [List.flatten_cons, h1]; rfl, by simp [h2]⟩
  obtain ⟨l, h1, h2⟩ := key rows hS
  exact ⟨l, by rw [h1, ← hl, h2], by omega⟩
theorem sh_struct {P : Program} {m : Nat} {t : TypeId} {fs : Array Field} {asx : List AV} {ts : List TypeId} (ht : P.underlying t = some (.struct fs)) (hf : fs.toList.map (·.type) = ts) (h : Sh P (m + 1) t asx) : ShL (Sh P m) ts asx := by
  simp only [Sh, ht, hf] at h; exact h
theorem intsC_flat (l : List Int) : l.flatMap (fun v => [AV.i .i64 v]) = intsC l := by
  induction l with
  | nil => rfl
  | cons a l ih => rw [List.flatMap_cons, ih]; rfl
theorem coC_flat (l : List (List Int)) : l.flatMap (fun c => [AV.sl (intsC c) c.length .non]) = coC l := by
  induction l with
  | nil => rfl
  | cons a l ih => rw [List.flatMap_cons, ih]; rfl
section
variable {P : Program} {i b e g sE sI sC sP p : TypeId} {fe fg fp : Array Field}
theorem sh_intsG {m : Nat} (hi : P.underlying i = some (.int .i64)) (hI : P.underlying sI = some (.slice i)) {asx : List AV} (h : Sh P (m + 2) sI asx) : ∃ l : List Int, asx = [.sl (intsC l) l.length .non] ∧ l.length ≤ maxLen := by
  obtain ⟨l, h1, h2⟩ := sh_slice (f := fun v => [AV.i .i64 v]) hI (fun r hr => sh_int hi hr) h
  exact ⟨l, by rw [h1, intsC_flat], h2⟩
theorem sh_pairsG {m : Nat} (hi : P.underlying i = some (.int .i64)) (hp : P.underlying p = some (.struct fp)) (hfp : fp.toList.map (·.type) = [i, i]) (hP : P.underlying sP = some (.slice p)) {asx : List AV} (h : Sh P (m + 3) sP asx) : ∃ l : List (Int × Int), asx = [.sl (pairsC l) l.length .non] ∧ l.length ≤ maxLen := by
  obtain ⟨l, h1, h2⟩ := sh_slice (f := fun q : Int × Int => [AV.i .i64 q.1, .i .i64 q.2]) hP (fun r hr => by
    obtain ⟨a1, r1, rfl, s1, a2, r2, rfl, s2, rfl⟩ := sh_struct hp hfp hr
    obtain ⟨x, rfl⟩ := sh_int hi s1
    obtain ⟨y, rfl⟩ := sh_int hi s2
    exact ⟨(x, y), rfl⟩) h
  exact ⟨l, h1, h2⟩
theorem sh_evsG {m : Nat} (hi : P.underlying i = some (.int .i64)) (hb : P.underlying b = some .bool) (he : P.underlying e = some (.struct fe)) (hfe : fe.toList.map (·.type) = [i, i, i, i, i, b]) (hE : P.underlying sE = some (.slice e)) {asx : List AV} (h : Sh P (m + 3) sE asx) : ∃ l : List Ev, asx = [.sl (evsC l) l.length .non] ∧ l.length ≤ maxLen := by
  obtain ⟨l, h1, h2⟩ := sh_slice (f := evC) hE (fun r hr => by
    obtain ⟨a1, r1, rfl, s1, a2, r2, rfl, s2, a3, r3, rfl, s3, a4, r4, rfl, s4, a5, r5, rfl, s5, a6, r6, rfl, s6, rfl⟩ := sh_struct he hfe hr
    obtain ⟨x1, rfl⟩ := sh_int hi s1
    obtain ⟨x2, rfl⟩ := sh_int hi s2
    obtain ⟨x3, rfl⟩ := sh_int hi s3
    obtain ⟨x4, rfl⟩ := sh_int hi s4
    obtain ⟨x5, rfl⟩ := sh_int hi s5
    obtain ⟨x6, rfl⟩ := sh_bool hb s6
    exact ⟨⟨x1, x2, x3, x4, x5, x6⟩, rfl⟩) h
  exact ⟨l, h1, h2⟩
theorem sh_gr (hi : P.underlying i = some (.int .i64)) (hb : P.underlying b = some .bool) (he : P.underlying e = some (.struct fe)) (hfe : fe.toList.map (·.type) = [i, i, i, i, i, b]) (hE : P.underlying sE = some (.slice e)) (hI : P.underlying sI = some (.slice i)) (hC : P.underlying sC = some (.slice sI))
    (hp : P.underlying p = some (.struct fp)) (hfp : fp.toList.map (·.type) = [i, i]) (hP : P.underlying sP = some (.slice p)) (hg : P.underlying g = some (.struct fg)) (hfg : fg.toList.map (·.type) = [i, sE, sI, sC, sP, sP, sP, sP]) {asx : List AV} (h : Sh P 4 g asx) : ∃ X : Gr, asx = grC X := by
  obtain ⟨a1, r1, rfl, s1, a2, r2, rfl, s2, a3, r3, rfl, s3, a4, r4, rfl, s4, a5, r5, rfl, s5, a6, r6, rfl, s6, a7, r7, rfl, s7, a8, r8, rfl, s8, rfl⟩ := sh_struct hg hfg h
  obtain ⟨x1, rfl⟩ := sh_int hi s1
  obtain ⟨x2, rfl, _⟩ := sh_evsG (m := 0) hi hb he hfe hE s2
  obtain ⟨x3, rfl, _⟩ := sh_intsG (m := 1) hi hI s3
  obtain ⟨x4, rfl, _⟩ := sh_slice (f := fun c : List Int => [AV.sl (intsC c) c.length .non]) hC (fun r hr => by
    obtain ⟨l, h1, _⟩ := sh_intsG (m := 0) hi hI hr
    exact ⟨l, h1⟩) s4
  obtain ⟨x5, rfl, _⟩ := sh_pairsG (m := 0) hi hp hfp hP s5
  obtain ⟨x6, rfl, _⟩ := sh_pairsG (m := 0) hi hp hfp hP s6
  obtain ⟨x7, rfl, _⟩ := sh_pairsG (m := 0) hi hp hfp hP s7
  obtain ⟨x8, rfl, _⟩ := sh_pairsG (m := 0) hi hp hfp hP s8
  exact ⟨⟨x1, x2, x3, x4, x5, x6, x7, x8⟩, by rw [coC_flat]; rfl⟩
end
end Go.Ab
end
