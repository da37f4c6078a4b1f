/- What EcoNumbers rests on, part 3: lemmas, no claim of its own. -/
import Derived.Test.YtippmjhokhjjiaaChecked
import Derived.KernelRfl
import Derived.OpenShut
import Derived.ChangeArms
import Derived.Laws.Rows
import Derived.Test.YtippmjhokhjjiaaPEcoNumbers2
section
namespace Go.Ab
def A_xref04_Check : AFun := { res := [.t 2], body := (.seq (.reg false [{ dst := some 1, op := .box (.t 0) },
  { dst := some 2, op := .mv (.c (.i .i64 0)) }])
 (.seq (.seq (.reg false [{ dst := some 8, op := .fa 0 (.t 1) },
  { dst := some 9, op := .ld none (.t 8) },
  { dst := some 10, op := .bin .lss (.t 9) (.c (.i .i64 1)) },
  { dst := some 11, op := .mv (.t 10) },
  { dst := some 12, op := .fa 0 (.t 1), grd := some (11, false) },
  { dst := some 13, op := .ld none (.t 12), grd := some (11, false) },
  { dst := some 14, op := .bin .gtr (.t 13) (.c (.i .i64 4)), grd := some (11, false) },
  { dst := some 15, op := .pick (.t 11) (.c (.b true)) (.t 14) },
  { dst := some 16, op := .mv (.t 15) },
  { dst := some 17, op := .fa 1 (.t 1), grd := some (16, false) },
  { dst := some 18, op := .ld none (.t 17), grd := some (16, false) },
  { dst := some 19, op := .len (.t 18), grd := some (16, false) },
  { dst := some 20, op := .bin .eql (.t 19) (.c (.i .i64 0)), grd := some (16, false) },
  { dst := some 21, op := .pick (.t 16) (.c (.b true)) (.t 20) }])
 (.cond (.t 21) (.seq (.reg false [{ dst := some 2, op := .mv (.c (.i .i64 3)) }])
 .ret)
 .skip))
 (.seq (.reg true [{ dst := some 22, op := .fa 0 (.t 1) },
  { dst := some 23, op := .ld none (.t 22), pre := [] },
  { dst := some 24, op := .fa 1 (.t 1) },
  { dst := some 25, op := .ld none (.t 24), pre := [] },
  { dst := some 26, op := .len (.t 25) },
  { dst := some 27, op := .bin .gtr (.t 26) (.c (.i .i64 4)) },
  { dst := some 3, op := .mv (.t 23) },
  { dst := some 4, op := .mv (.t 27) }])
 (.seq (.seq (.reg false [{ dst := some 5, op := .mv (.c (.i .i64 0)) }])
 (.blk 0 (.loop (.seq (.seq (.reg false [{ dst := some 28, op := .mv (.t 5) },
  { dst := some 29, op := .fa 1 (.t 1) },
  { dst := some 30, op := .ld none (.t 29) },
  { dst := some 31, op := .len (.t 30) },
  { dst := some 32, op := .bin .lss (.t 28) (.t 31) }])
 (.cond (.t 32) .skip
 (.ext 0)))
 (.seq (.blk 1 (.seq (.reg false [{ dst := some 35, op := .fa 1 (.t 1) },
  { dst := some 36, op := .ld none (.t 35) },
  { dst := some 37, op := .mv (.t 5) },
  { dst := some 38, op := .ia 1 (.t 36) (.t 37) },
  { dst := some 39, op := .ld none (.t 38) },
  { dst := some 6, op := .mv (.t 39) }])
 (.seq (.seq (.reg false [{ dst := some 7, op := .mv (.c (.i .i64 0)) }])
 (.blk 2 (.loop (.seq (.seq (.reg false [{ dst := some 40, op := .mv (.t 7) },
  { dst := some 41, op := .mv (.t 6) },
  { dst := some 42, op := .len (.t 41) },
  { dst := some 43, op := .bin .lss (.t 40) (.t 42) }])
 (.cond (.t 43) .skip
 (.ext 2)))
 (.seq (.blk 3 (.seq (.reg true [{ dst := some 46, op := .mv (.t 6) },
  { dst := some 47, op := .mv (.t 7) },
  { dst := some 48, op := .ia 7 (.t 46) (.t 47) },
  { dst := some 49, op := .ld (some 7) (.t 48), pre := [] },
  { dst := some 50, op := .fa 0 (.t 1) },
  { dst := some 51, op := .ld none (.t 50), pre := [] },
  { dst := some 52, op := .mv (.t 6) },
  { dst := some 53, op := .len (.t 52) },
  { dst := some 54, op := .bin .sub (.t 53) (.c (.i .i64 1)) },
  { dst := some 55, op := .mv (.t 7) },
  { dst := some 56, op := .bin .sub (.t 54) (.t 55) },
  { dst := some 57, op := .call .pure (.c (.fn 98 [] [])) [.t 49, .t 51, .t 56], pre := [] },
  { dst := some 58, op := .un .not (.t 57) }])
 (.cond (.t 58) (.seq (.reg false [{ dst := some 2, op := .mv (.c (.i .i64 3)) }])
 .ret)
 .skip)))
 (.reg false [{ dst := some 44, op := .mv (.t 7) },
  { dst := some 45, op := .bin .add (.t 44) (.c (.i .i64 1)) },
  { dst := some 7, op := .mv (.t 45) }]))))))
 (.seq (.reg false [{ dst := some 59, op := .mv (.t 3) },
  { dst := some 60, op := .mv (.t 6) },
  { dst := some 61, op := .call .pure (.c (.fn 99 [] [])) [.t 60] },
  { dst := some 62, op := .bin .add (.t 59) (.t 61) },
  { dst := some 3, op := .mv (.t 62) }])
 (.reg false [{ dst := some 63, op := .mv (.t 4) },
  { dst := some 64, op := .mv (.t 63) },
  { dst := some 65, op := .mv (.t 6), grd := some (64, false) },
  { dst := some 66, op := .len (.t 65), grd := some (64, false) },
  { dst := some 67, op := .bin .gtr (.t 66) (.c (.i .i64 12)), grd := some (64, false) },
  { dst := some 68, op := .pick (.t 64) (.c (.b true)) (.t 67) },
  { dst := some 69, op := .mv (.t 68) },
  { dst := some 70, op := .mv (.t 6), grd := some (69, false) },
  { dst := some 71, op := .call .pure (.c (.fn 100 [] [])) [.t 70], grd := some (69, false) },
  { dst := some 72, op := .bin .gtr (.t 71) (.c (.i .i64 64)), grd := some (69, false) },
  { dst := some 73, op := .pick (.t 69) (.c (.b true)) (.t 72) },
  { dst := some 4, op := .mv (.t 73) }])))))
 (.reg false [{ dst := some 33, op := .mv (.t 5) },
  { dst := some 34, op := .bin .add (.t 33) (.c (.i .i64 1)) },
  { dst := some 5, op := .mv (.t 34) }]))))))
 (.seq (.seq (.reg false [{ dst := some 74, op := .mv (.t 4) },
  { dst := some 75, op := .mv (.t 74) },
  { dst := some 76, op := .mv (.t 3), grd := some (75, false) },
  { dst := some 77, op := .bin .gtr (.t 76) (.c (.i .i64 40)), grd := some (75, false) },
  { dst := some 78, op := .pick (.t 75) (.c (.b true)) (.t 77) }])
 (.cond (.t 78) (.seq (.reg false [{ dst := some 2, op := .mv (.c (.i .i64 4)) }])
 .ret)
 .skip))
 (.seq (.reg false [{ dst := some 2, op := .mv (.c (.i .i64 0)) }])
 .ret)))))) }
def A_xref04_Instr : AFun := { res := [.t 6], body := (.seq (.reg false [{ dst := some 3, op := .box (.t 0) },
  { dst := some 6, op := .mv (.c (.b false)) }])
 (.seq (.reg false [{ dst := some 12, op := .fa 3 (.t 3) },
  { dst := some 13, op := .ld none (.t 12) },
  { dst := some 14, op := .bin .geq (.t 13) (.c (.i .i64 0)) },
  { dst := some 15, op := .mv (.t 14) },
  { dst := some 16, op := .fa 3 (.t 3), grd := some (15, true) },
  { dst := some 17, op := .ld none (.t 16), grd := some (15, true) },
  { dst := some 18, op := .bin .lss (.t 17) (.c (.i .i64 8)), grd := some (15, true) },
  { dst := some 19, op := .pick (.t 15) (.t 18) (.c (.b false)) },
  { dst := some 7, op := .mv (.t 19) }])
 (.seq (.reg false [{ dst := some 20, op := .fa 4 (.t 3) },
  { dst := some 21, op := .ld none (.t 20) },
  { dst := some 22, op := .bin .geq (.t 21) (.c (.i .i64 0)) },
  { dst := some 23, op := .mv (.t 22) },
  { dst := some 24, op := .fa 4 (.t 3), grd := some (23, true) },
  { dst := some 25, op := .ld none (.t 24), grd := some (23, true) },
  { dst := some 26, op := .mv (.t 1), grd := some (23, true) },
  { dst := some 27, op := .bin .lss (.t 25) (.t 26), grd := some (23, true) },
  { dst := some 28, op := .pick (.t 23) (.t 27) (.c (.b false)) },
  { dst := some 8, op := .mv (.t 28) }])
 (.seq (.reg false [{ dst := some 29, op := .fa 5 (.t 3) },
  { dst := some 30, op := .ld none (.t 29) },
  { dst := some 31, op := .call .pure (.c (.fn 109 [] [])) [.t 30] },
  { dst := some 9, op := .mv (.t 31) }])
 (.seq (.reg false [{ dst := some 32, op := .fa 0 (.t 3) },
  { dst := some 33, op := .ld none (.t 32) },
  { dst := some 34, op := .build (List.replicate 5 (.i .i64 0) ++ [.sl [] 0 .rig, .i .i64 0]) [(0, 1, .t 33)] },
  { dst := some 10, op := .new (List.replicate 5 (.i .i64 0) ++ [.sl [] 0 .rig, .i .i64 0]) },
  { dst := none, op := .st 7 (.t 10) (.t 34) }])
 (.seq (.reg false [{ dst := some 11, op := .mv (.c (.b false)) }])
 (.seq (.seq (.reg false [{ dst := some 35, op := .fa 0 (.t 3) },
  { dst := some 36, op := .ld none (.t 35) }])
 (.blk 0 (.seq (.reg false [{ dst := some 38, op := .bin .eql (.t 36) (.c (.i .i64 1)) },
  { dst := some 37, op := .mv (.t 38) }])
 (.cond (.t 37) (.seq (.reg false [{ dst := some 39, op := .mv (.t 7) },
  { dst := some 40, op := .mv (.t 39) },
  { dst := some 41, op := .mv (.t 8), grd := some (40, true) },
  { dst := some 42, op := .pick (.t 40) (.t 41) (.c (.b false)) },
  { dst := some 43, op := .mv (.t 42) },
  { dst := some 44, op := .fa 1 (.t 3), grd := some (43, true) },
  { dst := some 45, op := .ld none (.t 44), grd := some (43, true) },
  { dst := some 46, op := .bin .eql (.t 45) (.c (.i .i64 0)), grd := some (43, true) },
  { dst := some 47, op := .mv (.t 46), grd := some (43, true) },
  { dst := some 48, op := .fa 1 (.t 3), grd := some (47, false) },
  { dst := some 49, op := .ld none (.t 48), grd := some (47, false) },
  { dst := some 50, op := .bin .eql (.t 49) (.c (.i .i64 1)), grd := some (47, false) },
  { dst := some 51, op := .pick (.t 47) (.c (.b true)) (.t 50), grd := some (43, true) },
  { dst := some 52, op := .pick (.t 43) (.t 51) (.c (.b false)) },
  { dst := some 11, op := .mv (.t 52) }])
 (.reg true [{ dst := some 53, op := .fa 3 (.t 3) },
  { dst := some 54, op := .ldQ none (.t 53) 3, pre := [] },
  { dst := some 55, op := .fa 4 (.t 3) },
  { dst := some 56, op := .ldQ none (.t 55) 3, pre := [] },
  { dst := some 57, op := .fa 1 (.t 3) },
  { dst := some 58, op := .ldQ none (.t 57) 3, pre := [] },
  { dst := some 59, op := .fa 3 (.t 10) },
  { dst := none, op := .stN 1 (.t 59) (.t 54) [3], pre := [] },
  { dst := some 60, op := .fa 4 (.t 10) },
  { dst := none, op := .stN 1 (.t 60) (.t 56) [3], pre := [] },
  { dst := some 61, op := .fa 1 (.t 10) },
  { dst := none, op := .stN 1 (.t 61) (.t 58) [3], pre := [] }]))
 (.seq (.reg false [{ dst := some 63, op := .bin .eql (.t 36) (.c (.i .i64 2)) },
  { dst := some 62, op := .mv (.t 63) }])
 (.cond (.t 62) (.seq (.reg false [{ dst := some 64, op := .mv (.t 8) },
  { dst := some 65, op := .mv (.t 64) },
  { dst := some 66, op := .mv (.t 9), grd := some (65, true) },
  { dst := some 67, op := .pick (.t 65) (.t 66) (.c (.b false)) },
  { dst := some 68, op := .mv (.t 67) },
  { dst := some 69, op := .fa 1 (.t 3), grd := some (68, true) },
  { dst := some 70, op := .ld none (.t 69), grd := some (68, true) },
  { dst := some 71, op := .bin .eql (.t 70) (.c (.i .i64 0)), grd := some (68, true) },
  { dst := some 72, op := .mv (.t 71), grd := some (68, true) },
  { dst := some 73, op := .fa 1 (.t 3), grd := some (72, false) },
  { dst := some 74, op := .ld none (.t 73), grd := some (72, false) },
  { dst := some 75, op := .bin .eql (.t 74) (.c (.i .i64 2)), grd := some (72, false) },
  { dst := some 76, op := .pick (.t 72) (.c (.b true)) (.t 75), grd := some (68, true) },
  { dst := some 77, op := .pick (.t 68) (.t 76) (.c (.b false)) },
  { dst := some 11, op := .mv (.t 77) }])
 (.reg true [{ dst := some 78, op := .fa 4 (.t 3) },
  { dst := some 79, op := .ldQ none (.t 78) 3, pre := [] },
  { dst := some 80, op := .fa 1 (.t 3) },
  { dst := some 81, op := .ldQ none (.t 80) 3, pre := [] },
  { dst := some 82, op := .fa 5 (.t 3) },
  { dst := some 83, op := .ldQ none (.t 82) 3, pre := [] },
  { dst := some 84, op := .fa 4 (.t 10) },
  { dst := none, op := .stN 1 (.t 84) (.t 79) [3], pre := [] },
  { dst := some 85, op := .fa 1 (.t 10) },
  { dst := none, op := .stN 1 (.t 85) (.t 81) [3], pre := [] },
  { dst := some 86, op := .fa 5 (.t 10) },
  { dst := none, op := .stN 1 (.t 86) (.t 83) [3], pre := [] }]))
 (.seq (.reg false [{ dst := some 88, op := .bin .eql (.t 36) (.c (.i .i64 3)) },
  { dst := some 87, op := .mv (.t 88) }])
 (.cond (.t 87) (.seq (.reg false [{ dst := some 89, op := .fa 1 (.t 3) },
  { dst := some 90, op := .ld none (.t 89) },
  { dst := some 91, op := .bin .geq (.t 90) (.c (.i .i64 1)) },
  { dst := some 92, op := .mv (.t 91) },
  { dst := some 93, op := .fa 1 (.t 3), grd := some (92, true) },
  { dst := some 94, op := .ld none (.t 93), grd := some (92, true) },
  { dst := some 95, op := .bin .leq (.t 94) (.c (.i .i64 4)), grd := some (92, true) },
  { dst := some 96, op := .pick (.t 92) (.t 95) (.c (.b false)) },
  { dst := some 11, op := .mv (.t 96) }])
 (.reg false [{ dst := some 97, op := .fa 1 (.t 3) },
  { dst := some 98, op := .ld none (.t 97) },
  { dst := some 99, op := .fa 1 (.t 10) },
  { dst := none, op := .st 1 (.t 99) (.t 98) }]))
 (.seq (.reg false [{ dst := some 101, op := .bin .eql (.t 36) (.c (.i .i64 4)) },
  { dst := some 100, op := .mv (.t 101) }])
 (.cond (.t 100) (.seq (.reg false [{ dst := some 102, op := .mv (.t 7) },
  { dst := some 103, op := .mv (.t 102) },
  { dst := some 104, op := .mv (.t 8), grd := some (103, true) },
  { dst := some 105, op := .pick (.t 103) (.t 104) (.c (.b false)) },
  { dst := some 106, op := .mv (.t 105) },
  { dst := some 107, op := .mv (.t 9), grd := some (106, true) },
  { dst := some 108, op := .pick (.t 106) (.t 107) (.c (.b false)) },
  { dst := some 109, op := .mv (.t 108) },
  { dst := some 110, op := .fa 5 (.t 3), grd := some (109, true) },
  { dst := some 111, op := .ld none (.t 110), grd := some (109, true) },
  { dst := some 112, op := .len (.t 111), grd := some (109, true) },
  { dst := some 113, op := .bin .leq (.t 112) (.c (.i .i64 7)), grd := some (109, true) },
  { dst := some 114, op := .pick (.t 109) (.t 113) (.c (.b false)) },
  { dst := some 115, op := .mv (.t 114) },
  { dst := some 116, op := .fa 5 (.t 3), grd := some (115, true) },
  { dst := some 117, op := .ld none (.t 116), grd := some (115, true) },
  { dst := some 118, op := .fa 3 (.t 3), grd := some (115, true) },
  { dst := some 119, op := .ld none (.t 118), grd := some (115, true) },
  { dst := some 120, op := .call .pure (.c (.fn 110 [] [])) [.t 117, .t 119], grd := some (115, true) },
  { dst := some 121, op := .un .not (.t 120), grd := some (115, true) },
  { dst := some 122, op := .pick (.t 115) (.t 121) (.c (.b false)) },
  { dst := some 123, op := .mv (.t 122) },
  { dst := some 124, op := .fa 1 (.t 3), grd := some (123, true) },
  { dst := some 125, op := .ld none (.t 124), grd := some (123, true) },
  { dst := some 126, op := .bin .eql (.t 125) (.c (.i .i64 0)), grd := some (123, true) },
  { dst := some 127, op := .mv (.t 126), grd := some (123, true) },
  { dst := some 128, op := .fa 1 (.t 3), grd := some (127, false) },
  { dst := some 129, op := .ld none (.t 128), grd := some (127, false) },
  { dst := some 130, op := .bin .eql (.t 129) (.c (.i .i64 1)), grd := some (127, false) },
  { dst := some 131, op := .pick (.t 127) (.c (.b true)) (.t 130), grd := some (123, true) },
  { dst := some 132, op := .pick (.t 123) (.t 131) (.c (.b false)) },
  { dst := some 133, op := .mv (.t 132) },
  { dst := some 134, op := .fa 2 (.t 3), grd := some (133, true) },
  { dst := some 135, op := .ld none (.t 134), grd := some (133, true) },
  { dst := some 136, op := .bin .eql (.t 135) (.c (.i .i64 0)), grd := some (133, true) },
  { dst := some 137, op := .mv (.t 136), grd := some (133, true) },
  { dst := some 138, op := .fa 2 (.t 3), grd := some (137, false) },
  { dst := some 139, op := .ld none (.t 138), grd := some (137, false) },
  { dst := some 140, op := .bin .eql (.t 139) (.c (.i .i64 2)), grd := some (137, false) },
  { dst := some 141, op := .pick (.t 137) (.c (.b true)) (.t 140), grd := some (133, true) },
  { dst := some 142, op := .pick (.t 133) (.t 141) (.c (.b false)) },
  { dst := some 11, op := .mv (.t 142) }])
 (.reg true [{ dst := some 143, op := .fa 3 (.t 3) },
  { dst := some 144, op := .ldQ none (.t 143) 3, pre := [] },
  { dst := some 145, op := .fa 4 (.t 3) },
  { dst := some 146, op := .ldQ none (.t 145) 3, pre := [] },
  { dst := some 147, op := .fa 1 (.t 3) },
  { dst := some 148, op := .ldQ none (.t 147) 3, pre := [] },
  { dst := some 149, op := .fa 2 (.t 3) },
  { dst := some 150, op := .ldQ none (.t 149) 3, pre := [] },
  { dst := some 151, op := .fa 5 (.t 3) },
  { dst := some 152, op := .ldQ none (.t 151) 3, pre := [] },
  { dst := some 153, op := .fa 3 (.t 10) },
  { dst := none, op := .stN 1 (.t 153) (.t 144) [3], pre := [] },
  { dst := some 154, op := .fa 4 (.t 10) },
  { dst := none, op := .stN 1 (.t 154) (.t 146) [3], pre := [] },
  { dst := some 155, op := .fa 1 (.t 10) },
  { dst := none, op := .stN 1 (.t 155) (.t 148) [3], pre := [] },
  { dst := some 156, op := .fa 2 (.t 10) },
  { dst := none, op := .stN 1 (.t 156) (.t 150) [3], pre := [] },
  { dst := some 157, op := .fa 5 (.t 10) },
  { dst := none, op := .stN 1 (.t 157) (.t 152) [3], pre := [] }]))
 (.seq (.reg false [{ dst := some 159, op := .bin .eql (.t 36) (.c (.i .i64 5)) },
  { dst := some 158, op := .mv (.t 159) }])
 (.cond (.t 158) (.seq (.reg false [{ dst := some 160, op := .mv (.t 7) },
  { dst := some 161, op := .mv (.t 160) },
  { dst := some 162, op := .mv (.t 9), grd := some (161, true) },
  { dst := some 163, op := .pick (.t 161) (.t 162) (.c (.b false)) },
  { dst := some 11, op := .mv (.t 163) }])
 (.reg true [{ dst := some 164, op := .fa 3 (.t 3) },
  { dst := some 165, op := .ldQ none (.t 164) 3, pre := [] },
  { dst := some 166, op := .fa 5 (.t 3) },
  { dst := some 167, op := .ldQ none (.t 166) 3, pre := [] },
  { dst := some 168, op := .fa 3 (.t 10) },
  { dst := none, op := .stN 1 (.t 168) (.t 165) [3], pre := [] },
  { dst := some 169, op := .fa 5 (.t 10) },
  { dst := none, op := .stN 1 (.t 169) (.t 167) [3], pre := [] }]))
 (.seq (.reg false [{ dst := some 171, op := .bin .eql (.t 36) (.c (.i .i64 6)) },
  { dst := some 170, op := .mv (.t 171) }])
 (.cond (.t 170) (.seq (.reg false [{ dst := some 172, op := .mv (.t 9) },
  { dst := some 173, op := .mv (.t 172) },
  { dst := some 174, op := .fa 6 (.t 3), grd := some (173, true) },
  { dst := some 175, op := .ld none (.t 174), grd := some (173, true) },
  { dst := some 176, op := .bin .geq (.t 175) (.c (.i .i64 0)), grd := some (173, true) },
  { dst := some 177, op := .pick (.t 173) (.t 176) (.c (.b false)) },
  { dst := some 178, op := .mv (.t 177) },
  { dst := some 179, op := .fa 6 (.t 3), grd := some (178, true) },
  { dst := some 180, op := .ld none (.t 179), grd := some (178, true) },
  { dst := some 181, op := .mv (.t 2), grd := some (178, true) },
  { dst := some 182, op := .bin .leq (.t 180) (.t 181), grd := some (178, true) },
  { dst := some 183, op := .pick (.t 178) (.t 182) (.c (.b false)) },
  { dst := some 11, op := .mv (.t 183) }])
 (.reg true [{ dst := some 184, op := .fa 6 (.t 3) },
  { dst := some 185, op := .ldQ none (.t 184) 3, pre := [] },
  { dst := some 186, op := .fa 5 (.t 3) },
  { dst := some 187, op := .ldQ none (.t 186) 3, pre := [] },
  { dst := some 188, op := .fa 6 (.t 10) },
  { dst := none, op := .stN 1 (.t 188) (.t 185) [3], pre := [] },
  { dst := some 189, op := .fa 5 (.t 10) },
  { dst := none, op := .stN 1 (.t 189) (.t 187) [3], pre := [] }]))
 .skip))))))))))))))
 (.seq (.reg false [{ dst := some 190, op := .mv (.t 11) },
  { dst := some 191, op := .mv (.t 190) },
  { dst := some 192, op := .ld (some 7) (.t 3), grd := some (191, true) },
  { dst := some 193, op := .ld (some 7) (.t 10), grd := some (191, true) },
  { dst := some 194, op := .call .pure (.c (.fn 111 [] [])) [.t 192, .t 193], grd := some (191, true) },
  { dst := some 195, op := .pick (.t 191) (.t 194) (.c (.b false)) },
  { dst := some 6, op := .mv (.t 195) }])
 .ret)))))))) }
def A_xref04_Events : AFun := { res := [.t 2], body := (.seq (.reg false [{ dst := some 2, op := .mv (.c (.i .i64 0)) }])
 (.seq (.reg false [{ dst := some 3, op := .mv (.c (.i .i64 0)) }])
 (.seq (.seq (.reg false [{ dst := some 4, op := .mv (.c (.i .i64 0)) }])
 (.blk 0 (.loop (.seq (.seq (.reg false [{ dst := some 5, op := .mv (.t 4) },
  { dst := some 6, op := .mv (.t 0) },
  { dst := some 7, op := .len (.t 6) },
  { dst := some 8, op := .bin .lss (.t 5) (.t 7) }])
 (.cond (.t 8) .skip
 (.ext 0)))
 (.seq (.blk 1 (.seq (.reg false [{ dst := some 11, op := .mv (.t 0) },
  { dst := some 12, op := .mv (.t 4) },
  { dst := some 13, op := .ia 7 (.t 11) (.t 12) },
  { dst := some 14, op := .fa 0 (.t 13) },
  { dst := some 15, op := .ld none (.t 14) }])
 (.blk 2 (.seq (.seq (.reg false [{ dst := some 17, op := .bin .eql (.t 15) (.c (.i .i64 1)) },
  { dst := some 16, op := .mv (.t 17) }])
 (.cond (.t 16) .skip
 (.seq (.reg false [{ dst := some 18, op := .bin .eql (.t 15) (.c (.i .i64 2)) },
  { dst := some 16, op := .mv (.t 18) }])
 (.cond (.t 16) .skip
 (.reg false [{ dst := some 19, op := .bin .eql (.t 15) (.c (.i .i64 3)) },
  { dst := some 16, op := .mv (.t 19) }])))))
 (.cond (.t 16) (.reg false [{ dst := some 20, op := .mv (.t 3) },
  { dst := some 21, op := .bin .add (.t 20) (.c (.i .i64 1)) },
  { dst := some 3, op := .mv (.t 21) }])
 (.seq (.reg false [{ dst := some 23, op := .bin .eql (.t 15) (.c (.i .i64 4)) },
  { dst := some 22, op := .mv (.t 23) }])
 (.cond (.t 22) (.reg false [{ dst := some 24, op := .mv (.t 3) },
  { dst := some 25, op := .bin .add (.t 24) (.c (.i .i64 2)) },
  { dst := some 3, op := .mv (.t 25) }])
 .skip)))))))
 (.reg false [{ dst := some 9, op := .mv (.t 4) },
  { dst := some 10, op := .bin .add (.t 9) (.c (.i .i64 1)) },
  { dst := some 4, op := .mv (.t 10) }]))))))
 (.seq (.reg false [{ dst := some 26, op := .mv (.t 3) },
  { dst := some 2, op := .mv (.t 26) }])
 .ret)))) }
def A_xref04_Paths : AFun := { res := [.t 2], body := (.seq (.reg false [{ dst := some 2, op := .mv (.c (.i .i64 0)) }])
 (.seq (.reg false [{ dst := some 3, op := .mv (.c (.i .i64 1)) }])
 (.seq (.seq (.reg false [{ dst := some 4, op := .mv (.c (.i .i64 0)) }])
 (.blk 0 (.loop (.seq (.seq (.reg false [{ dst := some 5, op := .mv (.t 4) },
  { dst := some 6, op := .mv (.t 0) },
  { dst := some 7, op := .len (.t 6) },
  { dst := some 8, op := .bin .lss (.t 5) (.t 7) }])
 (.cond (.t 8) .skip
 (.ext 0)))
 (.seq (.blk 1 (.seq (.reg false [{ dst := some 11, op := .mv (.t 0) },
  { dst := some 12, op := .mv (.t 4) },
  { dst := some 13, op := .ia 7 (.t 11) (.t 12) },
  { dst := some 14, op := .fa 0 (.t 13) },
  { dst := some 15, op := .ld none (.t 14) },
  { dst := some 16, op := .bin .eql (.t 15) (.c (.i .i64 6)) }])
 (.cond (.t 16) (.reg false [{ dst := some 17, op := .mv (.t 3) },
  { dst := some 18, op := .bin .mul (.c (.i .i64 2)) (.t 17) },
  { dst := some 19, op := .mn (.t 18) (.c (.i .i64 1000000)) },
  { dst := some 3, op := .mv (.t 19) }])
 .skip)))
 (.reg false [{ dst := some 9, op := .mv (.t 4) },
  { dst := some 10, op := .bin .add (.t 9) (.c (.i .i64 1)) },
  { dst := some 4, op := .mv (.t 10) }]))))))
 (.seq (.reg false [{ dst := some 20, op := .mv (.t 3) },
  { dst := some 2, op := .mv (.t 20) }])
 .ret)))) }
def A_xref04_Uses : AFun := { res := [.t 4], body := (.seq (.reg false [{ dst := some 4, op := .mv (.c (.b false)) }])
 (.seq (.reg false [{ dst := some 7, op := .mv (.t 0) },
  { dst := some 8, op := .call .pure (.c (.fn 126 [] [])) [.t 7] },
  { dst := some 5, op := .mv (.t 8) }])
 (.seq (.seq (.reg false [{ dst := some 6, op := .mv (.c (.i .i64 0)) }])
 (.blk 0 (.loop (.seq (.seq (.reg false [{ dst := some 9, op := .mv (.t 6) },
  { dst := some 10, op := .mv (.t 5) },
  { dst := some 11, op := .len (.t 10) },
  { dst := some 12, op := .bin .lss (.t 9) (.t 11) }])
 (.cond (.t 12) .skip
 (.ext 0)))
 (.seq (.blk 1 (.seq (.reg false [{ dst := some 15, op := .mv (.t 5) },
  { dst := some 16, op := .mv (.t 6) },
  { dst := some 17, op := .ia 1 (.t 15) (.t 16) },
  { dst := some 18, op := .ld none (.t 17) },
  { dst := some 19, op := .mv (.t 1) },
  { dst := some 20, op := .bin .eql (.t 18) (.t 19) }])
 (.cond (.t 20) (.seq (.reg false [{ dst := some 4, op := .mv (.c (.b true)) }])
 .ret)
 .skip)))
 (.reg false [{ dst := some 13, op := .mv (.t 6) },
  { dst := some 14, op := .bin .add (.t 13) (.c (.i .i64 1)) },
  { dst := some 6, op := .mv (.t 14) }]))))))
 (.seq (.reg false [{ dst := some 4, op := .mv (.c (.b false)) }])
 .ret)))) }
end Go.Ab
end
section
namespace Go.Ab
def A_xref05_Do : AFun := { res := [.cell 4 (some 7), .t 5], body := (.seq (.reg false [{ dst := some 4, op := .new (List.replicate 5 (.sl [] 0 .rig) ++ [.i .i64 0, .sl [] 0 .rig]) },
  { dst := some 5, op := .mv (.c (.b false)) }])
 (.seq (.reg false [{ dst := some 9, op := .mv (.t 1) },
  { dst := some 10, op := .call .raw (.c (.fn 112 [] [])) [.t 9] },
  { dst := some 6, op := .mv (.t 10) }])
 (.seq (.seq (.reg false [{ dst := some 7, op := .mv (.c (.i .i64 0)) }])
 (.blk 0 (.loop (.seq (.seq (.reg false [{ dst := some 11, op := .mv (.t 7) },
  { dst := some 12, op := .mv (.t 0) },
  { dst := some 13, op := .len (.t 12) },
  { dst := some 14, op := .bin .lss (.t 11) (.t 13) },
  { dst := some 15, op := .mv (.t 14) },
  { dst := some 16, op := .mv (.t 6), grd := some (15, true) },
  { dst := some 17, op := .nilck (.t 16), grd := some (15, true) },
  { dst := some 18, op := .fa 18 (.t 17), grd := some (15, true) },
  { dst := some 19, op := .ld none (.t 18), grd := some (15, true) },
  { dst := some 20, op := .un .not (.t 19), grd := some (15, true) },
  { dst := some 21, op := .pick (.t 15) (.t 20) (.c (.b false)) }])
 (.cond (.t 21) .skip
 (.ext 0)))
 (.seq (.blk 1 (.seq (.reg false [{ dst := some 24, op := .mv (.t 0) },
  { dst := some 25, op := .mv (.t 7) },
  { dst := some 26, op := .ia 7 (.t 24) (.t 25) },
  { dst := some 27, op := .ld (some 7) (.t 26) },
  { dst := some 8, op := .new (List.replicate 5 (.i .i64 0) ++ [.sl [] 0 .rig, .i .i64 0]) },
  { dst := none, op := .st 7 (.t 8) (.t 27) }])
 (.seq (.reg false [{ dst := some 28, op := .fa 0 (.t 8) },
  { dst := some 29, op := .ld none (.t 28) }])
 (.blk 2 (.seq (.reg false [{ dst := some 31, op := .bin .eql (.t 29) (.c (.i .i64 1)) },
  { dst := some 30, op := .mv (.t 31) }])
 (.cond (.t 30) (.reg false [{ dst := some 32, op := .mv (.t 6) },
  { dst := some 33, op := .fa 4 (.t 8) },
  { dst := some 34, op := .ld none (.t 33) },
  { dst := some 35, op := .fa 1 (.t 8) },
  { dst := some 36, op := .ld none (.t 35) },
  { dst := some 37, op := .fa 3 (.t 8) },
  { dst := some 38, op := .ld none (.t 37) },
  { dst := some 39, op := .call .raw (.c (.fn 113 [] [])) [.t 32, .t 34, .t 36, .c (.b false), .t 38] }])
 (.seq (.reg false [{ dst := some 41, op := .bin .eql (.t 29) (.c (.i .i64 2)) },
  { dst := some 40, op := .mv (.t 41) }])
 (.cond (.t 40) (.reg true [{ dst := some 42, op := .mv (.t 6) },
  { dst := some 43, op := .fa 4 (.t 8) },
  { dst := some 44, op := .ld none (.t 43), pre := [] },
  { dst := some 45, op := .fa 1 (.t 8) },
  { dst := some 46, op := .ld none (.t 45), pre := [] },
  { dst := some 47, op := .fa 5 (.t 8) },
  { dst := some 48, op := .ld none (.t 47), pre := [] },
  { dst := some 49, op := .mv (.t 6) },
  { dst := some 50, op := .nilck (.t 49) },
  { dst := some 51, op := .fa 0 (.t 50) },
  { dst := some 52, op := .fa 6 (.t 51) },
  { dst := some 53, op := .ld none (.t 52), pre := [] },
  { dst := some 54, op := .call .pure (.c (.fn 115 [] [])) [.t 48, .t 53], pre := [] },
  { dst := some 55, op := .mv (.t 6) },
  { dst := some 56, op := .fa 5 (.t 8) },
  { dst := some 57, op := .ld none (.t 56), pre := [] },
  { dst := some 58, op := .call .see (.c (.fn 116 [] [])) [.t 55, .t 57], pre := [] },
  { dst := some 59, op := .call .raw (.c (.fn 114 [] [])) [.t 42, .t 44, .t 46, .c (.b false), .t 54, .t 58], pre := [] }])
 (.seq (.reg false [{ dst := some 61, op := .bin .eql (.t 29) (.c (.i .i64 3)) },
  { dst := some 60, op := .mv (.t 61) }])
 (.cond (.t 60) (.reg false [{ dst := some 62, op := .mv (.t 6) },
  { dst := some 63, op := .fa 1 (.t 8) },
  { dst := some 64, op := .ld none (.t 63) },
  { dst := some 65, op := .build (List.replicate 5 (.i .i64 0) ++ [.b false]) [(1, 1, .c (.i .i64 3)), (2, 1, .t 64)] },
  { dst := some 66, op := .call .raw (.c (.fn 117 [] [])) [.t 62, .t 65, .c (.sl [] 0 .rig)] }])
 (.seq (.reg false [{ dst := some 68, op := .bin .eql (.t 29) (.c (.i .i64 4)) },
  { dst := some 67, op := .mv (.t 68) }])
 (.cond (.t 67) (.reg false [{ dst := some 69, op := .mv (.t 6) },
  { dst := some 70, op := .ld (some 7) (.t 8) },
  { dst := some 71, op := .call .raw (.c (.fn 118 [] [])) [.t 69, .t 70] }])
 (.seq (.reg false [{ dst := some 73, op := .bin .eql (.t 29) (.c (.i .i64 5)) },
  { dst := some 72, op := .mv (.t 73) }])
 (.cond (.t 72) (.reg false [{ dst := some 74, op := .mv (.t 6) },
  { dst := some 75, op := .fa 3 (.t 8) },
  { dst := some 76, op := .ld none (.t 75) },
  { dst := some 77, op := .fa 5 (.t 8) },
  { dst := some 78, op := .ld none (.t 77) },
  { dst := some 79, op := .call .raw (.c (.fn 119 [] [])) [.t 74, .t 76, .t 78] }])
 (.seq (.reg false [{ dst := some 81, op := .bin .eql (.t 29) (.c (.i .i64 6)) },
  { dst := some 80, op := .mv (.t 81) }])
 (.cond (.t 80) (.reg false [{ dst := some 82, op := .mv (.t 7) },
  { dst := some 83, op := .mv (.t 6) },
  { dst := some 84, op := .fa 6 (.t 8) },
  { dst := some 85, op := .ld none (.t 84) },
  { dst := some 86, op := .fa 5 (.t 8) },
  { dst := some 87, op := .ld none (.t 86) },
  { dst := some 88, op := .call .raw (.c (.fn 120 [] [])) [.t 83, .t 85, .t 87] },
  { dst := some 89, op := .bin .add (.t 82) (.t 88) },
  { dst := some 7, op := .mv (.t 89) }])
 .skip))))))))))))))))
 (.reg false [{ dst := some 22, op := .mv (.t 7) },
  { dst := some 23, op := .bin .add (.t 22) (.c (.i .i64 1)) },
  { dst := some 7, op := .mv (.t 23) }]))))))
 (.seq (.seq (.reg false [{ dst := some 90, op := .mv (.t 6) },
  { dst := some 91, op := .nilck (.t 90) },
  { dst := some 92, op := .fa 18 (.t 91) },
  { dst := some 93, op := .ld none (.t 92) }])
 (.cond (.t 93) (.seq (.reg false [{ dst := some 94, op := .build (List.replicate 5 (.sl [] 0 .rig) ++ [.i .i64 0, .sl [] 0 .rig]) [] },
  { dst := none, op := .st 7 (.t 4) (.t 94) },
  { dst := some 5, op := .mv (.c (.b false)) }])
 .ret)
 .skip))
 (.seq (.reg false [{ dst := some 95, op := .mv (.t 6) },
  { dst := some 96, op := .nilck (.t 95) },
  { dst := some 97, op := .fa 0 (.t 96) },
  { dst := some 98, op := .ld (some 7) (.t 97) },
  { dst := none, op := .st 7 (.t 4) (.t 98) },
  { dst := some 5, op := .mv (.c (.b true)) }])
 .ret))))) }
def A_xref05_Start : AFun := { res := [.t 2], body := (.seq (.reg false [{ dst := some 2, op := .mv (.c (.nilp)) }])
 (.seq (.reg false [{ dst := some 4, op := .mv (.t 0) },
  { dst := some 5, op := .build (List.replicate 5 (.sl [] 0 .rig) ++ [.i .i64 0] ++ List.replicate 12 (.sl [] 0 .rig) ++ [.b false]) [(7, 1, .t 4)] },
  { dst := some 6, op := .box (.t 5) },
  { dst := some 3, op := .mv (.t 6) }])
 (.seq (.reg false [{ dst := some 7, op := .mv (.t 3) },
  { dst := some 8, op := .mksl ([.i .i64 0]) 1 8 (.c (.i .i64 8)) (.c (.i .i64 8)) },
  { dst := some 9, op := .nilck (.t 7) },
  { dst := some 10, op := .fa 0 (.t 9) },
  { dst := some 11, op := .fa 6 (.t 10) },
  { dst := none, op := .st 1 (.t 11) (.t 8) }])
 (.seq (.reg false [{ dst := some 12, op := .mv (.t 3) },
  { dst := some 2, op := .mv (.t 12) }])
 .ret)))) }
def A_xref05_S_Read : AFun := { res := [.t 10], body := (.seq (.reg false [{ dst := some 10, op := .mv (.c (.b false)) }])
 (.seq (.seq (.reg true [{ dst := some 13, op := .mv (.t 0) },
  { dst := some 14, op := .nilck (.t 13) },
  { dst := some 15, op := .fa 0 (.t 14) },
  { dst := some 16, op := .fa 5 (.t 15) },
  { dst := some 17, op := .ld none (.t 16), pre := [] },
  { dst := some 18, op := .mv (.t 0) },
  { dst := some 19, op := .nilck (.t 18) },
  { dst := some 20, op := .fa 7 (.t 19) },
  { dst := some 21, op := .ld none (.t 20), pre := [] },
  { dst := some 22, op := .len (.t 21) },
  { dst := some 23, op := .bin .geq (.t 17) (.t 22) }])
 (.cond (.t 23) (.seq (.reg false [{ dst := some 24, op := .mv (.t 0) },
  { dst := some 25, op := .nilck (.t 24) },
  { dst := some 26, op := .fa 18 (.t 25) },
  { dst := none, op := .st 1 (.t 26) (.c (.b true)) }])
 (.seq (.reg false [{ dst := some 10, op := .mv (.c (.b false)) }])
 .ret))
 .skip))
 (.seq (.reg true [{ dst := some 27, op := .mv (.t 0) },
  { dst := some 28, op := .nilck (.t 27) },
  { dst := some 29, op := .fa 7 (.t 28) },
  { dst := some 30, op := .ld none (.t 29), pre := [] },
  { dst := some 31, op := .mv (.t 0) },
  { dst := some 32, op := .nilck (.t 31) },
  { dst := some 33, op := .fa 0 (.t 32) },
  { dst := some 34, op := .fa 5 (.t 33) },
  { dst := some 35, op := .ld none (.t 34), pre := [] },
  { dst := some 36, op := .ia 1 (.t 30) (.t 35) },
  { dst := some 37, op := .ld none (.t 36), pre := [] },
  { dst := some 11, op := .mv (.t 37) }])
 (.seq (.reg false [{ dst := some 38, op := .mv (.t 0) },
  { dst := some 39, op := .nilck (.t 38) },
  { dst := some 40, op := .fa 0 (.t 39) },
  { dst := some 41, op := .fa 5 (.t 40) },
  { dst := some 42, op := .ld none (.t 41) },
  { dst := some 43, op := .bin .add (.t 42) (.c (.i .i64 1)) },
  { dst := some 44, op := .nilck (.t 38) },
  { dst := some 45, op := .fa 0 (.t 44) },
  { dst := some 46, op := .fa 5 (.t 45) },
  { dst := none, op := .st 1 (.t 46) (.t 43) }])
 (.seq (.reg false [{ dst := some 47, op := .mv (.t 0) },
  { dst := some 48, op := .mv (.t 2) },
  { dst := some 49, op := .mv (.t 1) },
  { dst := some 50, op := .mv (.t 11) },
  { dst := some 51, op := .mv (.t 3) },
  { dst := some 52, op := .build (List.replicate 5 (.i .i64 0) ++ [.b false]) [(1, 1, .c (.i .i64 1)), (2, 1, .t 48), (3, 1, .t 49), (4, 1, .t 50), (5, 1, .t 51)] },
  { dst := some 53, op := .call .raw (.c (.fn 117 [] [])) [.t 47, .t 52, .c (.sl [] 0 .rig)] },
  { dst := some 12, op := .mv (.t 53) }])
 (.seq (.reg true [{ dst := some 54, op := .mv (.t 0) },
  { dst := some 55, op := .nilck (.t 54) },
  { dst := some 56, op := .fa 0 (.t 55) },
  { dst := some 57, op := .fa 6 (.t 56) },
  { dst := some 58, op := .ld none (.t 57), pre := [] },
  { dst := some 59, op := .mv (.t 4) },
  { dst := some 60, op := .mv (.t 0) },
  { dst := some 61, op := .mv (.t 4) },
  { dst := some 62, op := .mv (.t 11) },
  { dst := some 63, op := .mv (.t 12) },
  { dst := some 64, op := .bsl true 1 ([.i .i64 0]) [(0, 1, .t 63)], pre := [] },
  { dst := some 65, op := .ia 1 (.t 58) (.t 59) },
  { dst := none, op := .st 1 (.t 65) (.t 62), pre := [] },
  { dst := some 66, op := .nilck (.t 60) },
  { dst := some 67, op := .fa 8 (.t 66) },
  { dst := some 68, op := .iaa 8 1 (.t 67) (.t 61) },
  { dst := none, op := .st 1 (.t 68) (.t 64), pre := [] }])
 (.seq (.reg false [{ dst := some 10, op := .mv (.c (.b true)) }])
 .ret))))))) }
def A_xref05_S_Write : AFun := { res := [], body := (.seq (.reg false [{ dst := some 13, op := .mv (.t 0) },
  { dst := some 14, op := .mv (.t 2) },
  { dst := some 15, op := .mv (.t 1) },
  { dst := some 16, op := .mv (.t 4) },
  { dst := some 17, op := .mv (.t 3) },
  { dst := some 18, op := .build (List.replicate 5 (.i .i64 0) ++ [.b false]) [(1, 1, .c (.i .i64 2)), (2, 1, .t 14), (3, 1, .t 15), (4, 1, .t 16), (5, 1, .t 17)] },
  { dst := some 19, op := .mv (.t 5) },
  { dst := some 20, op := .call .raw (.c (.fn 117 [] [])) [.t 13, .t 18, .t 19] },
  { dst := some 12, op := .mv (.t 20) }])
 (.seq (.reg false [{ dst := some 21, op := .mv (.t 3) }])
 (.cond (.t 21) (.reg false [{ dst := some 22, op := .mv (.t 0) },
  { dst := some 23, op := .mv (.t 0) },
  { dst := some 24, op := .nilck (.t 23) },
  { dst := some 25, op := .fa 0 (.t 24) },
  { dst := some 26, op := .fa 1 (.t 25) },
  { dst := some 27, op := .ld none (.t 26) },
  { dst := some 28, op := .mv (.t 12) },
  { dst := some 29, op := .bin .sub (.t 28) (.c (.i .i64 1)) },
  { dst := some 30, op := .mv (.t 12) },
  { dst := some 31, op := .build ([.i .i64 0, .i .i64 0]) [(0, 1, .t 29), (1, 1, .t 30)] },
  { dst := some 32, op := .bsl true 1 ([.i .i64 0, .i .i64 0]) [(0, 2, .t 31)] },
  { dst := some 33, op := .app 2 16 (.t 27) (.t 32) },
  { dst := some 34, op := .nilck (.t 22) },
  { dst := some 35, op := .fa 0 (.t 34) },
  { dst := some 36, op := .fa 1 (.t 35) },
  { dst := none, op := .st 1 (.t 36) (.t 33) }])
 .skip))) }
def A_xref05_S_Of : AFun := { res := [.t 4], body := (.seq (.reg false [{ dst := some 4, op := .mv (.c (.sl [] 0 .rig)) }])
 (.seq (.reg false [{ dst := some 5, op := .mv (.c (.sl [] 0 .rig)) }])
 (.seq (.reg false [{ dst := some 8, op := .mv (.t 1) },
  { dst := some 9, op := .call .pure (.c (.fn 126 [] [])) [.t 8] },
  { dst := some 6, op := .mv (.t 9) }])
 (.seq (.seq (.reg false [{ dst := some 7, op := .mv (.c (.i .i64 0)) }])
 (.blk 0 (.loop (.seq (.seq (.reg false [{ dst := some 10, op := .mv (.t 7) },
  { dst := some 11, op := .mv (.t 6) },
  { dst := some 12, op := .len (.t 11) },
  { dst := some 13, op := .bin .lss (.t 10) (.t 12) }])
 (.cond (.t 13) .skip
 (.ext 0)))
 (.seq (.blk 1 (.reg true [{ dst := some 16, op := .mv (.t 5) },
  { dst := some 17, op := .mv (.t 0) },
  { dst := some 18, op := .mv (.t 6) },
  { dst := some 19, op := .mv (.t 7) },
  { dst := some 20, op := .ia 1 (.t 18) (.t 19) },
  { dst := some 21, op := .ld none (.t 20), pre := [] },
  { dst := some 22, op := .nilck (.t 17) },
  { dst := some 23, op := .fa 8 (.t 22) },
  { dst := some 24, op := .iaa 8 1 (.t 23) (.t 21) },
  { dst := some 25, op := .ld none (.t 24), pre := [] },
  { dst := some 26, op := .call .pure (.c (.fn 129 [] [])) [.t 16, .t 25], pre := [] },
  { dst := some 5, op := .mv (.t 26) }]))
 (.reg false [{ dst := some 14, op := .mv (.t 7) },
  { dst := some 15, op := .bin .add (.t 14) (.c (.i .i64 1)) },
  { dst := some 7, op := .mv (.t 15) }]))))))
 (.seq (.reg false [{ dst := some 27, op := .mv (.t 5) },
  { dst := some 4, op := .mv (.t 27) }])
 .ret))))) }
def A_xref05_S_Event : AFun := { res := [.t 6], body := (.seq (.reg false [{ dst := some 4, op := .box (.t 1) },
  { dst := some 6, op := .mv (.c (.i .i64 0)) }])
 (.seq (.reg false [{ dst := some 8, op := .mv (.t 0) },
  { dst := some 9, op := .nilck (.t 8) },
  { dst := some 10, op := .fa 0 (.t 9) },
  { dst := some 11, op := .fa 0 (.t 10) },
  { dst := some 12, op := .ld none (.t 11) },
  { dst := some 13, op := .len (.t 12) },
  { dst := some 7, op := .mv (.t 13) }])
 (.seq (.reg true [{ dst := some 14, op := .mv (.t 0) },
  { dst := some 15, op := .mv (.t 0) },
  { dst := some 16, op := .nilck (.t 15) },
  { dst := some 17, op := .fa 0 (.t 16) },
  { dst := some 18, op := .fa 0 (.t 17) },
  { dst := some 19, op := .ld none (.t 18), pre := [] },
  { dst := some 20, op := .ld (some 6) (.t 4), pre := [] },
  { dst := some 21, op := .bsl true 1 (List.replicate 5 (.i .i64 0) ++ [.b false]) [(0, 6, .t 20)], pre := [] },
  { dst := some 22, op := .app 6 48 (.t 19) (.t 21), pre := [] },
  { dst := some 23, op := .nilck (.t 14) },
  { dst := some 24, op := .fa 0 (.t 23) },
  { dst := some 25, op := .fa 0 (.t 24) },
  { dst := none, op := .st 1 (.t 25) (.t 22), pre := [8] }])
 (.seq (.reg false [{ dst := some 26, op := .mv (.t 0) },
  { dst := some 27, op := .mv (.t 0) },
  { dst := some 28, op := .nilck (.t 27) },
  { dst := some 29, op := .fa 0 (.t 28) },
  { dst := some 30, op := .fa 2 (.t 29) },
  { dst := some 31, op := .ld none (.t 30) },
  { dst := some 32, op := .mv (.t 2) },
  { dst := some 33, op := .mv (.t 7) },
  { dst := some 34, op := .call .pure (.c (.fn 130 [] [])) [.t 31, .t 32, .t 33] },
  { dst := some 35, op := .nilck (.t 26) },
  { dst := some 36, op := .fa 0 (.t 35) },
  { dst := some 37, op := .fa 2 (.t 36) },
  { dst := none, op := .st 1 (.t 37) (.t 34) }])
 (.seq (.reg true [{ dst := some 38, op := .mv (.t 0) },
  { dst := some 39, op := .mv (.t 0) },
  { dst := some 40, op := .nilck (.t 39) },
  { dst := some 41, op := .fa 0 (.t 40) },
  { dst := some 42, op := .fa 3 (.t 41) },
  { dst := some 43, op := .ld none (.t 42), pre := [] },
  { dst := some 44, op := .mv (.t 0) },
  { dst := some 45, op := .nilck (.t 44) },
  { dst := some 46, op := .fa 16 (.t 45) },
  { dst := some 47, op := .ld none (.t 46), pre := [] },
  { dst := some 48, op := .mv (.t 7) },
  { dst := some 49, op := .call .pure (.c (.fn 130 [] [])) [.t 43, .t 47, .t 48], pre := [] },
  { dst := some 50, op := .nilck (.t 38) },
  { dst := some 51, op := .fa 0 (.t 50) },
  { dst := some 52, op := .fa 3 (.t 51) },
  { dst := none, op := .st 1 (.t 52) (.t 49), pre := [] }])
 (.seq (.reg true [{ dst := some 53, op := .mv (.t 0) },
  { dst := some 54, op := .mv (.t 0) },
  { dst := some 55, op := .nilck (.t 54) },
  { dst := some 56, op := .fa 0 (.t 55) },
  { dst := some 57, op := .fa 4 (.t 56) },
  { dst := some 58, op := .ld none (.t 57), pre := [] },
  { dst := some 59, op := .mv (.t 0) },
  { dst := some 60, op := .nilck (.t 59) },
  { dst := some 61, op := .fa 17 (.t 60) },
  { dst := some 62, op := .ld none (.t 61), pre := [] },
  { dst := some 63, op := .mv (.t 7) },
  { dst := some 64, op := .call .pure (.c (.fn 130 [] [])) [.t 58, .t 62, .t 63], pre := [] },
  { dst := some 65, op := .nilck (.t 53) },
  { dst := some 66, op := .fa 0 (.t 65) },
  { dst := some 67, op := .fa 4 (.t 66) },
  { dst := none, op := .st 1 (.t 67) (.t 64), pre := [] }])
 (.seq (.reg false [{ dst := some 68, op := .mv (.t 7) },
  { dst := some 6, op := .mv (.t 68) }])
 .ret))))))) }
def A_xref05_S_faa : AFun := { res := [], body := (.seq (.reg false [{ dst := some 3, op := .box (.t 1) }])
 (.seq (.reg false [{ dst := some 6, op := .mv (.t 0) },
  { dst := some 7, op := .fa 5 (.t 3) },
  { dst := some 8, op := .ld none (.t 7) },
  { dst := some 9, op := .call .see (.c (.fn 116 [] [])) [.t 6, .t 8] },
  { dst := some 4, op := .mv (.t 9) }])
 (.seq (.reg true [{ dst := some 10, op := .fa 5 (.t 3) },
  { dst := some 11, op := .ld none (.t 10), pre := [] },
  { dst := some 12, op := .mv (.t 0) },
  { dst := some 13, op := .nilck (.t 12) },
  { dst := some 14, op := .fa 0 (.t 13) },
  { dst := some 15, op := .fa 6 (.t 14) },
  { dst := some 16, op := .ld none (.t 15), pre := [] },
  { dst := some 17, op := .call .pure (.c (.fn 115 [] [])) [.t 11, .t 16], pre := [] },
  { dst := some 5, op := .mv (.t 17) }])
 (.seq (.reg false [{ dst := some 18, op := .mv (.t 0) },
  { dst := some 19, op := .fa 4 (.t 3) },
  { dst := some 20, op := .ld none (.t 19) },
  { dst := some 21, op := .fa 1 (.t 3) },
  { dst := some 22, op := .ld none (.t 21) },
  { dst := some 23, op := .fa 3 (.t 3) },
  { dst := some 24, op := .ld none (.t 23) },
  { dst := some 25, op := .call .raw (.c (.fn 113 [] [])) [.t 18, .t 20, .t 22, .c (.b true), .t 24] }])
 (.cond (.t 25) (.reg true [{ dst := some 26, op := .mv (.t 0) },
  { dst := some 27, op := .fa 4 (.t 3) },
  { dst := some 28, op := .ld none (.t 27), pre := [] },
  { dst := some 29, op := .fa 2 (.t 3) },
  { dst := some 30, op := .ld none (.t 29), pre := [] },
  { dst := some 31, op := .mv (.t 0) },
  { dst := some 32, op := .nilck (.t 31) },
  { dst := some 33, op := .fa 0 (.t 32) },
  { dst := some 34, op := .fa 6 (.t 33) },
  { dst := some 35, op := .ld none (.t 34), pre := [] },
  { dst := some 36, op := .fa 3 (.t 3) },
  { dst := some 37, op := .ld none (.t 36), pre := [] },
  { dst := some 38, op := .ia 1 (.t 35) (.t 37) },
  { dst := some 39, op := .ld none (.t 38), pre := [] },
  { dst := some 40, op := .mv (.t 5) },
  { dst := some 41, op := .bin .add (.t 39) (.t 40) },
  { dst := some 42, op := .mv (.t 4) },
  { dst := some 43, op := .mv (.t 0) },
  { dst := some 44, op := .fa 3 (.t 3) },
  { dst := some 45, op := .ld none (.t 44), pre := [] },
  { dst := some 46, op := .nilck (.t 43) },
  { dst := some 47, op := .fa 8 (.t 46) },
  { dst := some 48, op := .iaa 8 1 (.t 47) (.t 45) },
  { dst := some 49, op := .ld none (.t 48), pre := [] },
  { dst := some 50, op := .call .pure (.c (.fn 129 [] [])) [.t 42, .t 49], pre := [] },
  { dst := some 51, op := .call .raw (.c (.fn 114 [] [])) [.t 26, .t 28, .t 30, .c (.b true), .t 41, .t 50], pre := [] }])
 .skip))))) }
def A_xref05_S_Move : AFun := { res := [], body := (.seq (.reg false [{ dst := some 7, op := .mv (.t 0) },
  { dst := some 8, op := .mv (.t 2) },
  { dst := some 9, op := .call .see (.c (.fn 116 [] [])) [.t 7, .t 8] },
  { dst := some 6, op := .mv (.t 9) }])
 (.seq (.reg true [{ dst := some 10, op := .mv (.t 0) },
  { dst := some 11, op := .nilck (.t 10) },
  { dst := some 12, op := .fa 0 (.t 11) },
  { dst := some 13, op := .fa 6 (.t 12) },
  { dst := some 14, op := .ld none (.t 13), pre := [] },
  { dst := some 15, op := .mv (.t 1) },
  { dst := some 16, op := .mv (.t 2) },
  { dst := some 17, op := .mv (.t 0) },
  { dst := some 18, op := .nilck (.t 17) },
  { dst := some 19, op := .fa 0 (.t 18) },
  { dst := some 20, op := .fa 6 (.t 19) },
  { dst := some 21, op := .ld none (.t 20), pre := [] },
  { dst := some 22, op := .call .pure (.c (.fn 115 [] [])) [.t 16, .t 21], pre := [] },
  { dst := some 23, op := .ia 1 (.t 14) (.t 15) },
  { dst := none, op := .st 1 (.t 23) (.t 22), pre := [] }])
 (.reg false [{ dst := some 24, op := .mv (.t 0) },
  { dst := some 25, op := .mv (.t 1) },
  { dst := some 26, op := .mv (.t 6) },
  { dst := some 27, op := .nilck (.t 24) },
  { dst := some 28, op := .fa 8 (.t 27) },
  { dst := some 29, op := .iaa 8 1 (.t 28) (.t 25) },
  { dst := none, op := .st 1 (.t 29) (.t 26) }]))) }
def A_xref05_S_Skip : AFun := { res := [.t 6], body := (.seq (.reg false [{ dst := some 6, op := .mv (.c (.i .i64 0)) }])
 (.seq (.reg true [{ dst := some 7, op := .mv (.t 0) },
  { dst := some 8, op := .mv (.t 0) },
  { dst := some 9, op := .nilck (.t 8) },
  { dst := some 10, op := .fa 16 (.t 9) },
  { dst := some 11, op := .ld none (.t 10), pre := [] },
  { dst := some 12, op := .mv (.t 0) },
  { dst := some 13, op := .mv (.t 2) },
  { dst := some 14, op := .call .see (.c (.fn 116 [] [])) [.t 12, .t 13], pre := [] },
  { dst := some 15, op := .call .pure (.c (.fn 129 [] [])) [.t 11, .t 14], pre := [] },
  { dst := some 16, op := .nilck (.t 7) },
  { dst := some 17, op := .fa 16 (.t 16) },
  { dst := none, op := .st 1 (.t 17) (.t 15), pre := [] }])
 (.seq (.seq (.reg false [{ dst := some 18, op := .mv (.t 2) },
  { dst := some 19, op := .mv (.t 0) },
  { dst := some 20, op := .nilck (.t 19) },
  { dst := some 21, op := .fa 0 (.t 20) },
  { dst := some 22, op := .fa 6 (.t 21) },
  { dst := some 23, op := .ld none (.t 22) },
  { dst := some 24, op := .call .pure (.c (.fn 115 [] [])) [.t 18, .t 23] },
  { dst := some 25, op := .bin .neq (.t 24) (.c (.i .i64 0)) }])
 (.cond (.t 25) (.seq (.reg false [{ dst := some 26, op := .mv (.t 1) },
  { dst := some 6, op := .mv (.t 26) }])
 .ret)
 .skip))
 (.seq (.reg false [{ dst := some 6, op := .mv (.c (.i .i64 0)) }])
 .ret)))) }
def A_xref05_Both : AFun := { res := [.t 4], body := (.seq (.reg false [{ dst := some 4, op := .mv (.c (.sl [] 0 .rig)) }])
 (.seq (.seq (.reg false [{ dst := some 5, op := .mv (.c (.i .i64 0)) }])
 (.blk 0 (.loop (.seq (.seq (.reg false [{ dst := some 6, op := .mv (.t 5) },
  { dst := some 7, op := .mv (.t 1) },
  { dst := some 8, op := .len (.t 7) },
  { dst := some 9, op := .bin .lss (.t 6) (.t 8) }])
 (.cond (.t 9) .skip
 (.ext 0)))
 (.seq (.blk 1 (.reg false [{ dst := some 12, op := .mv (.t 0) },
  { dst := some 13, op := .mv (.t 1) },
  { dst := some 14, op := .mv (.t 5) },
  { dst := some 15, op := .ia 1 (.t 13) (.t 14) },
  { dst := some 16, op := .ld none (.t 15) },
  { dst := some 17, op := .call .pure (.c (.fn 132 [] [])) [.t 12, .t 16] },
  { dst := some 0, op := .mv (.t 17) }]))
 (.reg false [{ dst := some 10, op := .mv (.t 5) },
  { dst := some 11, op := .bin .add (.t 10) (.c (.i .i64 1)) },
  { dst := some 5, op := .mv (.t 11) }]))))))
 (.seq (.reg false [{ dst := some 18, op := .mv (.t 0) },
  { dst := some 4, op := .mv (.t 18) }])
 .ret))) }
def A_xref05_pairs : AFun := { res := [.t 6], body := (.seq (.reg false [{ dst := some 6, op := .mv (.c (.sl [] 0 .rig)) }])
 (.seq (.seq (.reg false [{ dst := some 7, op := .mv (.c (.i .i64 0)) }])
 (.blk 0 (.loop (.seq (.seq (.reg false [{ dst := some 10, op := .mv (.t 7) },
  { dst := some 11, op := .mv (.t 1) },
  { dst := some 12, op := .len (.t 11) },
  { dst := some 13, op := .bin .lss (.t 10) (.t 12) }])
 (.cond (.t 13) .skip
 (.ext 0)))
 (.seq (.blk 1 (.seq (.reg false [{ dst := some 16, op := .mv (.t 1) },
  { dst := some 17, op := .mv (.t 7) },
  { dst := some 18, op := .ia 1 (.t 16) (.t 17) },
  { dst := some 19, op := .ld none (.t 18) },
  { dst := some 20, op := .mv (.t 2) },
  { dst := some 21, op := .build ([.i .i64 0, .i .i64 0]) [(0, 1, .t 19), (1, 1, .t 20)] },
  { dst := some 8, op := .new ([.i .i64 0, .i .i64 0]) },
  { dst := none, op := .st 2 (.t 8) (.t 21) }])
 (.seq (.reg false [{ dst := some 9, op := .mv (.c (.i .i64 0)) }])
 (.seq (.blk 2 (.loop (.seq (.seq (.reg true [{ dst := some 22, op := .mv (.t 9) },
  { dst := some 23, op := .mv (.t 0) },
  { dst := some 24, op := .len (.t 23) },
  { dst := some 25, op := .bin .lss (.t 22) (.t 24) },
  { dst := some 26, op := .mv (.t 25) },
  { dst := some 27, op := .mv (.t 0), grd := some (26, true) },
  { dst := some 28, op := .mv (.t 9), grd := some (26, true) },
  { dst := some 29, op := .ia 2 (.t 27) (.t 28), grd := some (26, true) },
  { dst := some 30, op := .fa 0 (.t 29), grd := some (26, true) },
  { dst := some 31, op := .ld none (.t 30), grd := some (26, true), pre := [] },
  { dst := some 32, op := .fa 0 (.t 8), grd := some (26, true) },
  { dst := some 33, op := .ld none (.t 32), grd := some (26, true), pre := [] },
  { dst := some 34, op := .bin .lss (.t 31) (.t 33), grd := some (26, true) },
  { dst := some 35, op := .mv (.t 34), grd := some (26, true) },
  { dst := some 36, op := .mv (.t 0), grd := some (35, false) },
  { dst := some 37, op := .mv (.t 9), grd := some (35, false) },
  { dst := some 38, op := .ia 2 (.t 36) (.t 37), grd := some (35, false) },
  { dst := some 39, op := .fa 0 (.t 38), grd := some (35, false) },
  { dst := some 40, op := .ld none (.t 39), grd := some (35, false), pre := [] },
  { dst := some 41, op := .fa 0 (.t 8), grd := some (35, false) },
  { dst := some 42, op := .ld none (.t 41), grd := some (35, false), pre := [] },
  { dst := some 43, op := .bin .eql (.t 40) (.t 42), grd := some (35, false) },
  { dst := some 44, op := .mv (.t 43), grd := some (35, false) },
  { dst := some 45, op := .mv (.t 0), grd := some (44, true) },
  { dst := some 46, op := .mv (.t 9), grd := some (44, true) },
  { dst := some 47, op := .ia 2 (.t 45) (.t 46), grd := some (44, true) },
  { dst := some 48, op := .fa 1 (.t 47), grd := some (44, true) },
  { dst := some 49, op := .ld none (.t 48), grd := some (44, true), pre := [] },
  { dst := some 50, op := .fa 1 (.t 8), grd := some (44, true) },
  { dst := some 51, op := .ld none (.t 50), grd := some (44, true), pre := [] },
  { dst := some 52, op := .bin .lss (.t 49) (.t 51), grd := some (44, true) },
  { dst := some 53, op := .pick (.t 44) (.t 52) (.c (.b false)), grd := some (35, false) },
  { dst := some 54, op := .pick (.t 35) (.c (.b true)) (.t 53), grd := some (26, true) },
  { dst := some 55, op := .pick (.t 26) (.t 54) (.c (.b false)) }])
 (.cond (.t 55) .skip
 (.ext 2)))
 (.blk 3 (.reg false [{ dst := some 56, op := .mv (.t 9) },
  { dst := some 57, op := .bin .add (.t 56) (.c (.i .i64 1)) },
  { dst := some 9, op := .mv (.t 57) }])))))
 (.reg true [{ dst := some 58, op := .mv (.t 0) },
  { dst := some 59, op := .mv (.t 9) },
  { dst := some 60, op := .slice 2 (.t 58) none (some (.t 59)) none },
  { dst := some 61, op := .app 2 16 (.c (.sl [] 0 .rig)) (.t 60), pre := [] },
  { dst := some 62, op := .ld (some 2) (.t 8), pre := [] },
  { dst := some 63, op := .bsl true 1 ([.i .i64 0, .i .i64 0]) [(0, 2, .t 62)], pre := [] },
  { dst := some 64, op := .app 2 16 (.t 61) (.t 63), pre := [3] },
  { dst := some 65, op := .mv (.t 0) },
  { dst := some 66, op := .mv (.t 9) },
  { dst := some 67, op := .slice 2 (.t 65) (some (.t 66)) none none },
  { dst := some 68, op := .app 2 16 (.t 64) (.t 67), pre := [3, 6] },
  { dst := some 0, op := .mv (.t 68) }])))))
 (.reg false [{ dst := some 14, op := .mv (.t 7) },
  { dst := some 15, op := .bin .add (.t 14) (.c (.i .i64 1)) },
  { dst := some 7, op := .mv (.t 15) }]))))))
 (.seq (.reg false [{ dst := some 69, op := .mv (.t 0) },
  { dst := some 6, op := .mv (.t 69) }])
 .ret))) }
def A_xref05_Put : AFun := { res := [.t 4], body := (.seq (.reg false [{ dst := some 4, op := .mv (.c (.sl [] 0 .rig)) }])
 (.seq (.reg false [{ dst := some 5, op := .mv (.c (.i .i64 0)) }])
 (.seq (.blk 0 (.loop (.seq (.seq (.reg false [{ dst := some 6, op := .mv (.t 5) },
  { dst := some 7, op := .mv (.t 0) },
  { dst := some 8, op := .len (.t 7) },
  { dst := some 9, op := .bin .lss (.t 6) (.t 8) },
  { dst := some 10, op := .mv (.t 9) },
  { dst := some 11, op := .mv (.t 0), grd := some (10, true) },
  { dst := some 12, op := .mv (.t 5), grd := some (10, true) },
  { dst := some 13, op := .ia 1 (.t 11) (.t 12), grd := some (10, true) },
  { dst := some 14, op := .ld none (.t 13), grd := some (10, true) },
  { dst := some 15, op := .mv (.t 1), grd := some (10, true) },
  { dst := some 16, op := .bin .lss (.t 14) (.t 15), grd := some (10, true) },
  { dst := some 17, op := .pick (.t 10) (.t 16) (.c (.b false)) }])
 (.cond (.t 17) .skip
 (.ext 0)))
 (.blk 1 (.reg false [{ dst := some 18, op := .mv (.t 5) },
  { dst := some 19, op := .bin .add (.t 18) (.c (.i .i64 1)) },
  { dst := some 5, op := .mv (.t 19) }])))))
 (.seq (.seq (.reg false [{ dst := some 20, op := .mv (.t 5) },
  { dst := some 21, op := .mv (.t 0) },
  { dst := some 22, op := .len (.t 21) },
  { dst := some 23, op := .bin .lss (.t 20) (.t 22) },
  { dst := some 24, op := .mv (.t 23) },
  { dst := some 25, op := .mv (.t 0), grd := some (24, true) },
  { dst := some 26, op := .mv (.t 5), grd := some (24, true) },
  { dst := some 27, op := .ia 1 (.t 25) (.t 26), grd := some (24, true) },
  { dst := some 28, op := .ld none (.t 27), grd := some (24, true) },
  { dst := some 29, op := .mv (.t 1), grd := some (24, true) },
  { dst := some 30, op := .bin .eql (.t 28) (.t 29), grd := some (24, true) },
  { dst := some 31, op := .pick (.t 24) (.t 30) (.c (.b false)) }])
 (.cond (.t 31) (.seq (.reg false [{ dst := some 32, op := .mv (.t 0) },
  { dst := some 4, op := .mv (.t 32) }])
 .ret)
 .skip))
 (.seq (.reg true [{ dst := some 33, op := .mv (.t 0) },
  { dst := some 34, op := .mv (.t 5) },
  { dst := some 35, op := .slice 1 (.t 33) none (some (.t 34)) none },
  { dst := some 36, op := .app 1 8 (.c (.sl [] 0 .rig)) (.t 35), pre := [] },
  { dst := some 37, op := .mv (.t 1) },
  { dst := some 38, op := .bsl true 1 ([.i .i64 0]) [(0, 1, .t 37)], pre := [] },
  { dst := some 39, op := .app 1 8 (.t 36) (.t 38), pre := [3] },
  { dst := some 40, op := .mv (.t 0) },
  { dst := some 41, op := .mv (.t 5) },
  { dst := some 42, op := .slice 1 (.t 40) (some (.t 41)) none none },
  { dst := some 43, op := .app 1 8 (.t 39) (.t 42), pre := [3, 6] },
  { dst := some 4, op := .mv (.t 43) }])
 .ret))))) }
end Go.Ab
end
section
namespace Go.Ab
def A_xref06_Check : AFun := { res := [.t 2], body := (.seq (.reg false [{ dst := some 1, op := .box (.t 0) },
  { dst := some 2, op := .mv (.c (.b false)) }])
 (.seq (.reg false [{ dst := some 6, op := .fa 1 (.t 1) },
  { dst := some 7, op := .ld none (.t 6) },
  { dst := some 8, op := .len (.t 7) },
  { dst := some 3, op := .mv (.t 8) }])
 (.seq (.seq (.reg false [{ dst := some 9, op := .fa 0 (.t 1) },
  { dst := some 10, op := .ld none (.t 9) },
  { dst := some 11, op := .bin .lss (.t 10) (.c (.i .i64 1)) },
  { dst := some 12, op := .mv (.t 11) },
  { dst := some 13, op := .fa 0 (.t 1), grd := some (12, false) },
  { dst := some 14, op := .ld none (.t 13), grd := some (12, false) },
  { dst := some 15, op := .bin .gtr (.t 14) (.c (.i .i64 4)), grd := some (12, false) },
  { dst := some 16, op := .pick (.t 12) (.c (.b true)) (.t 15) },
  { dst := some 17, op := .mv (.t 16) },
  { dst := some 18, op := .mv (.t 3), grd := some (17, false) },
  { dst := some 19, op := .fa 0 (.t 1), grd := some (17, false) },
  { dst := some 20, op := .ld none (.t 19), grd := some (17, false) },
  { dst := some 21, op := .bin .lss (.t 18) (.t 20), grd := some (17, false) },
  { dst := some 22, op := .pick (.t 17) (.c (.b true)) (.t 21) },
  { dst := some 23, op := .mv (.t 22) },
  { dst := some 24, op := .mv (.t 3), grd := some (23, false) },
  { dst := some 25, op := .bin .gtr (.t 24) (.c (.i .i64 40)), grd := some (23, false) },
  { dst := some 26, op := .pick (.t 23) (.c (.b true)) (.t 25) },
  { dst := some 27, op := .mv (.t 26) },
  { dst := some 28, op := .fa 2 (.t 1), grd := some (27, false) },
  { dst := some 29, op := .ld none (.t 28), grd := some (27, false) },
  { dst := some 30, op := .len (.t 29), grd := some (27, false) },
  { dst := some 31, op := .mv (.t 3), grd := some (27, false) },
  { dst := some 32, op := .bin .neq (.t 30) (.t 31), grd := some (27, false) },
  { dst := some 33, op := .pick (.t 27) (.c (.b true)) (.t 32) },
  { dst := some 34, op := .mv (.t 33) },
  { dst := some 35, op := .fa 3 (.t 1), grd := some (34, false) },
  { dst := some 36, op := .ld none (.t 35), grd := some (34, false) },
  { dst := some 37, op := .len (.t 36), grd := some (34, false) },
  { dst := some 38, op := .fa 0 (.t 1), grd := some (34, false) },
  { dst := some 39, op := .ld none (.t 38), grd := some (34, false) },
  { dst := some 40, op := .bin .neq (.t 37) (.t 39), grd := some (34, false) },
  { dst := some 41, op := .pick (.t 34) (.c (.b true)) (.t 40) }])
 (.cond (.t 41) (.seq (.reg false [{ dst := some 2, op := .mv (.c (.b false)) }])
 .ret)
 .skip))
 (.seq (.seq (.reg false [{ dst := some 4, op := .mv (.c (.i .i64 0)) }])
 (.blk 0 (.loop (.seq (.seq (.reg false [{ dst := some 42, op := .mv (.t 4) },
  { dst := some 43, op := .mv (.t 3) },
  { dst := some 44, op := .bin .lss (.t 42) (.t 43) }])
 (.cond (.t 44) .skip
 (.ext 0)))
 (.seq (.blk 1 (.seq (.reg false [{ dst := some 47, op := .ld (some 8) (.t 1) },
  { dst := some 48, op := .mv (.t 4) },
  { dst := some 49, op := .call .pure (.c (.fn 63 [] [])) [.t 47, .t 48] },
  { dst := some 50, op := .un .not (.t 49) },
  { dst := some 51, op := .mv (.t 50) },
  { dst := some 52, op := .ld (some 8) (.t 1), grd := some (51, false) },
  { dst := some 53, op := .mv (.t 4), grd := some (51, false) },
  { dst := some 54, op := .call .pure (.c (.fn 64 [] [])) [.t 52, .t 53], grd := some (51, false) },
  { dst := some 55, op := .un .not (.t 54), grd := some (51, false) },
  { dst := some 56, op := .pick (.t 51) (.c (.b true)) (.t 55) }])
 (.cond (.t 56) (.seq (.reg false [{ dst := some 2, op := .mv (.c (.b false)) }])
 .ret)
 .skip)))
 (.reg false [{ dst := some 45, op := .mv (.t 4) },
  { dst := some 46, op := .bin .add (.t 45) (.c (.i .i64 1)) },
  { dst := some 4, op := .mv (.t 46) }]))))))
 (.seq (.seq (.reg false [{ dst := some 5, op := .mv (.c (.i .i64 0)) }])
 (.blk 2 (.loop (.seq (.seq (.reg false [{ dst := some 57, op := .mv (.t 5) },
  { dst := some 58, op := .fa 0 (.t 1) },
  { dst := some 59, op := .ld none (.t 58) },
  { dst := some 60, op := .bin .lss (.t 57) (.t 59) }])
 (.cond (.t 60) .skip
 (.ext 2)))
 (.seq (.blk 3 (.seq (.reg false [{ dst := some 63, op := .ld (some 8) (.t 1) },
  { dst := some 64, op := .mv (.t 5) },
  { dst := some 65, op := .call .pure (.c (.fn 65 [] [])) [.t 63, .t 64] },
  { dst := some 66, op := .un .not (.t 65) }])
 (.cond (.t 66) (.seq (.reg false [{ dst := some 2, op := .mv (.c (.b false)) }])
 .ret)
 .skip)))
 (.reg false [{ dst := some 61, op := .mv (.t 5) },
  { dst := some 62, op := .bin .add (.t 61) (.c (.i .i64 1)) },
  { dst := some 5, op := .mv (.t 62) }]))))))
 (.seq (.reg false [{ dst := some 67, op := .ld (some 8) (.t 1) },
  { dst := some 68, op := .call .pure (.c (.fn 66 [] [])) [.t 67] },
  { dst := some 69, op := .mv (.t 68) },
  { dst := some 70, op := .ld (some 8) (.t 1), grd := some (69, true) },
  { dst := some 71, op := .fa 5 (.t 1), grd := some (69, true) },
  { dst := some 72, op := .ld none (.t 71), grd := some (69, true) },
  { dst := some 73, op := .call .pure (.c (.fn 67 [] [])) [.t 70, .t 72], grd := some (69, true) },
  { dst := some 74, op := .pick (.t 69) (.t 73) (.c (.b false)) },
  { dst := some 75, op := .mv (.t 74) },
  { dst := some 76, op := .ld (some 8) (.t 1), grd := some (75, true) },
  { dst := some 77, op := .fa 6 (.t 1), grd := some (75, true) },
  { dst := some 78, op := .ld none (.t 77), grd := some (75, true) },
  { dst := some 79, op := .call .pure (.c (.fn 67 [] [])) [.t 76, .t 78], grd := some (75, true) },
  { dst := some 80, op := .pick (.t 75) (.t 79) (.c (.b false)) },
  { dst := some 81, op := .mv (.t 80) },
  { dst := some 82, op := .ld (some 8) (.t 1), grd := some (81, true) },
  { dst := some 83, op := .fa 7 (.t 1), grd := some (81, true) },
  { dst := some 84, op := .ld none (.t 83), grd := some (81, true) },
  { dst := some 85, op := .call .pure (.c (.fn 67 [] [])) [.t 82, .t 84], grd := some (81, true) },
  { dst := some 86, op := .pick (.t 81) (.t 85) (.c (.b false)) },
  { dst := some 2, op := .mv (.t 86) }])
 .ret)))))) }
def A_xref06_event : AFun := { res := [.t 4], body := (.seq (.reg false [{ dst := some 2, op := .box (.t 0) },
  { dst := some 4, op := .mv (.c (.b false)) }])
 (.seq (.reg false [{ dst := some 7, op := .fa 1 (.t 2) },
  { dst := some 8, op := .ld none (.t 7) },
  { dst := some 9, op := .mv (.t 1) },
  { dst := some 10, op := .ia 6 (.t 8) (.t 9) },
  { dst := some 11, op := .ld (some 6) (.t 10) },
  { dst := some 5, op := .new (List.replicate 5 (.i .i64 0) ++ [.b false]) },
  { dst := none, op := .st 6 (.t 5) (.t 11) }])
 (.seq (.seq (.reg false [{ dst := some 12, op := .mv (.t 1) },
  { dst := some 13, op := .fa 0 (.t 2) },
  { dst := some 14, op := .ld none (.t 13) },
  { dst := some 15, op := .bin .lss (.t 12) (.t 14) }])
 (.cond (.t 15) (.seq (.reg false [{ dst := some 16, op := .fa 0 (.t 5) },
  { dst := some 17, op := .ld none (.t 16) },
  { dst := some 18, op := .bin .eql (.t 17) (.c (.i .i64 0)) },
  { dst := some 19, op := .mv (.t 18) },
  { dst := some 20, op := .fa 1 (.t 5), grd := some (19, true) },
  { dst := some 21, op := .ld none (.t 20), grd := some (19, true) },
  { dst := some 22, op := .bin .eql (.t 21) (.c (.i .i64 2)), grd := some (19, true) },
  { dst := some 23, op := .pick (.t 19) (.t 22) (.c (.b false)) },
  { dst := some 24, op := .mv (.t 23) },
  { dst := some 25, op := .fa 2 (.t 5), grd := some (24, true) },
  { dst := some 26, op := .ld none (.t 25), grd := some (24, true) },
  { dst := some 27, op := .bin .eql (.t 26) (.c (.i .i64 0)), grd := some (24, true) },
  { dst := some 28, op := .pick (.t 24) (.t 27) (.c (.b false)) },
  { dst := some 29, op := .mv (.t 28) },
  { dst := some 30, op := .fa 3 (.t 5), grd := some (29, true) },
  { dst := some 31, op := .ld none (.t 30), grd := some (29, true) },
  { dst := some 32, op := .mv (.t 1), grd := some (29, true) },
  { dst := some 33, op := .bin .eql (.t 31) (.t 32), grd := some (29, true) },
  { dst := some 34, op := .pick (.t 29) (.t 33) (.c (.b false)) },
  { dst := some 35, op := .mv (.t 34) },
  { dst := some 36, op := .fa 4 (.t 5), grd := some (35, true) },
  { dst := some 37, op := .ld none (.t 36), grd := some (35, true) },
  { dst := some 38, op := .bin .eql (.t 37) (.c (.i .i64 0)), grd := some (35, true) },
  { dst := some 39, op := .pick (.t 35) (.t 38) (.c (.b false)) },
  { dst := some 40, op := .mv (.t 39) },
  { dst := some 41, op := .fa 5 (.t 5), grd := some (40, true) },
  { dst := some 42, op := .ld none (.t 41), grd := some (40, true) },
  { dst := some 43, op := .un .not (.t 42), grd := some (40, true) },
  { dst := some 44, op := .pick (.t 40) (.t 43) (.c (.b false)) },
  { dst := some 4, op := .mv (.t 44) }])
 .ret)
 .skip))
 (.seq (.seq (.reg true [{ dst := some 45, op := .fa 0 (.t 5) },
  { dst := some 46, op := .ld none (.t 45), pre := [] },
  { dst := some 47, op := .bin .lss (.t 46) (.c (.i .i64 1)) },
  { dst := some 48, op := .mv (.t 47) },
  { dst := some 49, op := .fa 0 (.t 5), grd := some (48, false) },
  { dst := some 50, op := .ld none (.t 49), grd := some (48, false), pre := [] },
  { dst := some 51, op := .bin .gtr (.t 50) (.c (.i .i64 4)), grd := some (48, false) },
  { dst := some 52, op := .pick (.t 48) (.c (.b true)) (.t 51) },
  { dst := some 53, op := .mv (.t 52) },
  { dst := some 54, op := .mv (.t 1), grd := some (53, false) },
  { dst := some 55, op := .bin .gtr (.t 54) (.c (.i .i64 0)), grd := some (53, false) },
  { dst := some 56, op := .mv (.t 55), grd := some (53, false) },
  { dst := some 57, op := .fa 0 (.t 5), grd := some (56, true) },
  { dst := some 58, op := .ld none (.t 57), grd := some (56, true), pre := [] },
  { dst := some 59, op := .fa 1 (.t 2), grd := some (56, true) },
  { dst := some 60, op := .ld none (.t 59), grd := some (56, true), pre := [] },
  { dst := some 61, op := .mv (.t 1), grd := some (56, true) },
  { dst := some 62, op := .bin .sub (.t 61) (.c (.i .i64 1)), grd := some (56, true) },
  { dst := some 63, op := .ia 6 (.t 60) (.t 62), grd := some (56, true) },
  { dst := some 64, op := .fa 0 (.t 63), grd := some (56, true) },
  { dst := some 65, op := .ld none (.t 64), grd := some (56, true), pre := [] },
  { dst := some 66, op := .bin .lss (.t 58) (.t 65), grd := some (56, true) },
  { dst := some 67, op := .pick (.t 56) (.t 66) (.c (.b false)), grd := some (53, false) },
  { dst := some 68, op := .pick (.t 53) (.c (.b true)) (.t 67) }])
 (.cond (.t 68) (.seq (.reg false [{ dst := some 4, op := .mv (.c (.b false)) }])
 .ret)
 .skip))
 (.seq (.reg false [{ dst := some 69, op := .fa 3 (.t 5) },
  { dst := some 70, op := .ld none (.t 69) },
  { dst := some 71, op := .bin .geq (.t 70) (.c (.i .i64 0)) },
  { dst := some 72, op := .mv (.t 71) },
  { dst := some 73, op := .fa 3 (.t 5), grd := some (72, true) },
  { dst := some 74, op := .ld none (.t 73), grd := some (72, true) },
  { dst := some 75, op := .fa 0 (.t 2), grd := some (72, true) },
  { dst := some 76, op := .ld none (.t 75), grd := some (72, true) },
  { dst := some 77, op := .bin .lss (.t 74) (.t 76), grd := some (72, true) },
  { dst := some 78, op := .pick (.t 72) (.t 77) (.c (.b false)) },
  { dst := some 6, op := .mv (.t 78) }])
 (.seq (.seq (.reg false [{ dst := some 79, op := .fa 1 (.t 5) },
  { dst := some 80, op := .ld none (.t 79) }])
 (.blk 0 (.seq (.reg false [{ dst := some 82, op := .bin .eql (.t 80) (.c (.i .i64 1)) },
  { dst := some 81, op := .mv (.t 82) }])
 (.cond (.t 81) (.seq (.reg false [{ dst := some 83, op := .mv (.t 6) },
  { dst := some 84, op := .mv (.t 83) },
  { dst := some 85, op := .fa 2 (.t 5), grd := some (84, true) },
  { dst := some 86, op := .ld none (.t 85), grd := some (84, true) },
  { dst := some 87, op := .bin .eql (.t 86) (.c (.i .i64 0)), grd := some (84, true) },
  { dst := some 88, op := .mv (.t 87), grd := some (84, true) },
  { dst := some 89, op := .fa 2 (.t 5), grd := some (88, false) },
  { dst := some 90, op := .ld none (.t 89), grd := some (88, false) },
  { dst := some 91, op := .bin .eql (.t 90) (.c (.i .i64 1)), grd := some (88, false) },
  { dst := some 92, op := .pick (.t 88) (.c (.b true)) (.t 91), grd := some (84, true) },
  { dst := some 93, op := .pick (.t 84) (.t 92) (.c (.b false)) },
  { dst := some 4, op := .mv (.t 93) }])
 .ret)
 (.seq (.reg false [{ dst := some 95, op := .bin .eql (.t 80) (.c (.i .i64 2)) },
  { dst := some 94, op := .mv (.t 95) }])
 (.cond (.t 94) (.seq (.reg false [{ dst := some 96, op := .mv (.t 6) },
  { dst := some 97, op := .mv (.t 96) },
  { dst := some 98, op := .fa 2 (.t 5), grd := some (97, true) },
  { dst := some 99, op := .ld none (.t 98), grd := some (97, true) },
  { dst := some 100, op := .bin .eql (.t 99) (.c (.i .i64 0)), grd := some (97, true) },
  { dst := some 101, op := .mv (.t 100), grd := some (97, true) },
  { dst := some 102, op := .fa 2 (.t 5), grd := some (101, false) },
  { dst := some 103, op := .ld none (.t 102), grd := some (101, false) },
  { dst := some 104, op := .bin .eql (.t 103) (.c (.i .i64 2)), grd := some (101, false) },
  { dst := some 105, op := .pick (.t 101) (.c (.b true)) (.t 104), grd := some (97, true) },
  { dst := some 106, op := .pick (.t 97) (.t 105) (.c (.b false)) },
  { dst := some 4, op := .mv (.t 106) }])
 .ret)
 (.seq (.reg false [{ dst := some 108, op := .bin .eql (.t 80) (.c (.i .i64 3)) },
  { dst := some 107, op := .mv (.t 108) }])
 (.cond (.t 107) (.seq (.reg false [{ dst := some 109, op := .fa 2 (.t 5) },
  { dst := some 110, op := .ld none (.t 109) },
  { dst := some 111, op := .bin .geq (.t 110) (.c (.i .i64 1)) },
  { dst := some 112, op := .mv (.t 111) },
  { dst := some 113, op := .fa 2 (.t 5), grd := some (112, true) },
  { dst := some 114, op := .ld none (.t 113), grd := some (112, true) },
  { dst := some 115, op := .bin .leq (.t 114) (.c (.i .i64 4)), grd := some (112, true) },
  { dst := some 116, op := .pick (.t 112) (.t 115) (.c (.b false)) },
  { dst := some 117, op := .mv (.t 116) },
  { dst := some 118, op := .fa 3 (.t 5), grd := some (117, true) },
  { dst := some 119, op := .ld none (.t 118), grd := some (117, true) },
  { dst := some 120, op := .bin .eql (.t 119) (.c (.i .i64 0)), grd := some (117, true) },
  { dst := some 121, op := .pick (.t 117) (.t 120) (.c (.b false)) },
  { dst := some 122, op := .mv (.t 121) },
  { dst := some 123, op := .fa 4 (.t 5), grd := some (122, true) },
  { dst := some 124, op := .ld none (.t 123), grd := some (122, true) },
  { dst := some 125, op := .bin .eql (.t 124) (.c (.i .i64 0)), grd := some (122, true) },
  { dst := some 126, op := .pick (.t 122) (.t 125) (.c (.b false)) },
  { dst := some 127, op := .mv (.t 126) },
  { dst := some 128, op := .fa 5 (.t 5), grd := some (127, true) },
  { dst := some 129, op := .ld none (.t 128), grd := some (127, true) },
  { dst := some 130, op := .un .not (.t 129), grd := some (127, true) },
  { dst := some 131, op := .pick (.t 127) (.t 130) (.c (.b false)) },
  { dst := some 4, op := .mv (.t 131) }])
 .ret)
 .skip))))))))
 (.seq (.reg false [{ dst := some 4, op := .mv (.c (.b false)) }])
 .ret))))))) }
def A_xref06_rf : AFun := { res := [.t 4], body := (.seq (.reg false [{ dst := some 2, op := .box (.t 0) },
  { dst := some 4, op := .mv (.c (.b false)) }])
 (.seq (.reg true [{ dst := some 8, op := .fa 1 (.t 2) },
  { dst := some 9, op := .ld none (.t 8), pre := [] },
  { dst := some 10, op := .mv (.t 1) },
  { dst := some 11, op := .ia 6 (.t 9) (.t 10) },
  { dst := some 12, op := .ld (some 6) (.t 11), pre := [] },
  { dst := some 13, op := .fa 2 (.t 2) },
  { dst := some 14, op := .ld none (.t 13), pre := [] },
  { dst := some 15, op := .mv (.t 1) },
  { dst := some 16, op := .ia 1 (.t 14) (.t 15) },
  { dst := some 17, op := .ld none (.t 16), pre := [] },
  { dst := some 5, op := .new (List.replicate 5 (.i .i64 0) ++ [.b false]) },
  { dst := none, op := .stL 6 (.t 5) (.t 12), pre := [10] },
  { dst := some 6, op := .mv (.t 17) }])
 (.seq (.seq (.reg false [{ dst := some 18, op := .fa 1 (.t 5) },
  { dst := some 19, op := .ld none (.t 18) },
  { dst := some 20, op := .bin .neq (.t 19) (.c (.i .i64 1)) }])
 (.cond (.t 20) (.seq (.reg false [{ dst := some 21, op := .mv (.t 6) },
  { dst := some 22, op := .bin .eql (.t 21) (.c (.i .i64 (-1))) },
  { dst := some 4, op := .mv (.t 22) }])
 .ret)
 .skip))
 (.seq (.seq (.reg false [{ dst := some 23, op := .mv (.t 6) },
  { dst := some 24, op := .bin .lss (.t 23) (.c (.i .i64 0)) },
  { dst := some 25, op := .mv (.t 24) },
  { dst := some 26, op := .mv (.t 6), grd := some (25, false) },
  { dst := some 27, op := .fa 1 (.t 2), grd := some (25, false) },
  { dst := some 28, op := .ld none (.t 27), grd := some (25, false) },
  { dst := some 29, op := .len (.t 28), grd := some (25, false) },
  { dst := some 30, op := .bin .geq (.t 26) (.t 29), grd := some (25, false) },
  { dst := some 31, op := .pick (.t 25) (.c (.b true)) (.t 30) }])
 (.cond (.t 31) (.seq (.reg false [{ dst := some 4, op := .mv (.c (.b false)) }])
 .ret)
 .skip))
 (.seq (.reg false [{ dst := some 32, op := .fa 1 (.t 2) },
  { dst := some 33, op := .ld none (.t 32) },
  { dst := some 34, op := .mv (.t 6) },
  { dst := some 35, op := .ia 6 (.t 33) (.t 34) },
  { dst := some 36, op := .ld (some 6) (.t 35) },
  { dst := some 7, op := .new (List.replicate 5 (.i .i64 0) ++ [.b false]) },
  { dst := none, op := .st 6 (.t 7) (.t 36) }])
 (.seq (.reg false [{ dst := some 37, op := .fa 1 (.t 7) },
  { dst := some 38, op := .ld none (.t 37) },
  { dst := some 39, op := .bin .eql (.t 38) (.c (.i .i64 2)) },
  { dst := some 40, op := .mv (.t 39) },
  { dst := some 41, op := .fa 3 (.t 7), grd := some (40, true) },
  { dst := some 42, op := .ld none (.t 41), grd := some (40, true) },
  { dst := some 43, op := .fa 3 (.t 5), grd := some (40, true) },
  { dst := some 44, op := .ld none (.t 43), grd := some (40, true) },
  { dst := some 45, op := .bin .eql (.t 42) (.t 44), grd := some (40, true) },
  { dst := some 46, op := .pick (.t 40) (.t 45) (.c (.b false)) },
  { dst := some 47, op := .mv (.t 46) },
  { dst := some 48, op := .fa 4 (.t 7), grd := some (47, true) },
  { dst := some 49, op := .ld none (.t 48), grd := some (47, true) },
  { dst := some 50, op := .fa 4 (.t 5), grd := some (47, true) },
  { dst := some 51, op := .ld none (.t 50), grd := some (47, true) },
  { dst := some 52, op := .bin .eql (.t 49) (.t 51), grd := some (47, true) },
  { dst := some 53, op := .pick (.t 47) (.t 52) (.c (.b false)) },
  { dst := some 4, op := .mv (.t 53) }])
 .ret)))))) }
def A_xref06_co : AFun := { res := [.t 4], body := (.seq (.reg false [{ dst := some 2, op := .box (.t 0) },
  { dst := some 4, op := .mv (.c (.b false)) }])
 (.seq (.reg false [{ dst := some 10, op := .fa 3 (.t 2) },
  { dst := some 11, op := .ld none (.t 10) },
  { dst := some 12, op := .mv (.t 1) },
  { dst := some 13, op := .ia 1 (.t 11) (.t 12) },
  { dst := some 14, op := .ld none (.t 13) },
  { dst := some 5, op := .mv (.t 14) }])
 (.seq (.reg false [{ dst := some 6, op := .mv (.c (.i .i64 0)) }])
 (.seq (.seq (.reg false [{ dst := some 7, op := .mv (.c (.i .i64 0)) }])
 (.blk 0 (.loop (.seq (.seq (.reg false [{ dst := some 15, op := .mv (.t 7) },
  { dst := some 16, op := .fa 1 (.t 2) },
  { dst := some 17, op := .ld none (.t 16) },
  { dst := some 18, op := .len (.t 17) },
  { dst := some 19, op := .bin .lss (.t 15) (.t 18) }])
 (.cond (.t 19) .skip
 (.ext 0)))
 (.seq (.blk 1 (.seq (.reg false [{ dst := some 22, op := .fa 1 (.t 2) },
  { dst := some 23, op := .ld none (.t 22) },
  { dst := some 24, op := .mv (.t 7) },
  { dst := some 25, op := .ia 6 (.t 23) (.t 24) },
  { dst := some 26, op := .fa 1 (.t 25) },
  { dst := some 27, op := .ld none (.t 26) },
  { dst := some 28, op := .bin .eql (.t 27) (.c (.i .i64 2)) },
  { dst := some 29, op := .mv (.t 28) },
  { dst := some 30, op := .fa 1 (.t 2), grd := some (29, true) },
  { dst := some 31, op := .ld none (.t 30), grd := some (29, true) },
  { dst := some 32, op := .mv (.t 7), grd := some (29, true) },
  { dst := some 33, op := .ia 6 (.t 31) (.t 32), grd := some (29, true) },
  { dst := some 34, op := .fa 3 (.t 33), grd := some (29, true) },
  { dst := some 35, op := .ld none (.t 34), grd := some (29, true) },
  { dst := some 36, op := .mv (.t 1), grd := some (29, true) },
  { dst := some 37, op := .bin .eql (.t 35) (.t 36), grd := some (29, true) },
  { dst := some 38, op := .pick (.t 29) (.t 37) (.c (.b false)) }])
 (.cond (.t 38) (.reg false [{ dst := some 39, op := .mv (.t 6) },
  { dst := some 40, op := .bin .add (.t 39) (.c (.i .i64 1)) },
  { dst := some 6, op := .mv (.t 40) }])
 .skip)))
 (.reg false [{ dst := some 20, op := .mv (.t 7) },
  { dst := some 21, op := .bin .add (.t 20) (.c (.i .i64 1)) },
  { dst := some 7, op := .mv (.t 21) }]))))))
 (.seq (.seq (.reg false [{ dst := some 8, op := .mv (.c (.i .i64 0)) }])
 (.blk 2 (.loop (.seq (.seq (.reg false [{ dst := some 41, op := .mv (.t 8) },
  { dst := some 42, op := .mv (.t 5) },
  { dst := some 43, op := .len (.t 42) },
  { dst := some 44, op := .bin .lss (.t 41) (.t 43) }])
 (.cond (.t 44) .skip
 (.ext 2)))
 (.seq (.blk 3 (.seq (.seq (.reg true [{ dst := some 47, op := .mv (.t 5) },
  { dst := some 48, op := .mv (.t 8) },
  { dst := some 49, op := .ia 1 (.t 47) (.t 48) },
  { dst := some 50, op := .ld none (.t 49), pre := [] },
  { dst := some 51, op := .bin .lss (.t 50) (.c (.i .i64 0)) },
  { dst := some 52, op := .mv (.t 51) },
  { dst := some 53, op := .mv (.t 5), grd := some (52, false) },
  { dst := some 54, op := .mv (.t 8), grd := some (52, false) },
  { dst := some 55, op := .ia 1 (.t 53) (.t 54), grd := some (52, false) },
  { dst := some 56, op := .ld none (.t 55), grd := some (52, false), pre := [] },
  { dst := some 57, op := .fa 1 (.t 2), grd := some (52, false) },
  { dst := some 58, op := .ld none (.t 57), grd := some (52, false), pre := [] },
  { dst := some 59, op := .len (.t 58), grd := some (52, false) },
  { dst := some 60, op := .bin .geq (.t 56) (.t 59), grd := some (52, false) },
  { dst := some 61, op := .pick (.t 52) (.c (.b true)) (.t 60) },
  { dst := some 62, op := .mv (.t 61) },
  { dst := some 63, op := .fa 1 (.t 2), grd := some (62, false) },
  { dst := some 64, op := .ld none (.t 63), grd := some (62, false), pre := [] },
  { dst := some 65, op := .mv (.t 5), grd := some (62, false) },
  { dst := some 66, op := .mv (.t 8), grd := some (62, false) },
  { dst := some 67, op := .ia 1 (.t 65) (.t 66), grd := some (62, false) },
  { dst := some 68, op := .ld none (.t 67), grd := some (62, false), pre := [] },
  { dst := some 69, op := .ia 6 (.t 64) (.t 68), grd := some (62, false) },
  { dst := some 70, op := .fa 1 (.t 69), grd := some (62, false) },
  { dst := some 71, op := .ld none (.t 70), grd := some (62, false), pre := [] },
  { dst := some 72, op := .bin .neq (.t 71) (.c (.i .i64 2)), grd := some (62, false) },
  { dst := some 73, op := .pick (.t 62) (.c (.b true)) (.t 72) },
  { dst := some 74, op := .mv (.t 73) },
  { dst := some 75, op := .fa 1 (.t 2), grd := some (74, false) },
  { dst := some 76, op := .ld none (.t 75), grd := some (74, false), pre := [] },
  { dst := some 77, op := .mv (.t 5), grd := some (74, false) },
  { dst := some 78, op := .mv (.t 8), grd := some (74, false) },
  { dst := some 79, op := .ia 1 (.t 77) (.t 78), grd := some (74, false) },
  { dst := some 80, op := .ld none (.t 79), grd := some (74, false), pre := [] },
  { dst := some 81, op := .ia 6 (.t 76) (.t 80), grd := some (74, false) },
  { dst := some 82, op := .fa 3 (.t 81), grd := some (74, false) },
  { dst := some 83, op := .ld none (.t 82), grd := some (74, false), pre := [] },
  { dst := some 84, op := .mv (.t 1), grd := some (74, false) },
  { dst := some 85, op := .bin .neq (.t 83) (.t 84), grd := some (74, false) },
  { dst := some 86, op := .pick (.t 74) (.c (.b true)) (.t 85) }])
 (.cond (.t 86) (.seq (.reg false [{ dst := some 4, op := .mv (.c (.b false)) }])
 .ret)
 .skip))
 (.seq (.reg false [{ dst := some 9, op := .mv (.c (.i .i64 0)) }])
 (.blk 4 (.loop (.seq (.seq (.reg false [{ dst := some 87, op := .mv (.t 9) },
  { dst := some 88, op := .mv (.t 8) },
  { dst := some 89, op := .bin .lss (.t 87) (.t 88) }])
 (.cond (.t 89) .skip
 (.ext 4)))
 (.seq (.blk 5 (.seq (.reg true [{ dst := some 92, op := .mv (.t 5) },
  { dst := some 93, op := .mv (.t 9) },
  { dst := some 94, op := .ia 1 (.t 92) (.t 93) },
  { dst := some 95, op := .ld none (.t 94), pre := [] },
  { dst := some 96, op := .mv (.t 5) },
  { dst := some 97, op := .mv (.t 8) },
  { dst := some 98, op := .ia 1 (.t 96) (.t 97) },
  { dst := some 99, op := .ld none (.t 98), pre := [] },
  { dst := some 100, op := .bin .eql (.t 95) (.t 99) }])
 (.cond (.t 100) (.seq (.reg false [{ dst := some 4, op := .mv (.c (.b false)) }])
 .ret)
 .skip)))
 (.reg false [{ dst := some 90, op := .mv (.t 9) },
  { dst := some 91, op := .bin .add (.t 90) (.c (.i .i64 1)) },
  { dst := some 9, op := .mv (.t 91) }]))))))))
 (.reg false [{ dst := some 45, op := .mv (.t 8) },
  { dst := some 46, op := .bin .add (.t 45) (.c (.i .i64 1)) },
  { dst := some 8, op := .mv (.t 46) }]))))))
 (.seq (.reg false [{ dst := some 101, op := .mv (.t 5) },
  { dst := some 102, op := .len (.t 101) },
  { dst := some 103, op := .mv (.t 6) },
  { dst := some 104, op := .bin .eql (.t 102) (.t 103) },
  { dst := some 105, op := .mv (.t 104) },
  { dst := some 106, op := .mv (.t 6), grd := some (105, true) },
  { dst := some 107, op := .bin .gtr (.t 106) (.c (.i .i64 0)), grd := some (105, true) },
  { dst := some 108, op := .pick (.t 105) (.t 107) (.c (.b false)) },
  { dst := some 109, op := .mv (.t 108) },
  { dst := some 110, op := .mv (.t 5), grd := some (109, true) },
  { dst := some 111, op := .ia 1 (.t 110) (.c (.i .i64 0)), grd := some (109, true) },
  { dst := some 112, op := .ld none (.t 111), grd := some (109, true) },
  { dst := some 113, op := .mv (.t 1), grd := some (109, true) },
  { dst := some 114, op := .bin .eql (.t 112) (.t 113), grd := some (109, true) },
  { dst := some 115, op := .pick (.t 109) (.t 114) (.c (.b false)) },
  { dst := some 4, op := .mv (.t 115) }])
 .ret)))))) }
def A_xref06_rmw : AFun := { res := [.t 2], body := (.seq (.reg false [{ dst := some 1, op := .box (.t 0) },
  { dst := some 2, op := .mv (.c (.b false)) }])
 (.seq (.reg false [{ dst := some 3, op := .new (List.replicate 40 (.i .i64 0)) }])
 (.seq (.seq (.reg false [{ dst := some 4, op := .mv (.c (.i .i64 0)) }])
 (.blk 0 (.loop (.seq (.seq (.reg false [{ dst := some 10, op := .mv (.t 4) },
  { dst := some 11, op := .fa 4 (.t 1) },
  { dst := some 12, op := .ld none (.t 11) },
  { dst := some 13, op := .len (.t 12) },
  { dst := some 14, op := .bin .lss (.t 10) (.t 13) }])
 (.cond (.t 14) .skip
 (.ext 0)))
 (.seq (.blk 1 (.seq (.reg true [{ dst := some 17, op := .fa 4 (.t 1) },
  { dst := some 18, op := .ld none (.t 17), pre := [] },
  { dst := some 19, op := .mv (.t 4) },
  { dst := some 20, op := .ia 2 (.t 18) (.t 19) },
  { dst := some 21, op := .fa 0 (.t 20) },
  { dst := some 22, op := .ld none (.t 21), pre := [] },
  { dst := some 23, op := .fa 4 (.t 1) },
  { dst := some 24, op := .ld none (.t 23), pre := [] },
  { dst := some 25, op := .mv (.t 4) },
  { dst := some 26, op := .ia 2 (.t 24) (.t 25) },
  { dst := some 27, op := .fa 1 (.t 26) },
  { dst := some 28, op := .ld none (.t 27), pre := [] },
  { dst := some 5, op := .mv (.t 22) },
  { dst := some 6, op := .mv (.t 28) }])
 (.seq (.seq (.reg false [{ dst := some 29, op := .mv (.t 5) },
  { dst := some 30, op := .bin .lss (.t 29) (.c (.i .i64 0)) },
  { dst := some 31, op := .mv (.t 30) },
  { dst := some 32, op := .mv (.t 5), grd := some (31, false) },
  { dst := some 33, op := .fa 1 (.t 1), grd := some (31, false) },
  { dst := some 34, op := .ld none (.t 33), grd := some (31, false) },
  { dst := some 35, op := .len (.t 34), grd := some (31, false) },
  { dst := some 36, op := .bin .sub (.t 35) (.c (.i .i64 1)), grd := some (31, false) },
  { dst := some 37, op := .bin .geq (.t 32) (.t 36), grd := some (31, false) },
  { dst := some 38, op := .pick (.t 31) (.c (.b true)) (.t 37) },
  { dst := some 39, op := .mv (.t 38) },
  { dst := some 40, op := .mv (.t 6), grd := some (39, false) },
  { dst := some 41, op := .mv (.t 5), grd := some (39, false) },
  { dst := some 42, op := .bin .add (.t 41) (.c (.i .i64 1)), grd := some (39, false) },
  { dst := some 43, op := .bin .neq (.t 40) (.t 42), grd := some (39, false) },
  { dst := some 44, op := .pick (.t 39) (.c (.b true)) (.t 43) }])
 (.cond (.t 44) (.seq (.reg false [{ dst := some 2, op := .mv (.c (.b false)) }])
 .ret)
 .skip))
 (.seq (.reg true [{ dst := some 45, op := .fa 1 (.t 1) },
  { dst := some 46, op := .ld none (.t 45), pre := [] },
  { dst := some 47, op := .mv (.t 5) },
  { dst := some 48, op := .ia 6 (.t 46) (.t 47) },
  { dst := some 49, op := .ld (some 6) (.t 48), pre := [] },
  { dst := some 50, op := .fa 1 (.t 1) },
  { dst := some 51, op := .ld none (.t 50), pre := [] },
  { dst := some 52, op := .mv (.t 6) },
  { dst := some 53, op := .ia 6 (.t 51) (.t 52) },
  { dst := some 54, op := .ld (some 6) (.t 53), pre := [] },
  { dst := some 7, op := .new (List.replicate 5 (.i .i64 0) ++ [.b false]) },
  { dst := some 8, op := .new (List.replicate 5 (.i .i64 0) ++ [.b false]) },
  { dst := none, op := .stL 6 (.t 7) (.t 49), pre := [10] },
  { dst := none, op := .stL 6 (.t 8) (.t 54), pre := [11] }])
 (.seq (.seq (.reg false [{ dst := some 55, op := .fa 0 (.t 7) },
  { dst := some 56, op := .ld none (.t 55) },
  { dst := some 57, op := .fa 0 (.t 8) },
  { dst := some 58, op := .ld none (.t 57) },
  { dst := some 59, op := .bin .neq (.t 56) (.t 58) },
  { dst := some 60, op := .mv (.t 59) },
  { dst := some 61, op := .fa 1 (.t 7), grd := some (60, false) },
  { dst := some 62, op := .ld none (.t 61), grd := some (60, false) },
  { dst := some 63, op := .bin .neq (.t 62) (.c (.i .i64 1)), grd := some (60, false) },
  { dst := some 64, op := .pick (.t 60) (.c (.b true)) (.t 63) },
  { dst := some 65, op := .mv (.t 64) },
  { dst := some 66, op := .fa 1 (.t 8), grd := some (65, false) },
  { dst := some 67, op := .ld none (.t 66), grd := some (65, false) },
  { dst := some 68, op := .bin .neq (.t 67) (.c (.i .i64 2)), grd := some (65, false) },
  { dst := some 69, op := .pick (.t 65) (.c (.b true)) (.t 68) },
  { dst := some 70, op := .mv (.t 69) },
  { dst := some 71, op := .fa 3 (.t 7), grd := some (70, false) },
  { dst := some 72, op := .ld none (.t 71), grd := some (70, false) },
  { dst := some 73, op := .fa 3 (.t 8), grd := some (70, false) },
  { dst := some 74, op := .ld none (.t 73), grd := some (70, false) },
  { dst := some 75, op := .bin .neq (.t 72) (.t 74), grd := some (70, false) },
  { dst := some 76, op := .pick (.t 70) (.c (.b true)) (.t 75) },
  { dst := some 77, op := .mv (.t 76) },
  { dst := some 78, op := .fa 5 (.t 7), grd := some (77, false) },
  { dst := some 79, op := .ld none (.t 78), grd := some (77, false) },
  { dst := some 80, op := .un .not (.t 79), grd := some (77, false) },
  { dst := some 81, op := .pick (.t 77) (.c (.b true)) (.t 80) },
  { dst := some 82, op := .mv (.t 81) },
  { dst := some 83, op := .fa 5 (.t 8), grd := some (82, false) },
  { dst := some 84, op := .ld none (.t 83), grd := some (82, false) },
  { dst := some 85, op := .un .not (.t 84), grd := some (82, false) },
  { dst := some 86, op := .pick (.t 82) (.c (.b true)) (.t 85) }])
 (.cond (.t 86) (.seq (.reg false [{ dst := some 2, op := .mv (.c (.b false)) }])
 .ret)
 .skip))
 (.seq (.reg false [{ dst := some 87, op := .mv (.t 5) },
  { dst := some 88, op := .iaa 40 1 (.t 3) (.t 87) },
  { dst := some 89, op := .ld none (.t 88) },
  { dst := some 90, op := .bin .add (.t 89) (.c (.i .i64 1)) },
  { dst := some 91, op := .iaa 40 1 (.t 3) (.t 87) },
  { dst := none, op := .st 1 (.t 91) (.t 90) }])
 (.reg false [{ dst := some 92, op := .mv (.t 6) },
  { dst := some 93, op := .iaa 40 1 (.t 3) (.t 92) },
  { dst := some 94, op := .ld none (.t 93) },
  { dst := some 95, op := .bin .add (.t 94) (.c (.i .i64 1)) },
  { dst := some 96, op := .iaa 40 1 (.t 3) (.t 92) },
  { dst := none, op := .st 1 (.t 96) (.t 95) }])))))))
 (.reg false [{ dst := some 15, op := .mv (.t 4) },
  { dst := some 16, op := .bin .add (.t 15) (.c (.i .i64 1)) },
  { dst := some 4, op := .mv (.t 16) }]))))))
 (.seq (.seq (.reg false [{ dst := some 9, op := .mv (.c (.i .i64 0)) }])
 (.blk 2 (.loop (.seq (.seq (.reg false [{ dst := some 97, op := .mv (.t 9) },
  { dst := some 98, op := .fa 1 (.t 1) },
  { dst := some 99, op := .ld none (.t 98) },
  { dst := some 100, op := .len (.t 99) },
  { dst := some 101, op := .bin .lss (.t 97) (.t 100) }])
 (.cond (.t 101) .skip
 (.ext 2)))
 (.seq (.blk 3 (.seq (.reg true [{ dst := some 104, op := .mv (.t 9) },
  { dst := some 105, op := .iaa 40 1 (.t 3) (.t 104) },
  { dst := some 106, op := .ld none (.t 105), pre := [] },
  { dst := some 107, op := .bin .gtr (.t 106) (.c (.i .i64 1)) },
  { dst := some 108, op := .mv (.t 107) },
  { dst := some 109, op := .fa 1 (.t 1), grd := some (108, false) },
  { dst := some 110, op := .ld none (.t 109), grd := some (108, false), pre := [] },
  { dst := some 111, op := .mv (.t 9), grd := some (108, false) },
  { dst := some 112, op := .ia 6 (.t 110) (.t 111), grd := some (108, false) },
  { dst := some 113, op := .fa 5 (.t 112), grd := some (108, false) },
  { dst := some 114, op := .ld none (.t 113), grd := some (108, false), pre := [] },
  { dst := some 115, op := .mv (.t 9), grd := some (108, false) },
  { dst := some 116, op := .iaa 40 1 (.t 3) (.t 115), grd := some (108, false) },
  { dst := some 117, op := .ld none (.t 116), grd := some (108, false), pre := [] },
  { dst := some 118, op := .bin .eql (.t 117) (.c (.i .i64 1)), grd := some (108, false) },
  { dst := some 119, op := .eqb true (.t 114) (.t 118), grd := some (108, false) },
  { dst := some 120, op := .pick (.t 108) (.c (.b true)) (.t 119) }])
 (.cond (.t 120) (.seq (.reg false [{ dst := some 2, op := .mv (.c (.b false)) }])
 .ret)
 .skip)))
 (.reg false [{ dst := some 102, op := .mv (.t 9) },
  { dst := some 103, op := .bin .add (.t 102) (.c (.i .i64 1)) },
  { dst := some 9, op := .mv (.t 103) }]))))))
 (.seq (.reg false [{ dst := some 121, op := .fa 4 (.t 1) },
  { dst := some 122, op := .ld none (.t 121) },
  { dst := some 123, op := .call .pure (.c (.fn 82 [] [])) [.t 122] },
  { dst := some 2, op := .mv (.t 123) }])
 .ret))))) }
def A_xref06_deps : AFun := { res := [.t 4], body := (.seq (.reg false [{ dst := some 2, op := .box (.t 0) },
  { dst := some 4, op := .mv (.c (.b false)) }])
 (.seq (.seq (.reg false [{ dst := some 5, op := .mv (.c (.i .i64 0)) }])
 (.blk 0 (.loop (.seq (.seq (.reg false [{ dst := some 8, op := .mv (.t 5) },
  { dst := some 9, op := .mv (.t 1) },
  { dst := some 10, op := .len (.t 9) },
  { dst := some 11, op := .bin .lss (.t 8) (.t 10) }])
 (.cond (.t 11) .skip
 (.ext 0)))
 (.seq (.blk 1 (.seq (.reg true [{ dst := some 14, op := .mv (.t 1) },
  { dst := some 15, op := .mv (.t 5) },
  { dst := some 16, op := .ia 2 (.t 14) (.t 15) },
  { dst := some 17, op := .fa 0 (.t 16) },
  { dst := some 18, op := .ld none (.t 17), pre := [] },
  { dst := some 19, op := .mv (.t 1) },
  { dst := some 20, op := .mv (.t 5) },
  { dst := some 21, op := .ia 2 (.t 19) (.t 20) },
  { dst := some 22, op := .fa 1 (.t 21) },
  { dst := some 23, op := .ld none (.t 22), pre := [] },
  { dst := some 6, op := .mv (.t 18) },
  { dst := some 7, op := .mv (.t 23) }])
 (.seq (.reg true [{ dst := some 24, op := .mv (.t 6) },
  { dst := some 25, op := .bin .lss (.t 24) (.c (.i .i64 0)) },
  { dst := some 26, op := .mv (.t 25) },
  { dst := some 27, op := .mv (.t 7), grd := some (26, false) },
  { dst := some 28, op := .mv (.t 6), grd := some (26, false) },
  { dst := some 29, op := .bin .leq (.t 27) (.t 28), grd := some (26, false) },
  { dst := some 30, op := .pick (.t 26) (.c (.b true)) (.t 29) },
  { dst := some 31, op := .mv (.t 30) },
  { dst := some 32, op := .mv (.t 7), grd := some (31, false) },
  { dst := some 33, op := .fa 1 (.t 2), grd := some (31, false) },
  { dst := some 34, op := .ld none (.t 33), grd := some (31, false), pre := [] },
  { dst := some 35, op := .len (.t 34), grd := some (31, false) },
  { dst := some 36, op := .bin .geq (.t 32) (.t 35), grd := some (31, false) },
  { dst := some 37, op := .pick (.t 31) (.c (.b true)) (.t 36) },
  { dst := some 38, op := .mv (.t 37) },
  { dst := some 39, op := .fa 1 (.t 2), grd := some (38, false) },
  { dst := some 40, op := .ld none (.t 39), grd := some (38, false), pre := [] },
  { dst := some 41, op := .mv (.t 6), grd := some (38, false) },
  { dst := some 42, op := .ia 6 (.t 40) (.t 41), grd := some (38, false) },
  { dst := some 43, op := .fa 1 (.t 42), grd := some (38, false) },
  { dst := some 44, op := .ld none (.t 43), grd := some (38, false), pre := [] },
  { dst := some 45, op := .bin .neq (.t 44) (.c (.i .i64 1)), grd := some (38, false) },
  { dst := some 46, op := .pick (.t 38) (.c (.b true)) (.t 45) },
  { dst := some 47, op := .mv (.t 46) },
  { dst := some 48, op := .fa 1 (.t 2), grd := some (47, false) },
  { dst := some 49, op := .ld none (.t 48), grd := some (47, false), pre := [] },
  { dst := some 50, op := .mv (.t 6), grd := some (47, false) },
  { dst := some 51, op := .ia 6 (.t 49) (.t 50), grd := some (47, false) },
  { dst := some 52, op := .fa 0 (.t 51), grd := some (47, false) },
  { dst := some 53, op := .ld none (.t 52), grd := some (47, false), pre := [] },
  { dst := some 54, op := .fa 1 (.t 2), grd := some (47, false) },
  { dst := some 55, op := .ld none (.t 54), grd := some (47, false), pre := [] },
  { dst := some 56, op := .mv (.t 7), grd := some (47, false) },
  { dst := some 57, op := .ia 6 (.t 55) (.t 56), grd := some (47, false) },
  { dst := some 58, op := .fa 0 (.t 57), grd := some (47, false) },
  { dst := some 59, op := .ld none (.t 58), grd := some (47, false), pre := [] },
  { dst := some 60, op := .bin .neq (.t 53) (.t 59), grd := some (47, false) },
  { dst := some 61, op := .pick (.t 47) (.c (.b true)) (.t 60) }])
 (.cond (.t 61) (.seq (.reg false [{ dst := some 4, op := .mv (.c (.b false)) }])
 .ret)
 .skip))))
 (.reg false [{ dst := some 12, op := .mv (.t 5) },
  { dst := some 13, op := .bin .add (.t 12) (.c (.i .i64 1)) },
  { dst := some 5, op := .mv (.t 13) }]))))))
 (.seq (.reg false [{ dst := some 62, op := .mv (.t 1) },
  { dst := some 63, op := .call .pure (.c (.fn 82 [] [])) [.t 62] },
  { dst := some 4, op := .mv (.t 63) }])
 .ret))) }
def A_xref06_rising : AFun := { res := [.t 2], body := (.seq (.reg false [{ dst := some 2, op := .mv (.c (.b false)) }])
 (.seq (.seq (.reg false [{ dst := some 3, op := .mv (.c (.i .i64 1)) }])
 (.blk 0 (.loop (.seq (.seq (.reg false [{ dst := some 4, op := .mv (.t 3) },
  { dst := some 5, op := .mv (.t 0) },
  { dst := some 6, op := .len (.t 5) },
  { dst := some 7, op := .bin .lss (.t 4) (.t 6) }])
 (.cond (.t 7) .skip
 (.ext 0)))
 (.seq (.blk 1 (.seq (.reg true [{ dst := some 10, op := .mv (.t 0) },
  { dst := some 11, op := .mv (.t 3) },
  { dst := some 12, op := .ia 2 (.t 10) (.t 11) },
  { dst := some 13, op := .fa 0 (.t 12) },
  { dst := some 14, op := .ld none (.t 13), pre := [] },
  { dst := some 15, op := .mv (.t 0) },
  { dst := some 16, op := .mv (.t 3) },
  { dst := some 17, op := .bin .sub (.t 16) (.c (.i .i64 1)) },
  { dst := some 18, op := .ia 2 (.t 15) (.t 17) },
  { dst := some 19, op := .fa 0 (.t 18) },
  { dst := some 20, op := .ld none (.t 19), pre := [] },
  { dst := some 21, op := .bin .lss (.t 14) (.t 20) },
  { dst := some 22, op := .mv (.t 21) },
  { dst := some 23, op := .mv (.t 0), grd := some (22, false) },
  { dst := some 24, op := .mv (.t 3), grd := some (22, false) },
  { dst := some 25, op := .ia 2 (.t 23) (.t 24), grd := some (22, false) },
  { dst := some 26, op := .fa 0 (.t 25), grd := some (22, false) },
  { dst := some 27, op := .ld none (.t 26), grd := some (22, false), pre := [] },
  { dst := some 28, op := .mv (.t 0), grd := some (22, false) },
  { dst := some 29, op := .mv (.t 3), grd := some (22, false) },
  { dst := some 30, op := .bin .sub (.t 29) (.c (.i .i64 1)), grd := some (22, false) },
  { dst := some 31, op := .ia 2 (.t 28) (.t 30), grd := some (22, false) },
  { dst := some 32, op := .fa 0 (.t 31), grd := some (22, false) },
  { dst := some 33, op := .ld none (.t 32), grd := some (22, false), pre := [] },
  { dst := some 34, op := .bin .eql (.t 27) (.t 33), grd := some (22, false) },
  { dst := some 35, op := .mv (.t 34), grd := some (22, false) },
  { dst := some 36, op := .mv (.t 0), grd := some (35, true) },
  { dst := some 37, op := .mv (.t 3), grd := some (35, true) },
  { dst := some 38, op := .ia 2 (.t 36) (.t 37), grd := some (35, true) },
  { dst := some 39, op := .fa 1 (.t 38), grd := some (35, true) },
  { dst := some 40, op := .ld none (.t 39), grd := some (35, true), pre := [] },
  { dst := some 41, op := .mv (.t 0), grd := some (35, true) },
  { dst := some 42, op := .mv (.t 3), grd := some (35, true) },
  { dst := some 43, op := .bin .sub (.t 42) (.c (.i .i64 1)), grd := some (35, true) },
  { dst := some 44, op := .ia 2 (.t 41) (.t 43), grd := some (35, true) },
  { dst := some 45, op := .fa 1 (.t 44), grd := some (35, true) },
  { dst := some 46, op := .ld none (.t 45), grd := some (35, true), pre := [] },
  { dst := some 47, op := .bin .leq (.t 40) (.t 46), grd := some (35, true) },
  { dst := some 48, op := .pick (.t 35) (.t 47) (.c (.b false)), grd := some (22, false) },
  { dst := some 49, op := .pick (.t 22) (.c (.b true)) (.t 48) }])
 (.cond (.t 49) (.seq (.reg false [{ dst := some 2, op := .mv (.c (.b false)) }])
 .ret)
 .skip)))
 (.reg false [{ dst := some 8, op := .mv (.t 3) },
  { dst := some 9, op := .bin .add (.t 8) (.c (.i .i64 1)) },
  { dst := some 3, op := .mv (.t 9) }]))))))
 (.seq (.reg false [{ dst := some 2, op := .mv (.c (.b true)) }])
 .ret))) }
def A_xref06_Po : AFun := { res := [.t 2], body := (.seq (.reg false [{ dst := some 1, op := .box (.t 0) },
  { dst := some 2, op := .mv (.c (.nilp)) }])
 (.seq (.reg false [{ dst := some 8, op := .fa 1 (.t 1) },
  { dst := some 9, op := .ld none (.t 8) },
  { dst := some 10, op := .len (.t 9) },
  { dst := some 11, op := .call .thaw (.c (.fn 27 [] [])) [.t 10, .c (.sl [] 0 .rig)] },
  { dst := some 3, op := .mv (.t 11) }])
 (.seq (.seq (.reg false [{ dst := some 4, op := .mv (.c (.i .i64 0)) }])
 (.blk 0 (.loop (.seq (.seq (.reg false [{ dst := some 12, op := .mv (.t 4) },
  { dst := some 13, op := .mv (.t 3) },
  { dst := some 14, op := .nilck (.t 13) },
  { dst := some 15, op := .fa 0 (.t 14) },
  { dst := some 16, op := .ld none (.t 15) },
  { dst := some 17, op := .bin .lss (.t 12) (.t 16) }])
 (.cond (.t 17) .skip
 (.ext 0)))
 (.seq (.blk 1 (.seq (.reg false [{ dst := some 20, op := .mv (.t 4) },
  { dst := some 21, op := .bin .add (.t 20) (.c (.i .i64 1)) },
  { dst := some 5, op := .mv (.t 21) }])
 (.blk 2 (.loop (.seq (.seq (.reg false [{ dst := some 22, op := .mv (.t 5) },
  { dst := some 23, op := .mv (.t 3) },
  { dst := some 24, op := .nilck (.t 23) },
  { dst := some 25, op := .fa 0 (.t 24) },
  { dst := some 26, op := .ld none (.t 25) },
  { dst := some 27, op := .bin .lss (.t 22) (.t 26) }])
 (.cond (.t 27) .skip
 (.ext 2)))
 (.seq (.blk 3 (.seq (.reg true [{ dst := some 30, op := .fa 1 (.t 1) },
  { dst := some 31, op := .ld none (.t 30), pre := [] },
  { dst := some 32, op := .mv (.t 4) },
  { dst := some 33, op := .ia 6 (.t 31) (.t 32) },
  { dst := some 34, op := .fa 0 (.t 33) },
  { dst := some 35, op := .ld none (.t 34), pre := [] },
  { dst := some 36, op := .fa 1 (.t 1) },
  { dst := some 37, op := .ld none (.t 36), pre := [] },
  { dst := some 38, op := .mv (.t 5) },
  { dst := some 39, op := .ia 6 (.t 37) (.t 38) },
  { dst := some 40, op := .fa 0 (.t 39) },
  { dst := some 41, op := .ld none (.t 40), pre := [] },
  { dst := some 6, op := .mv (.t 35) },
  { dst := some 7, op := .mv (.t 41) }])
 (.reg false [{ dst := some 42, op := .mv (.t 3) },
  { dst := some 43, op := .mv (.t 4) },
  { dst := some 44, op := .mv (.t 5) },
  { dst := some 45, op := .mv (.t 6) },
  { dst := some 46, op := .bin .eql (.t 45) (.c (.i .i64 0)) },
  { dst := some 47, op := .mv (.t 46) },
  { dst := some 48, op := .mv (.t 7), grd := some (47, true) },
  { dst := some 49, op := .bin .gtr (.t 48) (.c (.i .i64 0)), grd := some (47, true) },
  { dst := some 50, op := .pick (.t 47) (.t 49) (.c (.b false)) },
  { dst := some 51, op := .mv (.t 50) },
  { dst := some 52, op := .mv (.t 6), grd := some (51, false) },
  { dst := some 53, op := .bin .gtr (.t 52) (.c (.i .i64 0)), grd := some (51, false) },
  { dst := some 54, op := .mv (.t 53), grd := some (51, false) },
  { dst := some 55, op := .mv (.t 6), grd := some (54, true) },
  { dst := some 56, op := .mv (.t 7), grd := some (54, true) },
  { dst := some 57, op := .bin .eql (.t 55) (.t 56), grd := some (54, true) },
  { dst := some 58, op := .pick (.t 54) (.t 57) (.c (.b false)), grd := some (51, false) },
  { dst := some 59, op := .pick (.t 51) (.c (.b true)) (.t 58) },
  { dst := some 60, op := .nilck (.t 42) },
  { dst := some 61, op := .fa 1 (.t 60) },
  { dst := some 62, op := .iaa 40 40 (.t 61) (.t 43) },
  { dst := some 63, op := .iaa 40 1 (.t 62) (.t 44) },
  { dst := none, op := .st 1 (.t 63) (.t 59) }])))
 (.reg false [{ dst := some 28, op := .mv (.t 5) },
  { dst := some 29, op := .bin .add (.t 28) (.c (.i .i64 1)) },
  { dst := some 5, op := .mv (.t 29) }])))))))
 (.reg false [{ dst := some 18, op := .mv (.t 4) },
  { dst := some 19, op := .bin .add (.t 18) (.c (.i .i64 1)) },
  { dst := some 4, op := .mv (.t 19) }]))))))
 (.seq (.reg false [{ dst := some 64, op := .mv (.t 3) },
  { dst := some 2, op := .mv (.t 64) }])
 .ret)))) }
end Go.Ab
end
section
namespace Go.Ab
def A_xref07_Skeleton : AFun := { res := [.cell 4 (some 8), .t 5], body := (.seq (.reg false [{ dst := some 2, op := .box (.t 0) },
  { dst := some 4, op := .new ([.i .i64 0] ++ List.replicate 7 (.sl [] 0 .rig)) },
  { dst := some 5, op := .mv (.c (.i .i64 0)) }])
 (.seq (.seq (.reg false [{ dst := some 11, op := .ld (some 2) (.t 2) },
  { dst := some 12, op := .call .pure (.c (.fn 87 [] [])) [.t 11] },
  { dst := some 13, op := .bin .neq (.t 12) (.c (.i .i64 0)) }])
 (.cond (.t 13) (.seq (.reg false [{ dst := some 14, op := .build ([.i .i64 0] ++ List.replicate 7 (.sl [] 0 .rig)) [] },
  { dst := none, op := .st 8 (.t 4) (.t 14) },
  { dst := some 5, op := .mv (.c (.i .i64 3)) }])
 .ret)
 .skip))
 (.seq (.reg false [{ dst := some 15, op := .fa 0 (.t 2) },
  { dst := some 16, op := .ld none (.t 15) },
  { dst := some 17, op := .call .raw (.c (.fn 103 [] [])) [.t 16] },
  { dst := some 6, op := .new ([.i .i64 0] ++ List.replicate 7 (.sl [] 0 .rig)) },
  { dst := none, op := .st 8 (.t 6) (.t 17) }])
 (.seq (.seq (.reg false [{ dst := some 7, op := .mv (.c (.i .i64 0)) }])
 (.blk 0 (.loop (.seq (.seq (.reg false [{ dst := some 18, op := .mv (.t 7) },
  { dst := some 19, op := .fa 1 (.t 2) },
  { dst := some 20, op := .ld none (.t 19) },
  { dst := some 21, op := .len (.t 20) },
  { dst := some 22, op := .bin .lss (.t 18) (.t 21) }])
 (.cond (.t 22) .skip
 (.ext 0)))
 (.seq (.blk 1 (.seq (.reg false [{ dst := some 8, op := .mv (.c (.sl [] 0 .rig)) }])
 (.seq (.seq (.reg false [{ dst := some 25, op := .mv (.t 7) },
  { dst := some 26, op := .mv (.t 1) },
  { dst := some 27, op := .len (.t 26) },
  { dst := some 28, op := .bin .lss (.t 25) (.t 27) }])
 (.cond (.t 28) (.reg false [{ dst := some 29, op := .mv (.t 1) },
  { dst := some 30, op := .mv (.t 7) },
  { dst := some 31, op := .ia 1 (.t 29) (.t 30) },
  { dst := some 32, op := .ld none (.t 31) },
  { dst := some 8, op := .mv (.t 32) }])
 .skip))
 (.seq (.reg false [{ dst := some 34, op := .fa 1 (.t 2) },
  { dst := some 35, op := .ld none (.t 34) },
  { dst := some 36, op := .mv (.t 7) },
  { dst := some 37, op := .ia 1 (.t 35) (.t 36) },
  { dst := some 38, op := .ld none (.t 37) },
  { dst := some 39, op := .mv (.t 8) },
  { dst := some 40, op := .call .pure (.c (.fn 104 [] [])) [.t 38, .t 39] },
  { dst := some 33, op := .mv (.t 40) },
  { dst := some 41, op := .ext 0 (.t 33) },
  { dst := some 42, op := .ext 1 (.t 33) },
  { dst := some 9, op := .new (List.replicate 5 (.sl [] 0 .rig) ++ [.i .i64 0, .sl [] 0 .rig]) },
  { dst := none, op := .st 7 (.t 9) (.t 41) },
  { dst := some 10, op := .mv (.t 42) }])
 (.seq (.seq (.reg false [{ dst := some 43, op := .mv (.t 10) },
  { dst := some 44, op := .un .not (.t 43) },
  { dst := some 45, op := .mv (.t 44) },
  { dst := some 46, op := .fa 5 (.t 9), grd := some (45, false) },
  { dst := some 47, op := .ld none (.t 46), grd := some (45, false) },
  { dst := some 48, op := .mv (.t 8), grd := some (45, false) },
  { dst := some 49, op := .len (.t 48), grd := some (45, false) },
  { dst := some 50, op := .bin .neq (.t 47) (.t 49), grd := some (45, false) },
  { dst := some 51, op := .pick (.t 45) (.c (.b true)) (.t 50) }])
 (.cond (.t 51) (.seq (.reg false [{ dst := some 52, op := .build ([.i .i64 0] ++ List.replicate 7 (.sl [] 0 .rig)) [] },
  { dst := none, op := .st 8 (.t 4) (.t 52) },
  { dst := some 5, op := .mv (.c (.i .i64 6)) }])
 .ret)
 .skip))
 (.seq (.reg false [{ dst := some 53, op := .fa 4 (.t 9) },
  { dst := none, op := .st 1 (.t 53) (.c (.sl [] 0 .rig)) }])
 (.reg false [{ dst := some 54, op := .ld (some 7) (.t 9) },
  { dst := some 55, op := .mv (.t 7) },
  { dst := some 56, op := .bin .add (.t 55) (.c (.i .i64 1)) },
  { dst := some 57, op := .call .raw (.c (.fn 105 [] [])) [.t 6, .t 54, .t 56] }])))))))
 (.reg false [{ dst := some 23, op := .mv (.t 7) },
  { dst := some 24, op := .bin .add (.t 23) (.c (.i .i64 1)) },
  { dst := some 7, op := .mv (.t 24) }]))))))
 (.seq (.reg false [{ dst := some 58, op := .ld (some 8) (.t 6) },
  { dst := none, op := .st 8 (.t 4) (.t 58) },
  { dst := some 5, op := .mv (.c (.i .i64 0)) }])
 .ret))))) }
def A_xref07_First : AFun := { res := [.cell 2 (some 8)], body := (.seq (.reg false [{ dst := some 2, op := .new ([.i .i64 0] ++ List.replicate 7 (.sl [] 0 .rig)) }])
 (.seq (.reg false [{ dst := some 5, op := .mv (.t 0) },
  { dst := some 6, op := .build ([.i .i64 0] ++ List.replicate 7 (.sl [] 0 .rig)) [(0, 1, .t 5)] },
  { dst := some 3, op := .new ([.i .i64 0] ++ List.replicate 7 (.sl [] 0 .rig)) },
  { dst := none, op := .st 8 (.t 3) (.t 6) }])
 (.seq (.seq (.reg false [{ dst := some 4, op := .mv (.c (.i .i64 0)) }])
 (.blk 0 (.loop (.seq (.seq (.reg false [{ dst := some 7, op := .mv (.t 4) },
  { dst := some 8, op := .mv (.t 0) },
  { dst := some 9, op := .bin .lss (.t 7) (.t 8) }])
 (.cond (.t 9) .skip
 (.ext 0)))
 (.seq (.blk 1 (.reg false [{ dst := some 12, op := .fa 1 (.t 3) },
  { dst := some 13, op := .ld none (.t 12) },
  { dst := some 14, op := .mv (.t 4) },
  { dst := some 15, op := .build (List.replicate 5 (.i .i64 0) ++ [.b false]) [(1, 1, .c (.i .i64 2)), (3, 1, .t 14)] },
  { dst := some 16, op := .bsl true 1 (List.replicate 5 (.i .i64 0) ++ [.b false]) [(0, 6, .t 15)] },
  { dst := some 17, op := .app 6 48 (.t 13) (.t 16) },
  { dst := some 18, op := .fa 1 (.t 3) },
  { dst := none, op := .st 1 (.t 18) (.t 17) }]))
 (.reg false [{ dst := some 10, op := .mv (.t 4) },
  { dst := some 11, op := .bin .add (.t 10) (.c (.i .i64 1)) },
  { dst := some 4, op := .mv (.t 11) }]))))))
 (.seq (.reg false [{ dst := some 19, op := .ld (some 8) (.t 3) },
  { dst := none, op := .st 8 (.t 2) (.t 19) }])
 .ret)))) }
def A_xref07_Lay : AFun := { res := [], body := (.seq (.reg false [{ dst := some 4, op := .box (.t 1) }])
 (.seq (.reg false [{ dst := some 9, op := .mv (.t 0) },
  { dst := some 10, op := .nilck (.t 9) },
  { dst := some 11, op := .fa 1 (.t 10) },
  { dst := some 12, op := .ld none (.t 11) },
  { dst := some 13, op := .len (.t 12) },
  { dst := some 6, op := .mv (.t 13) }])
 (.seq (.seq (.reg false [{ dst := some 7, op := .mv (.c (.i .i64 0)) }])
 (.blk 0 (.loop (.seq (.seq (.reg false [{ dst := some 14, op := .mv (.t 7) },
  { dst := some 15, op := .fa 0 (.t 4) },
  { dst := some 16, op := .ld none (.t 15) },
  { dst := some 17, op := .len (.t 16) },
  { dst := some 18, op := .bin .lss (.t 14) (.t 17) }])
 (.cond (.t 18) .skip
 (.ext 0)))
 (.seq (.blk 1 (.seq (.reg false [{ dst := some 21, op := .fa 0 (.t 4) },
  { dst := some 22, op := .ld none (.t 21) },
  { dst := some 23, op := .mv (.t 7) },
  { dst := some 24, op := .ia 6 (.t 22) (.t 23) },
  { dst := some 25, op := .ld (some 6) (.t 24) },
  { dst := some 8, op := .new (List.replicate 5 (.i .i64 0) ++ [.b false]) },
  { dst := none, op := .st 6 (.t 8) (.t 25) }])
 (.seq (.reg false [{ dst := some 26, op := .mv (.t 2) },
  { dst := some 27, op := .fa 0 (.t 8) },
  { dst := none, op := .st 1 (.t 27) (.t 26) }])
 (.reg true [{ dst := some 28, op := .mv (.t 0) },
  { dst := some 29, op := .mv (.t 0) },
  { dst := some 30, op := .nilck (.t 29) },
  { dst := some 31, op := .fa 1 (.t 30) },
  { dst := some 32, op := .ld none (.t 31), pre := [] },
  { dst := some 33, op := .ld (some 6) (.t 8), pre := [] },
  { dst := some 34, op := .bsl true 1 (List.replicate 5 (.i .i64 0) ++ [.b false]) [(0, 6, .t 33)], pre := [] },
  { dst := some 35, op := .app 6 48 (.t 32) (.t 34), pre := [] },
  { dst := some 36, op := .nilck (.t 28) },
  { dst := some 37, op := .fa 1 (.t 36) },
  { dst := none, op := .st 1 (.t 37) (.t 35), pre := [7] }]))))
 (.reg false [{ dst := some 19, op := .mv (.t 7) },
  { dst := some 20, op := .bin .add (.t 19) (.c (.i .i64 1)) },
  { dst := some 7, op := .mv (.t 20) }]))))))
 (.seq (.reg true [{ dst := some 38, op := .mv (.t 0) },
  { dst := some 39, op := .mv (.t 0) },
  { dst := some 40, op := .nilck (.t 39) },
  { dst := some 41, op := .fa 4 (.t 40) },
  { dst := some 42, op := .ld none (.t 41), pre := [] },
  { dst := some 43, op := .fa 1 (.t 4) },
  { dst := some 44, op := .ld none (.t 43), pre := [] },
  { dst := some 45, op := .mv (.t 6) },
  { dst := some 46, op := .call .pure (.c (.fn 121 [] [])) [.t 44, .t 45], pre := [] },
  { dst := some 47, op := .app 2 16 (.t 42) (.t 46), pre := [] },
  { dst := some 48, op := .nilck (.t 38) },
  { dst := some 49, op := .fa 4 (.t 48) },
  { dst := none, op := .st 1 (.t 49) (.t 47), pre := [9] }])
 (.seq (.reg true [{ dst := some 50, op := .mv (.t 0) },
  { dst := some 51, op := .mv (.t 0) },
  { dst := some 52, op := .nilck (.t 51) },
  { dst := some 53, op := .fa 5 (.t 52) },
  { dst := some 54, op := .ld none (.t 53), pre := [] },
  { dst := some 55, op := .fa 2 (.t 4) },
  { dst := some 56, op := .ld none (.t 55), pre := [] },
  { dst := some 57, op := .mv (.t 6) },
  { dst := some 58, op := .call .pure (.c (.fn 121 [] [])) [.t 56, .t 57], pre := [] },
  { dst := some 59, op := .app 2 16 (.t 54) (.t 58), pre := [] },
  { dst := some 60, op := .nilck (.t 50) },
  { dst := some 61, op := .fa 5 (.t 60) },
  { dst := none, op := .st 1 (.t 61) (.t 59), pre := [9] }])
 (.seq (.reg true [{ dst := some 62, op := .mv (.t 0) },
  { dst := some 63, op := .mv (.t 0) },
  { dst := some 64, op := .nilck (.t 63) },
  { dst := some 65, op := .fa 6 (.t 64) },
  { dst := some 66, op := .ld none (.t 65), pre := [] },
  { dst := some 67, op := .fa 3 (.t 4) },
  { dst := some 68, op := .ld none (.t 67), pre := [] },
  { dst := some 69, op := .mv (.t 6) },
  { dst := some 70, op := .call .pure (.c (.fn 121 [] [])) [.t 68, .t 69], pre := [] },
  { dst := some 71, op := .app 2 16 (.t 66) (.t 70), pre := [] },
  { dst := some 72, op := .nilck (.t 62) },
  { dst := some 73, op := .fa 6 (.t 72) },
  { dst := none, op := .st 1 (.t 73) (.t 71), pre := [9] }])
 (.reg true [{ dst := some 74, op := .mv (.t 0) },
  { dst := some 75, op := .mv (.t 0) },
  { dst := some 76, op := .nilck (.t 75) },
  { dst := some 77, op := .fa 7 (.t 76) },
  { dst := some 78, op := .ld none (.t 77), pre := [] },
  { dst := some 79, op := .fa 4 (.t 4) },
  { dst := some 80, op := .ld none (.t 79), pre := [] },
  { dst := some 81, op := .mv (.t 6) },
  { dst := some 82, op := .call .pure (.c (.fn 121 [] [])) [.t 80, .t 81], pre := [] },
  { dst := some 83, op := .app 2 16 (.t 78) (.t 82), pre := [] },
  { dst := some 84, op := .nilck (.t 74) },
  { dst := some 85, op := .fa 7 (.t 84) },
  { dst := none, op := .st 1 (.t 85) (.t 83), pre := [9] }]))))))) }
def A_xref07_moved : AFun := { res := [.t 4], body := (.seq (.reg false [{ dst := some 4, op := .mv (.c (.sl [] 0 .rig)) }])
 (.seq (.reg false [{ dst := some 5, op := .mv (.c (.sl [] 0 .rig)) }])
 (.seq (.seq (.reg false [{ dst := some 6, op := .mv (.c (.i .i64 0)) }])
 (.blk 0 (.loop (.seq (.seq (.reg false [{ dst := some 7, op := .mv (.t 6) },
  { dst := some 8, op := .mv (.t 0) },
  { dst := some 9, op := .len (.t 8) },
  { dst := some 10, op := .bin .lss (.t 7) (.t 9) }])
 (.cond (.t 10) .skip
 (.ext 0)))
 (.seq (.blk 1 (.reg true [{ dst := some 13, op := .mv (.t 5) },
  { dst := some 14, op := .mv (.t 0) },
  { dst := some 15, op := .mv (.t 6) },
  { dst := some 16, op := .ia 2 (.t 14) (.t 15) },
  { dst := some 17, op := .fa 0 (.t 16) },
  { dst := some 18, op := .ld none (.t 17), pre := [] },
  { dst := some 19, op := .mv (.t 1) },
  { dst := some 20, op := .bin .add (.t 18) (.t 19) },
  { dst := some 21, op := .mv (.t 0) },
  { dst := some 22, op := .mv (.t 6) },
  { dst := some 23, op := .ia 2 (.t 21) (.t 22) },
  { dst := some 24, op := .fa 1 (.t 23) },
  { dst := some 25, op := .ld none (.t 24), pre := [] },
  { dst := some 26, op := .mv (.t 1) },
  { dst := some 27, op := .bin .add (.t 25) (.t 26) },
  { dst := some 28, op := .build ([.i .i64 0, .i .i64 0]) [(0, 1, .t 20), (1, 1, .t 27)] },
  { dst := some 29, op := .bsl true 1 ([.i .i64 0, .i .i64 0]) [(0, 2, .t 28)], pre := [] },
  { dst := some 30, op := .app 2 16 (.t 13) (.t 29), pre := [] },
  { dst := some 5, op := .mv (.t 30) }]))
 (.reg false [{ dst := some 11, op := .mv (.t 6) },
  { dst := some 12, op := .bin .add (.t 11) (.c (.i .i64 1)) },
  { dst := some 6, op := .mv (.t 12) }]))))))
 (.seq (.reg false [{ dst := some 31, op := .mv (.t 5) },
  { dst := some 4, op := .mv (.t 31) }])
 .ret)))) }
end Go.Ab
end
section
namespace Go.Ab
def A_xref09_Rf : AFun := { res := [.t 2], body := (.seq (.reg false [{ dst := some 1, op := .box (.t 0) },
  { dst := some 2, op := .mv (.c (.nilp)) }])
 (.seq (.reg false [{ dst := some 5, op := .fa 1 (.t 1) },
  { dst := some 6, op := .ld none (.t 5) },
  { dst := some 7, op := .len (.t 6) },
  { dst := some 8, op := .call .thaw (.c (.fn 27 [] [])) [.t 7, .c (.sl [] 0 .rig)] },
  { dst := some 3, op := .mv (.t 8) }])
 (.seq (.seq (.reg false [{ dst := some 4, op := .mv (.c (.i .i64 0)) }])
 (.blk 0 (.loop (.seq (.seq (.reg false [{ dst := some 9, op := .mv (.t 4) },
  { dst := some 10, op := .fa 2 (.t 1) },
  { dst := some 11, op := .ld none (.t 10) },
  { dst := some 12, op := .len (.t 11) },
  { dst := some 13, op := .bin .lss (.t 9) (.t 12) }])
 (.cond (.t 13) .skip
 (.ext 0)))
 (.seq (.blk 1 (.seq (.reg false [{ dst := some 16, op := .fa 2 (.t 1) },
  { dst := some 17, op := .ld none (.t 16) },
  { dst := some 18, op := .mv (.t 4) },
  { dst := some 19, op := .ia 1 (.t 17) (.t 18) },
  { dst := some 20, op := .ld none (.t 19) },
  { dst := some 21, op := .bin .geq (.t 20) (.c (.i .i64 0)) }])
 (.cond (.t 21) (.reg true [{ dst := some 22, op := .mv (.t 3) },
  { dst := some 23, op := .fa 2 (.t 1) },
  { dst := some 24, op := .ld none (.t 23), pre := [] },
  { dst := some 25, op := .mv (.t 4) },
  { dst := some 26, op := .ia 1 (.t 24) (.t 25) },
  { dst := some 27, op := .ld none (.t 26), pre := [] },
  { dst := some 28, op := .mv (.t 4) },
  { dst := some 29, op := .nilck (.t 22) },
  { dst := some 30, op := .fa 1 (.t 29) },
  { dst := some 31, op := .iaa 40 40 (.t 30) (.t 27) },
  { dst := some 32, op := .iaa 40 1 (.t 31) (.t 28) },
  { dst := none, op := .st 1 (.t 32) (.c (.b true)), pre := [] }])
 .skip)))
 (.reg false [{ dst := some 14, op := .mv (.t 4) },
  { dst := some 15, op := .bin .add (.t 14) (.c (.i .i64 1)) },
  { dst := some 4, op := .mv (.t 15) }]))))))
 (.seq (.reg false [{ dst := some 33, op := .mv (.t 3) },
  { dst := some 2, op := .mv (.t 33) }])
 .ret)))) }
def A_xref09_Co : AFun := { res := [.t 2], body := (.seq (.reg false [{ dst := some 1, op := .box (.t 0) },
  { dst := some 2, op := .mv (.c (.nilp)) }])
 (.seq (.reg false [{ dst := some 7, op := .fa 1 (.t 1) },
  { dst := some 8, op := .ld none (.t 7) },
  { dst := some 9, op := .len (.t 8) },
  { dst := some 10, op := .call .thaw (.c (.fn 27 [] [])) [.t 9, .c (.sl [] 0 .rig)] },
  { dst := some 3, op := .mv (.t 10) }])
 (.seq (.seq (.reg false [{ dst := some 4, op := .mv (.c (.i .i64 0)) }])
 (.blk 0 (.loop (.seq (.seq (.reg false [{ dst := some 11, op := .mv (.t 4) },
  { dst := some 12, op := .fa 3 (.t 1) },
  { dst := some 13, op := .ld none (.t 12) },
  { dst := some 14, op := .len (.t 13) },
  { dst := some 15, op := .bin .lss (.t 11) (.t 14) }])
 (.cond (.t 15) .skip
 (.ext 0)))
 (.seq (.blk 1 (.seq (.reg false [{ dst := some 5, op := .mv (.c (.i .i64 0)) }])
 (.blk 2 (.loop (.seq (.seq (.reg false [{ dst := some 18, op := .mv (.t 5) },
  { dst := some 19, op := .fa 3 (.t 1) },
  { dst := some 20, op := .ld none (.t 19) },
  { dst := some 21, op := .mv (.t 4) },
  { dst := some 22, op := .ia 1 (.t 20) (.t 21) },
  { dst := some 23, op := .ld none (.t 22) },
  { dst := some 24, op := .len (.t 23) },
  { dst := some 25, op := .bin .lss (.t 18) (.t 24) }])
 (.cond (.t 25) .skip
 (.ext 2)))
 (.seq (.blk 3 (.seq (.reg false [{ dst := some 28, op := .mv (.t 5) },
  { dst := some 29, op := .bin .add (.t 28) (.c (.i .i64 1)) },
  { dst := some 6, op := .mv (.t 29) }])
 (.blk 4 (.loop (.seq (.seq (.reg false [{ dst := some 30, op := .mv (.t 6) },
  { dst := some 31, op := .fa 3 (.t 1) },
  { dst := some 32, op := .ld none (.t 31) },
  { dst := some 33, op := .mv (.t 4) },
  { dst := some 34, op := .ia 1 (.t 32) (.t 33) },
  { dst := some 35, op := .ld none (.t 34) },
  { dst := some 36, op := .len (.t 35) },
  { dst := some 37, op := .bin .lss (.t 30) (.t 36) }])
 (.cond (.t 37) .skip
 (.ext 4)))
 (.seq (.blk 5 (.reg true [{ dst := some 40, op := .mv (.t 3) },
  { dst := some 41, op := .fa 3 (.t 1) },
  { dst := some 42, op := .ld none (.t 41), pre := [] },
  { dst := some 43, op := .mv (.t 4) },
  { dst := some 44, op := .ia 1 (.t 42) (.t 43) },
  { dst := some 45, op := .ld none (.t 44), pre := [] },
  { dst := some 46, op := .mv (.t 5) },
  { dst := some 47, op := .ia 1 (.t 45) (.t 46) },
  { dst := some 48, op := .ld none (.t 47), pre := [] },
  { dst := some 49, op := .fa 3 (.t 1) },
  { dst := some 50, op := .ld none (.t 49), pre := [] },
  { dst := some 51, op := .mv (.t 4) },
  { dst := some 52, op := .ia 1 (.t 50) (.t 51) },
  { dst := some 53, op := .ld none (.t 52), pre := [] },
  { dst := some 54, op := .mv (.t 6) },
  { dst := some 55, op := .ia 1 (.t 53) (.t 54) },
  { dst := some 56, op := .ld none (.t 55), pre := [] },
  { dst := some 57, op := .nilck (.t 40) },
  { dst := some 58, op := .fa 1 (.t 57) },
  { dst := some 59, op := .iaa 40 40 (.t 58) (.t 48) },
  { dst := some 60, op := .iaa 40 1 (.t 59) (.t 56) },
  { dst := none, op := .st 1 (.t 60) (.c (.b true)), pre := [] }]))
 (.reg false [{ dst := some 38, op := .mv (.t 6) },
  { dst := some 39, op := .bin .add (.t 38) (.c (.i .i64 1)) },
  { dst := some 6, op := .mv (.t 39) }])))))))
 (.reg false [{ dst := some 26, op := .mv (.t 5) },
  { dst := some 27, op := .bin .add (.t 26) (.c (.i .i64 1)) },
  { dst := some 5, op := .mv (.t 27) }])))))))
 (.reg false [{ dst := some 16, op := .mv (.t 4) },
  { dst := some 17, op := .bin .add (.t 16) (.c (.i .i64 1)) },
  { dst := some 4, op := .mv (.t 17) }]))))))
 (.seq (.reg false [{ dst := some 61, op := .mv (.t 3) },
  { dst := some 2, op := .mv (.t 61) }])
 .ret)))) }
def A_xref09_Fr : AFun := { res := [.t 2], body := (.seq (.reg false [{ dst := some 1, op := .box (.t 0) },
  { dst := some 2, op := .mv (.c (.nilp)) }])
 (.seq (.reg true [{ dst := some 3, op := .ld (some 8) (.t 1), pre := [] },
  { dst := some 4, op := .call .pure (.c (.fn 69 [] [])) [.t 3], pre := [] },
  { dst := some 5, op := .call .pure (.c (.fn 33 [] [])) [.t 4], pre := [] },
  { dst := some 6, op := .ld (some 8) (.t 1), pre := [] },
  { dst := some 7, op := .call .pure (.c (.fn 70 [] [])) [.t 6], pre := [] },
  { dst := some 8, op := .call .pure (.c (.fn 32 [] [])) [.t 5, .t 7], pre := [] },
  { dst := some 2, op := .mv (.t 8) }])
 .ret)) }
def A_xref09_Eco : AFun := { res := [.t 2], body := (.seq (.reg false [{ dst := some 1, op := .box (.t 0) },
  { dst := some 2, op := .mv (.c (.nilp)) }])
 (.seq (.reg false [{ dst := some 3, op := .ld (some 8) (.t 1) },
  { dst := some 4, op := .call .pure (.c (.fn 83 [] [])) [.t 3] },
  { dst := some 5, op := .call .pure (.c (.fn 34 [] [])) [.t 4] },
  { dst := some 2, op := .mv (.t 5) }])
 .ret)) }
def A_xref09_Loc : AFun := { res := [.t 2], body := (.seq (.reg false [{ dst := some 1, op := .box (.t 0) },
  { dst := some 2, op := .mv (.c (.nilp)) }])
 (.seq (.reg false [{ dst := some 8, op := .ld (some 8) (.t 1) },
  { dst := some 9, op := .call .thaw (.c (.fn 84 [] [])) [.t 8] },
  { dst := some 3, op := .mv (.t 9) }])
 (.seq (.seq (.reg false [{ dst := some 4, op := .mv (.c (.i .i64 0)) }])
 (.blk 0 (.loop (.seq (.seq (.reg false [{ dst := some 10, op := .mv (.t 4) },
  { dst := some 11, op := .mv (.t 3) },
  { dst := some 12, op := .nilck (.t 11) },
  { dst := some 13, op := .fa 0 (.t 12) },
  { dst := some 14, op := .ld none (.t 13) },
  { dst := some 15, op := .bin .lss (.t 10) (.t 14) }])
 (.cond (.t 15) .skip
 (.ext 0)))
 (.seq (.blk 1 (.seq (.reg false [{ dst := some 5, op := .mv (.c (.i .i64 0)) }])
 (.blk 2 (.loop (.seq (.seq (.reg false [{ dst := some 18, op := .mv (.t 5) },
  { dst := some 19, op := .mv (.t 3) },
  { dst := some 20, op := .nilck (.t 19) },
  { dst := some 21, op := .fa 0 (.t 20) },
  { dst := some 22, op := .ld none (.t 21) },
  { dst := some 23, op := .bin .lss (.t 18) (.t 22) }])
 (.cond (.t 23) .skip
 (.ext 2)))
 (.seq (.blk 3 (.seq (.reg true [{ dst := some 26, op := .fa 1 (.t 1) },
  { dst := some 27, op := .ld none (.t 26), pre := [] },
  { dst := some 28, op := .mv (.t 4) },
  { dst := some 29, op := .ia 6 (.t 27) (.t 28) },
  { dst := some 30, op := .ld (some 6) (.t 29), pre := [] },
  { dst := some 31, op := .fa 1 (.t 1) },
  { dst := some 32, op := .ld none (.t 31), pre := [] },
  { dst := some 33, op := .mv (.t 5) },
  { dst := some 34, op := .ia 6 (.t 32) (.t 33) },
  { dst := some 35, op := .ld (some 6) (.t 34), pre := [] },
  { dst := some 6, op := .new (List.replicate 5 (.i .i64 0) ++ [.b false]) },
  { dst := some 7, op := .new (List.replicate 5 (.i .i64 0) ++ [.b false]) },
  { dst := none, op := .stL 6 (.t 6) (.t 30), pre := [10] },
  { dst := none, op := .stL 6 (.t 7) (.t 35), pre := [11] }])
 (.reg true [{ dst := some 36, op := .mv (.t 3) },
  { dst := some 37, op := .mv (.t 4) },
  { dst := some 38, op := .mv (.t 5) },
  { dst := some 39, op := .mv (.t 3) },
  { dst := some 40, op := .mv (.t 4) },
  { dst := some 41, op := .mv (.t 5) },
  { dst := some 42, op := .nilck (.t 39) },
  { dst := some 43, op := .fa 1 (.t 42) },
  { dst := some 44, op := .iaa 40 40 (.t 43) (.t 40) },
  { dst := some 45, op := .iaa 40 1 (.t 44) (.t 41) },
  { dst := some 46, op := .ld none (.t 45), pre := [] },
  { dst := some 47, op := .mv (.t 46) },
  { dst := some 48, op := .fa 1 (.t 6), grd := some (47, true) },
  { dst := some 49, op := .ld none (.t 48), grd := some (47, true), pre := [] },
  { dst := some 50, op := .bin .neq (.t 49) (.c (.i .i64 3)), grd := some (47, true) },
  { dst := some 51, op := .pick (.t 47) (.t 50) (.c (.b false)) },
  { dst := some 52, op := .mv (.t 51) },
  { dst := some 53, op := .fa 1 (.t 7), grd := some (52, true) },
  { dst := some 54, op := .ld none (.t 53), grd := some (52, true), pre := [] },
  { dst := some 55, op := .bin .neq (.t 54) (.c (.i .i64 3)), grd := some (52, true) },
  { dst := some 56, op := .pick (.t 52) (.t 55) (.c (.b false)) },
  { dst := some 57, op := .mv (.t 56) },
  { dst := some 58, op := .fa 3 (.t 6), grd := some (57, true) },
  { dst := some 59, op := .ld none (.t 58), grd := some (57, true), pre := [] },
  { dst := some 60, op := .fa 3 (.t 7), grd := some (57, true) },
  { dst := some 61, op := .ld none (.t 60), grd := some (57, true), pre := [] },
  { dst := some 62, op := .bin .eql (.t 59) (.t 61), grd := some (57, true) },
  { dst := some 63, op := .pick (.t 57) (.t 62) (.c (.b false)) },
  { dst := some 64, op := .nilck (.t 36) },
  { dst := some 65, op := .fa 1 (.t 64) },
  { dst := some 66, op := .iaa 40 40 (.t 65) (.t 37) },
  { dst := some 67, op := .iaa 40 1 (.t 66) (.t 38) },
  { dst := none, op := .st 1 (.t 67) (.t 63), pre := [] }])))
 (.reg false [{ dst := some 24, op := .mv (.t 5) },
  { dst := some 25, op := .bin .add (.t 24) (.c (.i .i64 1)) },
  { dst := some 5, op := .mv (.t 25) }])))))))
 (.reg false [{ dst := some 16, op := .mv (.t 4) },
  { dst := some 17, op := .bin .add (.t 16) (.c (.i .i64 1)) },
  { dst := some 4, op := .mv (.t 17) }]))))))
 (.seq (.reg false [{ dst := some 68, op := .mv (.t 3) },
  { dst := some 2, op := .mv (.t 68) }])
 .ret)))) }
def A_xref09_Inner : AFun := { res := [.t 4], body := (.seq (.reg false [{ dst := some 2, op := .box (.t 0) },
  { dst := some 4, op := .mv (.c (.nilp)) }])
 (.seq (.reg false [{ dst := some 5, op := .ld (some 8) (.t 2) },
  { dst := some 6, op := .mv (.t 1) },
  { dst := some 7, op := .call .pure (.c (.fn 85 [] [])) [.t 5, .t 6, .c (.b true)] },
  { dst := some 4, op := .mv (.t 7) }])
 .ret)) }
def A_xref09_Outer : AFun := { res := [.t 4], body := (.seq (.reg false [{ dst := some 2, op := .box (.t 0) },
  { dst := some 4, op := .mv (.c (.nilp)) }])
 (.seq (.reg false [{ dst := some 5, op := .ld (some 8) (.t 2) },
  { dst := some 6, op := .mv (.t 1) },
  { dst := some 7, op := .call .pure (.c (.fn 85 [] [])) [.t 5, .t 6, .c (.b false)] },
  { dst := some 4, op := .mv (.t 7) }])
 .ret)) }
def A_xref09_Com : AFun := { res := [.t 2], body := (.seq (.reg false [{ dst := some 1, op := .box (.t 0) },
  { dst := some 2, op := .mv (.c (.nilp)) }])
 (.seq (.reg true [{ dst := some 3, op := .ld (some 8) (.t 1), pre := [] },
  { dst := some 4, op := .call .pure (.c (.fn 69 [] [])) [.t 3], pre := [] },
  { dst := some 5, op := .ld (some 8) (.t 1), pre := [] },
  { dst := some 6, op := .call .pure (.c (.fn 70 [] [])) [.t 5], pre := [] },
  { dst := some 7, op := .call .pure (.c (.fn 29 [] [])) [.t 4, .t 6], pre := [] },
  { dst := some 8, op := .ld (some 8) (.t 1), pre := [] },
  { dst := some 9, op := .call .pure (.c (.fn 71 [] [])) [.t 8], pre := [] },
  { dst := some 10, op := .call .pure (.c (.fn 29 [] [])) [.t 7, .t 9], pre := [] },
  { dst := some 2, op := .mv (.t 10) }])
 .ret)) }
def A_xref09_part : AFun := { res := [.t 6], body := (.seq (.reg false [{ dst := some 3, op := .box (.t 0) },
  { dst := some 6, op := .mv (.c (.nilp)) }])
 (.seq (.reg false [{ dst := some 10, op := .mv (.t 1) },
  { dst := some 11, op := .nilck (.t 10) },
  { dst := some 12, op := .fa 0 (.t 11) },
  { dst := some 13, op := .ld none (.t 12) },
  { dst := some 14, op := .call .thaw (.c (.fn 27 [] [])) [.t 13, .c (.sl [] 0 .rig)] },
  { dst := some 7, op := .mv (.t 14) }])
 (.seq (.seq (.reg false [{ dst := some 8, op := .mv (.c (.i .i64 0)) }])
 (.blk 0 (.loop (.seq (.seq (.reg false [{ dst := some 15, op := .mv (.t 8) },
  { dst := some 16, op := .mv (.t 1) },
  { dst := some 17, op := .nilck (.t 16) },
  { dst := some 18, op := .fa 0 (.t 17) },
  { dst := some 19, op := .ld none (.t 18) },
  { dst := some 20, op := .bin .lss (.t 15) (.t 19) },
  { dst := some 21, op := .mv (.t 20) },
  { dst := some 22, op := .mv (.t 8), grd := some (21, true) },
  { dst := some 23, op := .fa 1 (.t 3), grd := some (21, true) },
  { dst := some 24, op := .ld none (.t 23), grd := some (21, true) },
  { dst := some 25, op := .len (.t 24), grd := some (21, true) },
  { dst := some 26, op := .bin .lss (.t 22) (.t 25), grd := some (21, true) },
  { dst := some 27, op := .pick (.t 21) (.t 26) (.c (.b false)) }])
 (.cond (.t 27) .skip
 (.ext 0)))
 (.seq (.blk 1 (.seq (.reg false [{ dst := some 9, op := .mv (.c (.i .i64 0)) }])
 (.blk 2 (.loop (.seq (.seq (.reg false [{ dst := some 30, op := .mv (.t 9) },
  { dst := some 31, op := .mv (.t 1) },
  { dst := some 32, op := .nilck (.t 31) },
  { dst := some 33, op := .fa 0 (.t 32) },
  { dst := some 34, op := .ld none (.t 33) },
  { dst := some 35, op := .bin .lss (.t 30) (.t 34) },
  { dst := some 36, op := .mv (.t 35) },
  { dst := some 37, op := .mv (.t 9), grd := some (36, true) },
  { dst := some 38, op := .fa 1 (.t 3), grd := some (36, true) },
  { dst := some 39, op := .ld none (.t 38), grd := some (36, true) },
  { dst := some 40, op := .len (.t 39), grd := some (36, true) },
  { dst := some 41, op := .bin .lss (.t 37) (.t 40), grd := some (36, true) },
  { dst := some 42, op := .pick (.t 36) (.t 41) (.c (.b false)) }])
 (.cond (.t 42) .skip
 (.ext 2)))
 (.seq (.blk 3 (.reg true [{ dst := some 45, op := .mv (.t 7) },
  { dst := some 46, op := .mv (.t 8) },
  { dst := some 47, op := .mv (.t 9) },
  { dst := some 48, op := .mv (.t 1) },
  { dst := some 49, op := .mv (.t 8) },
  { dst := some 50, op := .mv (.t 9) },
  { dst := some 51, op := .nilck (.t 48) },
  { dst := some 52, op := .fa 1 (.t 51) },
  { dst := some 53, op := .iaa 40 40 (.t 52) (.t 49) },
  { dst := some 54, op := .iaa 40 1 (.t 53) (.t 50) },
  { dst := some 55, op := .ld none (.t 54), pre := [] },
  { dst := some 56, op := .mv (.t 55) },
  { dst := some 57, op := .fa 1 (.t 3), grd := some (56, true) },
  { dst := some 58, op := .ld none (.t 57), grd := some (56, true), pre := [] },
  { dst := some 59, op := .mv (.t 8), grd := some (56, true) },
  { dst := some 60, op := .ia 6 (.t 58) (.t 59), grd := some (56, true) },
  { dst := some 61, op := .fa 0 (.t 60), grd := some (56, true) },
  { dst := some 62, op := .ld none (.t 61), grd := some (56, true), pre := [] },
  { dst := some 63, op := .fa 1 (.t 3), grd := some (56, true) },
  { dst := some 64, op := .ld none (.t 63), grd := some (56, true), pre := [] },
  { dst := some 65, op := .mv (.t 9), grd := some (56, true) },
  { dst := some 66, op := .ia 6 (.t 64) (.t 65), grd := some (56, true) },
  { dst := some 67, op := .fa 0 (.t 66), grd := some (56, true) },
  { dst := some 68, op := .ld none (.t 67), grd := some (56, true), pre := [] },
  { dst := some 69, op := .bin .eql (.t 62) (.t 68), grd := some (56, true) },
  { dst := some 70, op := .mv (.t 2), grd := some (56, true) },
  { dst := some 71, op := .eqb false (.t 69) (.t 70), grd := some (56, true) },
  { dst := some 72, op := .pick (.t 56) (.t 71) (.c (.b false)) },
  { dst := some 73, op := .nilck (.t 45) },
  { dst := some 74, op := .fa 1 (.t 73) },
  { dst := some 75, op := .iaa 40 40 (.t 74) (.t 46) },
  { dst := some 76, op := .iaa 40 1 (.t 75) (.t 47) },
  { dst := none, op := .st 1 (.t 76) (.t 72), pre := [] }]))
 (.reg false [{ dst := some 43, op := .mv (.t 9) },
  { dst := some 44, op := .bin .add (.t 43) (.c (.i .i64 1)) },
  { dst := some 9, op := .mv (.t 44) }])))))))
 (.reg false [{ dst := some 28, op := .mv (.t 8) },
  { dst := some 29, op := .bin .add (.t 28) (.c (.i .i64 1)) },
  { dst := some 8, op := .mv (.t 29) }]))))))
 (.seq (.reg false [{ dst := some 77, op := .mv (.t 7) },
  { dst := some 6, op := .mv (.t 77) }])
 .ret)))) }
structure Pk_xref09 (F : Funs) : Prop where
  xref09_Rf : F 69 = some A_xref09_Rf
  xref09_Co : F 70 = some A_xref09_Co
  xref09_Fr : F 71 = some A_xref09_Fr
  xref09_Loc : F 73 = some A_xref09_Loc
  xref09_Inner : F 74 = some A_xref09_Inner
  xref09_Outer : F 75 = some A_xref09_Outer
  xref09_part : F 85 = some A_xref09_part
end Go.Ab
end
section
namespace Go.Ab
def A_xref13_All : AFun := { res := [.t 4, .t 5], body := (.seq (.reg false [{ dst := some 2, op := .box (.t 0) },
  { dst := some 4, op := .mv (.c (.sl [] 0 .rig)) },
  { dst := some 5, op := .mv (.c (.i .i64 0)) }])
 (.seq (.seq (.reg false [{ dst := some 13, op := .ld (some 2) (.t 2) },
  { dst := some 14, op := .call .pure (.c (.fn 87 [] [])) [.t 13] },
  { dst := some 15, op := .bin .neq (.t 14) (.c (.i .i64 0)) }])
 (.cond (.t 15) (.seq (.reg false [{ dst := some 4, op := .mv (.c (.sl [] 0 .rig)) },
  { dst := some 5, op := .mv (.c (.i .i64 3)) }])
 .ret)
 .skip))
 (.seq (.reg false [{ dst := some 6, op := .mv (.c (.sl [] 0 .rig)) }])
 (.seq (.seq (.reg false [{ dst := some 7, op := .mv (.c (.i .i64 0)) }])
 (.blk 0 (.loop (.seq (.seq (.reg false [{ dst := some 16, op := .mv (.t 7) },
  { dst := some 17, op := .fa 1 (.t 2) },
  { dst := some 18, op := .ld none (.t 17) },
  { dst := some 19, op := .len (.t 18) },
  { dst := some 20, op := .bin .lss (.t 16) (.t 19) }])
 (.cond (.t 20) .skip
 (.ext 0)))
 (.seq (.blk 1 (.reg false [{ dst := some 23, op := .mv (.t 6) },
  { dst := some 24, op := .fa 1 (.t 2) },
  { dst := some 25, op := .ld none (.t 24) },
  { dst := some 26, op := .mv (.t 7) },
  { dst := some 27, op := .ia 1 (.t 25) (.t 26) },
  { dst := some 28, op := .ld none (.t 27) },
  { dst := some 29, op := .mv (.t 1) },
  { dst := some 30, op := .call .pure (.c (.fn 88 [] [])) [.t 28, .t 29] },
  { dst := some 31, op := .bsl true 1 ([.sl [] 0 .rig]) [(0, 1, .t 30)] },
  { dst := some 32, op := .app 1 24 (.t 23) (.t 31) },
  { dst := some 6, op := .mv (.t 32) }]))
 (.reg false [{ dst := some 21, op := .mv (.t 7) },
  { dst := some 22, op := .bin .add (.t 21) (.c (.i .i64 1)) },
  { dst := some 7, op := .mv (.t 22) }]))))))
 (.seq (.reg false [{ dst := some 33, op := .build ([.sl [] 0 .rig, .b false]) [] },
  { dst := some 34, op := .box (.t 33) },
  { dst := some 8, op := .mv (.t 34) }])
 (.seq (.reg false [{ dst := some 35, op := .mv (.t 6) },
  { dst := some 36, op := .call .pure (.c (.fn 89 [] [])) [.t 35] },
  { dst := some 9, op := .mv (.t 36) }])
 (.seq (.seq (.reg false [{ dst := some 10, op := .mv (.c (.i .i64 0)) }])
 (.blk 2 (.loop (.seq (.seq (.reg false [{ dst := some 37, op := .mv (.t 10) },
  { dst := some 38, op := .mv (.t 9) },
  { dst := some 39, op := .len (.t 38) },
  { dst := some 40, op := .bin .lss (.t 37) (.t 39) }])
 (.cond (.t 40) .skip
 (.ext 2)))
 (.seq (.blk 3 (.seq (.reg true [{ dst := some 44, op := .ld (some 2) (.t 2), pre := [] },
  { dst := some 45, op := .mv (.t 9) },
  { dst := some 46, op := .mv (.t 10) },
  { dst := some 47, op := .ia 1 (.t 45) (.t 46) },
  { dst := some 48, op := .ld none (.t 47), pre := [] },
  { dst := some 49, op := .call .pure (.c (.fn 90 [] [])) [.t 44, .t 48], pre := [] },
  { dst := some 43, op := .mv (.t 49) },
  { dst := some 50, op := .ext 0 (.t 43) },
  { dst := some 51, op := .ext 1 (.t 43) },
  { dst := some 11, op := .new ([.i .i64 0] ++ List.replicate 7 (.sl [] 0 .rig)) },
  { dst := none, op := .stL 8 (.t 11) (.t 50), pre := [9] },
  { dst := some 12, op := .mv (.t 51) }])
 (.reg false [{ dst := some 52, op := .mv (.t 8) },
  { dst := some 53, op := .ld (some 8) (.t 11) },
  { dst := some 54, op := .call .raw (.c (.fn 91 [] [])) [.t 52, .t 53] }])))
 (.reg false [{ dst := some 41, op := .mv (.t 10) },
  { dst := some 42, op := .bin .add (.t 41) (.c (.i .i64 1)) },
  { dst := some 10, op := .mv (.t 42) }]))))))
 (.seq (.seq (.reg false [{ dst := some 55, op := .mv (.t 8) },
  { dst := some 56, op := .nilck (.t 55) },
  { dst := some 57, op := .fa 1 (.t 56) },
  { dst := some 58, op := .ld none (.t 57) }])
 (.cond (.t 58) (.seq (.reg false [{ dst := some 4, op := .mv (.c (.sl [] 0 .rig)) },
  { dst := some 5, op := .mv (.c (.i .i64 4)) }])
 .ret)
 .skip))
 (.seq (.reg false [{ dst := some 59, op := .mv (.t 8) },
  { dst := some 60, op := .nilck (.t 59) },
  { dst := some 61, op := .fa 0 (.t 60) },
  { dst := some 62, op := .ld none (.t 61) },
  { dst := some 4, op := .mv (.t 62) },
  { dst := some 5, op := .mv (.c (.i .i64 0)) }])
 .ret))))))))) }
def A_xref13_Values : AFun := { res := [.t 4], body := (.seq (.reg false [{ dst := some 4, op := .mv (.c (.sl [] 0 .rig)) }])
 (.seq (.reg false [{ dst := some 5, op := .mv (.t 0) },
  { dst := some 6, op := .mv (.t 1) },
  { dst := some 7, op := .call .pure (.c (.fn 102 [] [])) [.t 6] },
  { dst := some 8, op := .call .raw (.c (.fn 101 [] [])) [.t 5, .t 7, .c (.sl [] 0 .rig), .c (.sl [] 0 .rig)] },
  { dst := some 4, op := .mv (.t 8) }])
 .ret)) }
def A_xref13_Lots : AFun := { res := [.t 2], body := (.seq (.reg false [{ dst := some 2, op := .mv (.c (.sl [] 0 .rig)) }])
 (.seq (.reg false [{ dst := some 8, op := .bsl true 1 ([.sl [] 0 .rig]) [(0, 1, .c (.sl [] 0 .rig))] },
  { dst := some 3, op := .mv (.t 8) }])
 (.seq (.seq (.reg false [{ dst := some 4, op := .mv (.c (.i .i64 0)) }])
 (.blk 0 (.loop (.seq (.seq (.reg false [{ dst := some 9, op := .mv (.t 4) },
  { dst := some 10, op := .mv (.t 0) },
  { dst := some 11, op := .len (.t 10) },
  { dst := some 12, op := .bin .lss (.t 9) (.t 11) }])
 (.cond (.t 12) .skip
 (.ext 0)))
 (.seq (.blk 1 (.seq (.reg false [{ dst := some 5, op := .mv (.c (.sl [] 0 .rig)) }])
 (.seq (.seq (.reg false [{ dst := some 6, op := .mv (.c (.i .i64 0)) }])
 (.blk 2 (.loop (.seq (.seq (.reg false [{ dst := some 15, op := .mv (.t 6) },
  { dst := some 16, op := .mv (.t 3) },
  { dst := some 17, op := .len (.t 16) },
  { dst := some 18, op := .bin .lss (.t 15) (.t 17) }])
 (.cond (.t 18) .skip
 (.ext 2)))
 (.seq (.blk 3 (.seq (.reg false [{ dst := some 7, op := .mv (.c (.i .i64 0)) }])
 (.blk 4 (.loop (.seq (.seq (.reg false [{ dst := some 21, op := .mv (.t 7) },
  { dst := some 22, op := .mv (.t 0) },
  { dst := some 23, op := .mv (.t 4) },
  { dst := some 24, op := .ia 1 (.t 22) (.t 23) },
  { dst := some 25, op := .ld none (.t 24) },
  { dst := some 26, op := .len (.t 25) },
  { dst := some 27, op := .bin .lss (.t 21) (.t 26) },
  { dst := some 28, op := .mv (.t 27) },
  { dst := some 29, op := .mv (.t 5), grd := some (28, true) },
  { dst := some 30, op := .len (.t 29), grd := some (28, true) },
  { dst := some 31, op := .bin .leq (.t 30) (.c (.i .i64 200000)), grd := some (28, true) },
  { dst := some 32, op := .pick (.t 28) (.t 31) (.c (.b false)) }])
 (.cond (.t 32) .skip
 (.ext 4)))
 (.seq (.blk 5 (.reg true [{ dst := some 35, op := .mv (.t 5) },
  { dst := some 36, op := .mv (.t 3) },
  { dst := some 37, op := .mv (.t 6) },
  { dst := some 38, op := .ia 1 (.t 36) (.t 37) },
  { dst := some 39, op := .ld none (.t 38), pre := [] },
  { dst := some 40, op := .app 1 24 (.c (.sl [] 0 .rig)) (.t 39), pre := [] },
  { dst := some 41, op := .mv (.t 0) },
  { dst := some 42, op := .mv (.t 4) },
  { dst := some 43, op := .ia 1 (.t 41) (.t 42) },
  { dst := some 44, op := .ld none (.t 43), pre := [] },
  { dst := some 45, op := .mv (.t 7) },
  { dst := some 46, op := .ia 1 (.t 44) (.t 45) },
  { dst := some 47, op := .ld none (.t 46), pre := [] },
  { dst := some 48, op := .bsl true 1 ([.sl [] 0 .rig]) [(0, 1, .t 47)], pre := [] },
  { dst := some 49, op := .app 1 24 (.t 40) (.t 48), pre := [5] },
  { dst := some 50, op := .bsl true 1 ([.sl [] 0 .rig]) [(0, 1, .t 49)], pre := [5, 14] },
  { dst := some 51, op := .app 1 24 (.t 35) (.t 50), pre := [5, 14] },
  { dst := some 5, op := .mv (.t 51) }]))
 (.reg false [{ dst := some 33, op := .mv (.t 7) },
  { dst := some 34, op := .bin .add (.t 33) (.c (.i .i64 1)) },
  { dst := some 7, op := .mv (.t 34) }])))))))
 (.reg false [{ dst := some 19, op := .mv (.t 6) },
  { dst := some 20, op := .bin .add (.t 19) (.c (.i .i64 1)) },
  { dst := some 6, op := .mv (.t 20) }]))))))
 (.reg false [{ dst := some 52, op := .mv (.t 5) },
  { dst := some 3, op := .mv (.t 52) }]))))
 (.reg false [{ dst := some 13, op := .mv (.t 4) },
  { dst := some 14, op := .bin .add (.t 13) (.c (.i .i64 1)) },
  { dst := some 4, op := .mv (.t 14) }]))))))
 (.seq (.reg false [{ dst := some 53, op := .mv (.t 3) },
  { dst := some 2, op := .mv (.t 53) }])
 .ret)))) }
def A_xref13_E_Finish : AFun := { res := [], body := (.seq (.reg false [{ dst := some 3, op := .box (.t 1) }])
 (.seq (.reg false [{ dst := some 5, op := .fa 1 (.t 3) },
  { dst := some 6, op := .ld none (.t 5) },
  { dst := some 7, op := .len (.t 6) },
  { dst := some 8, op := .mksl ([.i .i64 0]) 1 8 (.t 7) (.t 7) },
  { dst := some 9, op := .fa 2 (.t 3) },
  { dst := none, op := .st 1 (.t 9) (.t 8) }])
 (.seq (.reg false [{ dst := some 10, op := .fa 0 (.t 3) },
  { dst := some 11, op := .ld none (.t 10) },
  { dst := some 12, op := .mksl ([.sl [] 0 .rig]) 1 24 (.t 11) (.t 11) },
  { dst := some 13, op := .fa 3 (.t 3) },
  { dst := none, op := .st 1 (.t 13) (.t 12) }])
 (.seq (.seq (.reg false [{ dst := some 4, op := .mv (.c (.i .i64 0)) }])
 (.blk 0 (.loop (.seq (.seq (.reg false [{ dst := some 14, op := .mv (.t 4) },
  { dst := some 15, op := .fa 0 (.t 3) },
  { dst := some 16, op := .ld none (.t 15) },
  { dst := some 17, op := .bin .lss (.t 14) (.t 16) }])
 (.cond (.t 17) .skip
 (.ext 0)))
 (.seq (.blk 1 (.reg false [{ dst := some 20, op := .fa 3 (.t 3) },
  { dst := some 21, op := .ld none (.t 20) },
  { dst := some 22, op := .mv (.t 4) },
  { dst := some 23, op := .mv (.t 4) },
  { dst := some 24, op := .bsl true 1 ([.i .i64 0]) [(0, 1, .t 23)] },
  { dst := some 25, op := .ia 1 (.t 21) (.t 22) },
  { dst := none, op := .st 1 (.t 25) (.t 24) }]))
 (.reg false [{ dst := some 18, op := .mv (.t 4) },
  { dst := some 19, op := .bin .add (.t 18) (.c (.i .i64 1)) },
  { dst := some 4, op := .mv (.t 19) }]))))))
 (.reg false [{ dst := some 26, op := .mv (.t 0) },
  { dst := some 27, op := .ld (some 8) (.t 3) },
  { dst := some 28, op := .call .raw (.c (.fn 106 [] [])) [.t 26, .t 27, .c (.i .i64 0)] }]))))) }
def A_xref13_values : AFun := { res := [.t 8], body := (.seq (.reg false [{ dst := some 8, op := .mv (.c (.sl [] 0 .rig)) }])
 (.seq (.reg false [{ dst := some 13, op := .mv (.t 0) },
  { dst := some 14, op := .mv (.t 2) },
  { dst := some 15, op := .call .pure (.c (.fn 104 [] [])) [.t 13, .t 14] },
  { dst := some 12, op := .mv (.t 15) },
  { dst := some 16, op := .ext 0 (.t 12) },
  { dst := some 17, op := .ext 1 (.t 12) },
  { dst := some 9, op := .new (List.replicate 5 (.sl [] 0 .rig) ++ [.i .i64 0, .sl [] 0 .rig]) },
  { dst := none, op := .st 7 (.t 9) (.t 16) },
  { dst := some 10, op := .mv (.t 17) }])
 (.seq (.seq (.reg false [{ dst := some 18, op := .mv (.t 10) },
  { dst := some 19, op := .mv (.t 18) },
  { dst := some 20, op := .fa 5 (.t 9), grd := some (19, true) },
  { dst := some 21, op := .ld none (.t 20), grd := some (19, true) },
  { dst := some 22, op := .mv (.t 2), grd := some (19, true) },
  { dst := some 23, op := .len (.t 22), grd := some (19, true) },
  { dst := some 24, op := .bin .eql (.t 21) (.t 23), grd := some (19, true) },
  { dst := some 25, op := .pick (.t 19) (.t 24) (.c (.b false)) }])
 (.cond (.t 25) (.seq (.reg false [{ dst := some 26, op := .mv (.t 3) },
  { dst := some 27, op := .mv (.t 2) },
  { dst := some 28, op := .app 1 8 (.c (.sl [] 0 .rig)) (.t 27) },
  { dst := some 29, op := .bsl true 1 ([.sl [] 0 .rig]) [(0, 1, .t 28)] },
  { dst := some 30, op := .app 1 24 (.t 26) (.t 29) },
  { dst := some 8, op := .mv (.t 30) }])
 .ret)
 .skip))
 (.seq (.seq (.reg false [{ dst := some 11, op := .mv (.c (.i .i64 0)) }])
 (.blk 0 (.loop (.seq (.seq (.reg false [{ dst := some 31, op := .mv (.t 11) },
  { dst := some 32, op := .mv (.t 1) },
  { dst := some 33, op := .len (.t 32) },
  { dst := some 34, op := .bin .lss (.t 31) (.t 33) },
  { dst := some 35, op := .mv (.t 34) },
  { dst := some 36, op := .mv (.t 3), grd := some (35, true) },
  { dst := some 37, op := .len (.t 36), grd := some (35, true) },
  { dst := some 38, op := .bin .leq (.t 37) (.c (.i .i64 20000)), grd := some (35, true) },
  { dst := some 39, op := .pick (.t 35) (.t 38) (.c (.b false)) }])
 (.cond (.t 39) .skip
 (.ext 0)))
 (.seq (.blk 1 (.reg true [{ dst := some 42, op := .mv (.t 0) },
  { dst := some 43, op := .mv (.t 1) },
  { dst := some 44, op := .mv (.t 2) },
  { dst := some 45, op := .app 1 8 (.c (.sl [] 0 .rig)) (.t 44), pre := [] },
  { dst := some 46, op := .mv (.t 1) },
  { dst := some 47, op := .mv (.t 11) },
  { dst := some 48, op := .ia 1 (.t 46) (.t 47) },
  { dst := some 49, op := .ld none (.t 48), pre := [] },
  { dst := some 50, op := .bsl true 1 ([.i .i64 0]) [(0, 1, .t 49)], pre := [] },
  { dst := some 51, op := .app 1 8 (.t 45) (.t 50), pre := [3] },
  { dst := some 52, op := .mv (.t 3) },
  { dst := some 53, op := .call .raw (.c (.fn 101 [] [])) [.t 42, .t 43, .t 51, .t 52], pre := [3, 9] },
  { dst := some 3, op := .mv (.t 53) }]))
 (.reg false [{ dst := some 40, op := .mv (.t 11) },
  { dst := some 41, op := .bin .add (.t 40) (.c (.i .i64 1)) },
  { dst := some 11, op := .mv (.t 41) }]))))))
 (.seq (.reg false [{ dst := some 54, op := .mv (.t 3) },
  { dst := some 8, op := .mv (.t 54) }])
 .ret))))) }
def A_xref13_Domain : AFun := { res := [.t 2], body := (.seq (.reg false [{ dst := some 2, op := .mv (.c (.sl [] 0 .rig)) }])
 (.seq (.reg false [{ dst := some 3, op := .mv (.c (.sl [] 0 .rig)) }])
 (.seq (.seq (.reg false [{ dst := some 4, op := .mv (.c (.i .i64 0)) }])
 (.blk 0 (.loop (.seq (.seq (.reg false [{ dst := some 7, op := .mv (.t 4) },
  { dst := some 8, op := .mv (.t 0) },
  { dst := some 9, op := .len (.t 8) },
  { dst := some 10, op := .bin .lss (.t 7) (.t 9) },
  { dst := some 11, op := .mv (.t 10) },
  { dst := some 12, op := .mv (.t 4), grd := some (11, true) },
  { dst := some 13, op := .bin .lss (.t 12) (.c (.i .i64 8)), grd := some (11, true) },
  { dst := some 14, op := .pick (.t 11) (.t 13) (.c (.b false)) }])
 (.cond (.t 14) .skip
 (.ext 0)))
 (.seq (.blk 1 (.seq (.reg false [{ dst := some 5, op := .mv (.c (.b false)) }])
 (.seq (.seq (.reg false [{ dst := some 6, op := .mv (.c (.i .i64 0)) }])
 (.blk 2 (.loop (.seq (.seq (.reg false [{ dst := some 17, op := .mv (.t 6) },
  { dst := some 18, op := .mv (.t 3) },
  { dst := some 19, op := .len (.t 18) },
  { dst := some 20, op := .bin .lss (.t 17) (.t 19) }])
 (.cond (.t 20) .skip
 (.ext 2)))
 (.seq (.blk 3 (.reg true [{ dst := some 23, op := .mv (.t 5) },
  { dst := some 24, op := .mv (.t 23) },
  { dst := some 25, op := .mv (.t 3), grd := some (24, false) },
  { dst := some 26, op := .mv (.t 6), grd := some (24, false) },
  { dst := some 27, op := .ia 1 (.t 25) (.t 26), grd := some (24, false) },
  { dst := some 28, op := .ld none (.t 27), grd := some (24, false), pre := [] },
  { dst := some 29, op := .mv (.t 0), grd := some (24, false) },
  { dst := some 30, op := .mv (.t 4), grd := some (24, false) },
  { dst := some 31, op := .ia 1 (.t 29) (.t 30), grd := some (24, false) },
  { dst := some 32, op := .ld none (.t 31), grd := some (24, false), pre := [] },
  { dst := some 33, op := .bin .eql (.t 28) (.t 32), grd := some (24, false) },
  { dst := some 34, op := .pick (.t 24) (.c (.b true)) (.t 33) },
  { dst := some 5, op := .mv (.t 34) }]))
 (.reg false [{ dst := some 21, op := .mv (.t 6) },
  { dst := some 22, op := .bin .add (.t 21) (.c (.i .i64 1)) },
  { dst := some 6, op := .mv (.t 22) }]))))))
 (.seq (.reg false [{ dst := some 35, op := .mv (.t 5) },
  { dst := some 36, op := .un .not (.t 35) }])
 (.cond (.t 36) (.reg false [{ dst := some 37, op := .mv (.t 3) },
  { dst := some 38, op := .mv (.t 0) },
  { dst := some 39, op := .mv (.t 4) },
  { dst := some 40, op := .ia 1 (.t 38) (.t 39) },
  { dst := some 41, op := .ld none (.t 40) },
  { dst := some 42, op := .bsl true 1 ([.i .i64 0]) [(0, 1, .t 41)] },
  { dst := some 43, op := .app 1 8 (.t 37) (.t 42) },
  { dst := some 3, op := .mv (.t 43) }])
 .skip)))))
 (.reg false [{ dst := some 15, op := .mv (.t 4) },
  { dst := some 16, op := .bin .add (.t 15) (.c (.i .i64 1)) },
  { dst := some 4, op := .mv (.t 16) }]))))))
 (.seq (.reg false [{ dst := some 44, op := .mv (.t 3) },
  { dst := some 2, op := .mv (.t 44) }])
 .ret)))) }
def A_xref13_E_rf : AFun := { res := [], body := (.seq (.reg false [{ dst := some 4, op := .box (.t 1) }])
 (.seq (.seq (.reg false [{ dst := some 9, op := .mv (.t 0) },
  { dst := some 10, op := .nilck (.t 9) },
  { dst := some 11, op := .fa 1 (.t 10) },
  { dst := some 12, op := .ld none (.t 11) }])
 (.cond (.t 12) .ret
 .skip))
 (.seq (.seq (.reg false [{ dst := some 13, op := .mv (.t 2) },
  { dst := some 14, op := .fa 1 (.t 4) },
  { dst := some 15, op := .ld none (.t 14) },
  { dst := some 16, op := .len (.t 15) },
  { dst := some 17, op := .bin .eql (.t 13) (.t 16) }])
 (.cond (.t 17) (.seq (.reg false [{ dst := some 18, op := .mv (.t 0) },
  { dst := some 19, op := .ld (some 8) (.t 4) },
  { dst := some 20, op := .call .raw (.c (.fn 122 [] [])) [.t 18, .t 19, .c (.i .i64 0)] }])
 .ret)
 .skip))
 (.seq (.reg false [{ dst := some 21, op := .fa 1 (.t 4) },
  { dst := some 22, op := .ld none (.t 21) },
  { dst := some 23, op := .mv (.t 2) },
  { dst := some 24, op := .ia 6 (.t 22) (.t 23) },
  { dst := some 25, op := .ld (some 6) (.t 24) },
  { dst := some 6, op := .new (List.replicate 5 (.i .i64 0) ++ [.b false]) },
  { dst := none, op := .st 6 (.t 6) (.t 25) }])
 (.seq (.seq (.reg false [{ dst := some 26, op := .fa 1 (.t 6) },
  { dst := some 27, op := .ld none (.t 26) },
  { dst := some 28, op := .bin .neq (.t 27) (.c (.i .i64 1)) }])
 (.cond (.t 28) (.seq (.reg false [{ dst := some 29, op := .fa 2 (.t 4) },
  { dst := some 30, op := .ld none (.t 29) },
  { dst := some 31, op := .mv (.t 2) },
  { dst := some 32, op := .ia 1 (.t 30) (.t 31) },
  { dst := none, op := .st 1 (.t 32) (.c (.i .i64 (-1))) }])
 (.seq (.reg false [{ dst := some 33, op := .mv (.t 0) },
  { dst := some 34, op := .ld (some 8) (.t 4) },
  { dst := some 35, op := .mv (.t 2) },
  { dst := some 36, op := .bin .add (.t 35) (.c (.i .i64 1)) },
  { dst := some 37, op := .call .raw (.c (.fn 106 [] [])) [.t 33, .t 34, .t 36] }])
 .ret))
 .skip))
 (.seq (.reg false [{ dst := some 7, op := .mv (.c (.i .i64 0)) }])
 (.blk 0 (.loop (.seq (.seq (.reg false [{ dst := some 38, op := .mv (.t 7) },
  { dst := some 39, op := .fa 1 (.t 4) },
  { dst := some 40, op := .ld none (.t 39) },
  { dst := some 41, op := .len (.t 40) },
  { dst := some 42, op := .bin .lss (.t 38) (.t 41) }])
 (.cond (.t 42) .skip
 (.ext 0)))
 (.seq (.blk 1 (.seq (.reg false [{ dst := some 45, op := .fa 1 (.t 4) },
  { dst := some 46, op := .ld none (.t 45) },
  { dst := some 47, op := .mv (.t 7) },
  { dst := some 48, op := .ia 6 (.t 46) (.t 47) },
  { dst := some 49, op := .ld (some 6) (.t 48) },
  { dst := some 8, op := .new (List.replicate 5 (.i .i64 0) ++ [.b false]) },
  { dst := none, op := .st 6 (.t 8) (.t 49) }])
 (.seq (.reg false [{ dst := some 50, op := .fa 1 (.t 8) },
  { dst := some 51, op := .ld none (.t 50) },
  { dst := some 52, op := .bin .eql (.t 51) (.c (.i .i64 2)) },
  { dst := some 53, op := .mv (.t 52) },
  { dst := some 54, op := .fa 3 (.t 8), grd := some (53, true) },
  { dst := some 55, op := .ld none (.t 54), grd := some (53, true) },
  { dst := some 56, op := .fa 3 (.t 6), grd := some (53, true) },
  { dst := some 57, op := .ld none (.t 56), grd := some (53, true) },
  { dst := some 58, op := .bin .eql (.t 55) (.t 57), grd := some (53, true) },
  { dst := some 59, op := .pick (.t 53) (.t 58) (.c (.b false)) },
  { dst := some 60, op := .mv (.t 59) },
  { dst := some 61, op := .fa 4 (.t 8), grd := some (60, true) },
  { dst := some 62, op := .ld none (.t 61), grd := some (60, true) },
  { dst := some 63, op := .fa 4 (.t 6), grd := some (60, true) },
  { dst := some 64, op := .ld none (.t 63), grd := some (60, true) },
  { dst := some 65, op := .bin .eql (.t 62) (.t 64), grd := some (60, true) },
  { dst := some 66, op := .pick (.t 60) (.t 65) (.c (.b false)) }])
 (.cond (.t 66) (.seq (.reg false [{ dst := some 67, op := .fa 2 (.t 4) },
  { dst := some 68, op := .ld none (.t 67) },
  { dst := some 69, op := .mv (.t 2) },
  { dst := some 70, op := .mv (.t 7) },
  { dst := some 71, op := .ia 1 (.t 68) (.t 69) },
  { dst := none, op := .st 1 (.t 71) (.t 70) }])
 (.reg false [{ dst := some 72, op := .mv (.t 0) },
  { dst := some 73, op := .ld (some 8) (.t 4) },
  { dst := some 74, op := .mv (.t 2) },
  { dst := some 75, op := .bin .add (.t 74) (.c (.i .i64 1)) },
  { dst := some 76, op := .call .raw (.c (.fn 106 [] [])) [.t 72, .t 73, .t 75] }]))
 .skip))))
 (.reg false [{ dst := some 43, op := .mv (.t 7) },
  { dst := some 44, op := .bin .add (.t 43) (.c (.i .i64 1)) },
  { dst := some 7, op := .mv (.t 44) }]))))))))))) }
def A_xref13_E_co : AFun := { res := [], body := (.seq (.reg false [{ dst := some 4, op := .box (.t 1) }])
 (.seq (.seq (.reg false [{ dst := some 12, op := .mv (.t 0) },
  { dst := some 13, op := .nilck (.t 12) },
  { dst := some 14, op := .fa 1 (.t 13) },
  { dst := some 15, op := .ld none (.t 14) }])
 (.cond (.t 15) .ret
 .skip))
 (.seq (.seq (.reg false [{ dst := some 16, op := .mv (.t 2) },
  { dst := some 17, op := .fa 0 (.t 4) },
  { dst := some 18, op := .ld none (.t 17) },
  { dst := some 19, op := .bin .eql (.t 16) (.t 18) }])
 (.cond (.t 19) (.seq (.reg true [{ dst := some 20, op := .mv (.t 0) },
  { dst := some 21, op := .mv (.t 0) },
  { dst := some 22, op := .nilck (.t 21) },
  { dst := some 23, op := .fa 0 (.t 22) },
  { dst := some 24, op := .ld none (.t 23), pre := [] },
  { dst := some 25, op := .ld (some 8) (.t 4), pre := [] },
  { dst := some 26, op := .call .see (.c (.fn 131 [] [])) [.t 25], pre := [] },
  { dst := some 27, op := .bsl true 1 ([.i .i64 0] ++ List.replicate 7 (.sl [] 0 .rig)) [(0, 8, .t 26)], pre := [] },
  { dst := some 28, op := .app 8 176 (.t 24) (.t 27), pre := [] },
  { dst := some 29, op := .nilck (.t 20) },
  { dst := some 30, op := .fa 0 (.t 29) },
  { dst := none, op := .st 1 (.t 30) (.t 28), pre := [8] }])
 (.seq (.reg false [{ dst := some 31, op := .mv (.t 0) },
  { dst := some 32, op := .mv (.t 0) },
  { dst := some 33, op := .nilck (.t 32) },
  { dst := some 34, op := .fa 0 (.t 33) },
  { dst := some 35, op := .ld none (.t 34) },
  { dst := some 36, op := .len (.t 35) },
  { dst := some 37, op := .bin .gtr (.t 36) (.c (.i .i64 20000)) },
  { dst := some 38, op := .nilck (.t 31) },
  { dst := some 39, op := .fa 1 (.t 38) },
  { dst := none, op := .st 1 (.t 39) (.t 37) }])
 .ret))
 .skip))
 (.seq (.reg false [{ dst := some 6, op := .mv (.c (.b false)) }])
 (.seq (.reg false [{ dst := some 40, op := .fa 3 (.t 4) },
  { dst := some 41, op := .ld none (.t 40) },
  { dst := some 42, op := .mv (.t 2) },
  { dst := some 43, op := .ia 1 (.t 41) (.t 42) },
  { dst := some 44, op := .ld none (.t 43) },
  { dst := some 7, op := .mv (.t 44) }])
 (.seq (.seq (.reg false [{ dst := some 45, op := .fa 0 (.t 4) },
  { dst := some 46, op := .ld none (.t 45) },
  { dst := some 8, op := .mv (.t 46) }])
 (.blk 0 (.loop (.seq (.seq (.reg false [{ dst := some 47, op := .mv (.t 8) },
  { dst := some 48, op := .fa 1 (.t 4) },
  { dst := some 49, op := .ld none (.t 48) },
  { dst := some 50, op := .len (.t 49) },
  { dst := some 51, op := .bin .lss (.t 47) (.t 50) }])
 (.cond (.t 51) .skip
 (.ext 0)))
 (.seq (.blk 1 (.seq (.reg false [{ dst := some 54, op := .fa 1 (.t 4) },
  { dst := some 55, op := .ld none (.t 54) },
  { dst := some 56, op := .mv (.t 8) },
  { dst := some 57, op := .ia 6 (.t 55) (.t 56) },
  { dst := some 58, op := .ld (some 6) (.t 57) },
  { dst := some 9, op := .new (List.replicate 5 (.i .i64 0) ++ [.b false]) },
  { dst := none, op := .st 6 (.t 9) (.t 58) }])
 (.seq (.reg false [{ dst := some 59, op := .fa 1 (.t 9) },
  { dst := some 60, op := .ld none (.t 59) },
  { dst := some 61, op := .bin .neq (.t 60) (.c (.i .i64 2)) },
  { dst := some 62, op := .mv (.t 61) },
  { dst := some 63, op := .fa 3 (.t 9), grd := some (62, false) },
  { dst := some 64, op := .ld none (.t 63), grd := some (62, false) },
  { dst := some 65, op := .mv (.t 2), grd := some (62, false) },
  { dst := some 66, op := .bin .neq (.t 64) (.t 65), grd := some (62, false) },
  { dst := some 67, op := .pick (.t 62) (.c (.b true)) (.t 66) },
  { dst := some 10, op := .mv (.t 67) }])
 (.seq (.seq (.reg false [{ dst := some 11, op := .mv (.c (.i .i64 0)) }])
 (.blk 2 (.loop (.seq (.seq (.reg false [{ dst := some 68, op := .mv (.t 11) },
  { dst := some 69, op := .mv (.t 7) },
  { dst := some 70, op := .len (.t 69) },
  { dst := some 71, op := .bin .lss (.t 68) (.t 70) }])
 (.cond (.t 71) .skip
 (.ext 2)))
 (.seq (.blk 3 (.reg false [{ dst := some 74, op := .mv (.t 10) },
  { dst := some 75, op := .mv (.t 74) },
  { dst := some 76, op := .mv (.t 7), grd := some (75, false) },
  { dst := some 77, op := .mv (.t 11), grd := some (75, false) },
  { dst := some 78, op := .ia 1 (.t 76) (.t 77), grd := some (75, false) },
  { dst := some 79, op := .ld none (.t 78), grd := some (75, false) },
  { dst := some 80, op := .mv (.t 8), grd := some (75, false) },
  { dst := some 81, op := .bin .eql (.t 79) (.t 80), grd := some (75, false) },
  { dst := some 82, op := .pick (.t 75) (.c (.b true)) (.t 81) },
  { dst := some 10, op := .mv (.t 82) }]))
 (.reg false [{ dst := some 72, op := .mv (.t 11) },
  { dst := some 73, op := .bin .add (.t 72) (.c (.i .i64 1)) },
  { dst := some 11, op := .mv (.t 73) }]))))))
 (.seq (.reg false [{ dst := some 83, op := .mv (.t 10) },
  { dst := some 84, op := .un .not (.t 83) }])
 (.cond (.t 84) (.seq (.reg false [{ dst := some 6, op := .mv (.c (.b true)) }])
 (.seq (.reg true [{ dst := some 85, op := .fa 3 (.t 4) },
  { dst := some 86, op := .ld none (.t 85), pre := [] },
  { dst := some 87, op := .mv (.t 2) },
  { dst := some 88, op := .mv (.t 7) },
  { dst := some 89, op := .app 1 8 (.c (.sl [] 0 .rig)) (.t 88), pre := [] },
  { dst := some 90, op := .mv (.t 8) },
  { dst := some 91, op := .bsl true 1 ([.i .i64 0]) [(0, 1, .t 90)], pre := [] },
  { dst := some 92, op := .app 1 8 (.t 89) (.t 91), pre := [4] },
  { dst := some 93, op := .ia 1 (.t 86) (.t 87) },
  { dst := none, op := .st 1 (.t 93) (.t 92), pre := [4, 7] }])
 (.reg false [{ dst := some 94, op := .mv (.t 0) },
  { dst := some 95, op := .ld (some 8) (.t 4) },
  { dst := some 96, op := .mv (.t 2) },
  { dst := some 97, op := .call .raw (.c (.fn 122 [] [])) [.t 94, .t 95, .t 96] }])))
 .skip))))))
 (.reg false [{ dst := some 52, op := .mv (.t 8) },
  { dst := some 53, op := .bin .add (.t 52) (.c (.i .i64 1)) },
  { dst := some 8, op := .mv (.t 53) }]))))))
 (.seq (.reg false [{ dst := some 98, op := .fa 3 (.t 4) },
  { dst := some 99, op := .ld none (.t 98) },
  { dst := some 100, op := .mv (.t 2) },
  { dst := some 101, op := .mv (.t 7) },
  { dst := some 102, op := .ia 1 (.t 99) (.t 100) },
  { dst := none, op := .st 1 (.t 102) (.t 101) }])
 (.seq (.reg false [{ dst := some 103, op := .mv (.t 6) },
  { dst := some 104, op := .un .not (.t 103) }])
 (.cond (.t 104) (.reg false [{ dst := some 105, op := .mv (.t 0) },
  { dst := some 106, op := .ld (some 8) (.t 4) },
  { dst := some 107, op := .mv (.t 2) },
  { dst := some 108, op := .bin .add (.t 107) (.c (.i .i64 1)) },
  { dst := some 109, op := .call .raw (.c (.fn 122 [] [])) [.t 105, .t 106, .t 108] }])
 .skip))))))))) }
def A_xref13_copied : AFun := { res := [.cell 2 (some 8)], body := (.seq (.reg false [{ dst := some 1, op := .box (.t 0) },
  { dst := some 2, op := .new ([.i .i64 0] ++ List.replicate 7 (.sl [] 0 .rig)) }])
 (.seq (.reg false [{ dst := some 5, op := .ld (some 8) (.t 1) },
  { dst := some 3, op := .new ([.i .i64 0] ++ List.replicate 7 (.sl [] 0 .rig)) },
  { dst := none, op := .st 8 (.t 3) (.t 5) }])
 (.seq (.reg false [{ dst := some 6, op := .fa 2 (.t 1) },
  { dst := some 7, op := .ld none (.t 6) },
  { dst := some 8, op := .app 1 8 (.c (.sl [] 0 .rig)) (.t 7) },
  { dst := some 9, op := .fa 2 (.t 3) },
  { dst := none, op := .st 1 (.t 9) (.t 8) }])
 (.seq (.reg false [{ dst := some 10, op := .fa 3 (.t 3) },
  { dst := none, op := .st 1 (.t 10) (.c (.sl [] 0 .rig)) }])
 (.seq (.seq (.reg false [{ dst := some 4, op := .mv (.c (.i .i64 0)) }])
 (.blk 0 (.loop (.seq (.seq (.reg false [{ dst := some 11, op := .mv (.t 4) },
  { dst := some 12, op := .fa 3 (.t 1) },
  { dst := some 13, op := .ld none (.t 12) },
  { dst := some 14, op := .len (.t 13) },
  { dst := some 15, op := .bin .lss (.t 11) (.t 14) }])
 (.cond (.t 15) .skip
 (.ext 0)))
 (.seq (.blk 1 (.reg true [{ dst := some 18, op := .fa 3 (.t 3) },
  { dst := some 19, op := .ld none (.t 18), pre := [] },
  { dst := some 20, op := .fa 3 (.t 1) },
  { dst := some 21, op := .ld none (.t 20), pre := [] },
  { dst := some 22, op := .mv (.t 4) },
  { dst := some 23, op := .ia 1 (.t 21) (.t 22) },
  { dst := some 24, op := .ld none (.t 23), pre := [] },
  { dst := some 25, op := .app 1 8 (.c (.sl [] 0 .rig)) (.t 24), pre := [] },
  { dst := some 26, op := .bsl true 1 ([.sl [] 0 .rig]) [(0, 1, .t 25)], pre := [7] },
  { dst := some 27, op := .app 1 24 (.t 19) (.t 26), pre := [7] },
  { dst := some 28, op := .fa 3 (.t 3) },
  { dst := none, op := .st 1 (.t 28) (.t 27), pre := [7, 9] }]))
 (.reg false [{ dst := some 16, op := .mv (.t 4) },
  { dst := some 17, op := .bin .add (.t 16) (.c (.i .i64 1)) },
  { dst := some 4, op := .mv (.t 17) }]))))))
 (.seq (.reg false [{ dst := some 29, op := .ld (some 8) (.t 3) },
  { dst := none, op := .st 8 (.t 2) (.t 29) }])
 .ret)))))) }
end Go.Ab
end
section
namespace Go.Ab
def A_graph_Po : AFun := { res := [.t 2], body := (.seq (.reg false [{ dst := some 1, op := .box (.t 0) },
  { dst := some 2, op := .mv (.c (.nilp)) }])
 (.seq (.reg false [{ dst := some 3, op := .mv (.c (.sl [] 0 .rig)) }])
 (.seq (.seq (.reg false [{ dst := some 8, op := .fa 1 (.t 1) },
  { dst := some 9, op := .ld none (.t 8) },
  { dst := some 10, op := .len (.t 9) },
  { dst := some 11, op := .mv (.c (.i .i64 0)) }])
 (.blk 0 (.loop (.seq (.reg false [{ dst := some 12, op := .bin .lss (.t 11) (.t 10) }])
 (.seq (.cond (.t 12) .skip
 (.ext 0))
 (.seq (.blk 1 (.seq (.reg false [{ dst := some 13, op := .mv (.t 11) },
  { dst := some 14, op := .ia 6 (.t 9) (.t 11) },
  { dst := some 15, op := .ld (some 6) (.t 14) },
  { dst := some 5, op := .new (List.replicate 5 (.i .i64 0) ++ [.b false]) },
  { dst := some 4, op := .mv (.t 13) },
  { dst := none, op := .st 6 (.t 5) (.t 15) }])
 (.seq (.reg false [{ dst := some 16, op := .fa 1 (.t 1) },
  { dst := some 17, op := .ld none (.t 16) },
  { dst := some 18, op := .len (.t 17) },
  { dst := some 19, op := .mv (.c (.i .i64 0)) }])
 (.blk 2 (.loop (.seq (.reg false [{ dst := some 20, op := .bin .lss (.t 19) (.t 18) }])
 (.seq (.cond (.t 20) .skip
 (.ext 2))
 (.seq (.blk 3 (.seq (.reg false [{ dst := some 21, op := .mv (.t 19) },
  { dst := some 22, op := .ia 6 (.t 17) (.t 19) },
  { dst := some 23, op := .ld (some 6) (.t 22) },
  { dst := some 7, op := .new (List.replicate 5 (.i .i64 0) ++ [.b false]) },
  { dst := some 6, op := .mv (.t 21) },
  { dst := none, op := .st 6 (.t 7) (.t 23) }])
 (.seq (.reg false [{ dst := some 24, op := .fa 0 (.t 5) },
  { dst := some 25, op := .ld none (.t 24) },
  { dst := some 26, op := .bin .eql (.t 25) (.c (.i .i64 0)) },
  { dst := some 27, op := .mv (.t 26) },
  { dst := some 28, op := .fa 0 (.t 7), grd := some (27, true) },
  { dst := some 29, op := .ld none (.t 28), grd := some (27, true) },
  { dst := some 30, op := .bin .neq (.t 29) (.c (.i .i64 0)), grd := some (27, true) },
  { dst := some 31, op := .pick (.t 27) (.t 30) (.c (.b false)) },
  { dst := some 32, op := .mv (.t 31) },
  { dst := some 33, op := .fa 0 (.t 5), grd := some (32, false) },
  { dst := some 34, op := .ld none (.t 33), grd := some (32, false) },
  { dst := some 35, op := .fa 0 (.t 7), grd := some (32, false) },
  { dst := some 36, op := .ld none (.t 35), grd := some (32, false) },
  { dst := some 37, op := .bin .eql (.t 34) (.t 36), grd := some (32, false) },
  { dst := some 38, op := .mv (.t 37), grd := some (32, false) },
  { dst := some 39, op := .fa 0 (.t 5), grd := some (38, true) },
  { dst := some 40, op := .ld none (.t 39), grd := some (38, true) },
  { dst := some 41, op := .bin .neq (.t 40) (.c (.i .i64 0)), grd := some (38, true) },
  { dst := some 42, op := .pick (.t 38) (.t 41) (.c (.b false)), grd := some (32, false) },
  { dst := some 43, op := .mv (.t 42), grd := some (32, false) },
  { dst := some 44, op := .mv (.t 4), grd := some (43, true) },
  { dst := some 45, op := .mv (.t 6), grd := some (43, true) },
  { dst := some 46, op := .bin .lss (.t 44) (.t 45), grd := some (43, true) },
  { dst := some 47, op := .pick (.t 43) (.t 46) (.c (.b false)), grd := some (32, false) },
  { dst := some 48, op := .pick (.t 32) (.c (.b true)) (.t 47) }])
 (.cond (.t 48) (.reg false [{ dst := some 49, op := .mv (.t 3) },
  { dst := some 50, op := .mv (.t 4) },
  { dst := some 51, op := .mv (.t 6) },
  { dst := some 52, op := .build ([.i .i64 0, .i .i64 0]) [(0, 1, .t 50), (1, 1, .t 51)] },
  { dst := some 53, op := .bsl true 1 ([.i .i64 0, .i .i64 0]) [(0, 2, .t 52)] },
  { dst := some 54, op := .app 2 16 (.t 49) (.t 53) },
  { dst := some 3, op := .mv (.t 54) }])
 .skip))))
 (.reg false [{ dst := some 55, op := .bin .add (.t 19) (.c (.i .i64 1)) },
  { dst := some 19, op := .mv (.t 55) }])))))))))
 (.reg false [{ dst := some 56, op := .bin .add (.t 11) (.c (.i .i64 1)) },
  { dst := some 11, op := .mv (.t 56) }])))))))
 (.seq (.reg false [{ dst := some 57, op := .ld (some 8) (.t 1) },
  { dst := some 58, op := .mv (.t 3) },
  { dst := some 59, op := .call .pure (.c (.fn 81 [] [])) [.t 57, .t 58] },
  { dst := some 2, op := .mv (.t 59) }])
 .ret)))) }
def A_graph_Of : AFun := { res := [.t 4], body := (.seq (.reg false [{ dst := some 2, op := .box (.t 0) },
  { dst := some 4, op := .mv (.c (.nilp)) }])
 (.seq (.reg false [{ dst := some 5, op := .fa 1 (.t 2) },
  { dst := some 6, op := .ld none (.t 5) },
  { dst := some 7, op := .len (.t 6) },
  { dst := some 8, op := .mv (.t 1) },
  { dst := some 9, op := .call .pure (.c (.fn 11 [] [])) [.t 7, .t 8] },
  { dst := some 4, op := .mv (.t 9) }])
 .ret)) }
end Go.Ab
end
section
namespace Go.Ab
def A_rel_New : AFun := { res := [.t 4], body := (.seq (.reg false [{ dst := some 4, op := .mv (.c (.nilp)) }])
 (.seq (.reg false [{ dst := some 8, op := .mv (.t 0) },
  { dst := some 9, op := .mn (.t 8) (.c (.i .i64 40)) },
  { dst := some 10, op := .mx (.c (.i .i64 0)) (.t 9) },
  { dst := some 11, op := .build ([.i .i64 0] ++ List.replicate 40 (.i .u64 0)) [(0, 1, .t 10)] },
  { dst := some 12, op := .box (.t 11) },
  { dst := some 5, op := .mv (.t 12) }])
 (.seq (.seq (.reg false [{ dst := some 13, op := .mv (.t 1) },
  { dst := some 14, op := .len (.t 13) },
  { dst := some 15, op := .mv (.c (.i .i64 0)) }])
 (.blk 0 (.loop (.seq (.reg false [{ dst := some 16, op := .bin .lss (.t 15) (.t 14) }])
 (.seq (.cond (.t 16) .skip
 (.ext 0))
 (.seq (.blk 1 (.seq (.reg false [{ dst := some 17, op := .ia 2 (.t 13) (.t 15) },
  { dst := some 18, op := .ld (some 2) (.t 17) },
  { dst := some 7, op := .new ([.i .i64 0, .i .i64 0]) },
  { dst := none, op := .st 2 (.t 7) (.t 18) }])
 (.seq (.reg true [{ dst := some 19, op := .fa 0 (.t 7) },
  { dst := some 20, op := .ld none (.t 19), pre := [] },
  { dst := some 21, op := .bin .geq (.t 20) (.c (.i .i64 0)) },
  { dst := some 22, op := .mv (.t 21) },
  { dst := some 23, op := .fa 0 (.t 7), grd := some (22, true) },
  { dst := some 24, op := .ld none (.t 23), grd := some (22, true), pre := [] },
  { dst := some 25, op := .mv (.t 5), grd := some (22, true) },
  { dst := some 26, op := .nilck (.t 25), grd := some (22, true) },
  { dst := some 27, op := .fa 0 (.t 26), grd := some (22, true) },
  { dst := some 28, op := .ld none (.t 27), grd := some (22, true), pre := [] },
  { dst := some 29, op := .bin .lss (.t 24) (.t 28), grd := some (22, true) },
  { dst := some 30, op := .pick (.t 22) (.t 29) (.c (.b false)) },
  { dst := some 31, op := .mv (.t 30) },
  { dst := some 32, op := .fa 1 (.t 7), grd := some (31, true) },
  { dst := some 33, op := .ld none (.t 32), grd := some (31, true), pre := [] },
  { dst := some 34, op := .bin .geq (.t 33) (.c (.i .i64 0)), grd := some (31, true) },
  { dst := some 35, op := .pick (.t 31) (.t 34) (.c (.b false)) },
  { dst := some 36, op := .mv (.t 35) },
  { dst := some 37, op := .fa 1 (.t 7), grd := some (36, true) },
  { dst := some 38, op := .ld none (.t 37), grd := some (36, true), pre := [] },
  { dst := some 39, op := .mv (.t 5), grd := some (36, true) },
  { dst := some 40, op := .nilck (.t 39), grd := some (36, true) },
  { dst := some 41, op := .fa 0 (.t 40), grd := some (36, true) },
  { dst := some 42, op := .ld none (.t 41), grd := some (36, true), pre := [] },
  { dst := some 43, op := .bin .lss (.t 38) (.t 42), grd := some (36, true) },
  { dst := some 44, op := .pick (.t 36) (.t 43) (.c (.b false)) }])
 (.cond (.t 44) (.reg true [{ dst := some 45, op := .mv (.t 5) },
  { dst := some 46, op := .fa 0 (.t 7) },
  { dst := some 47, op := .ld none (.t 46), pre := [] },
  { dst := some 48, op := .nilck (.t 45) },
  { dst := some 49, op := .fa 1 (.t 48) },
  { dst := some 50, op := .iaa 40 1 (.t 49) (.t 47) },
  { dst := some 51, op := .ld none (.t 50), pre := [] },
  { dst := some 52, op := .fa 1 (.t 7) },
  { dst := some 53, op := .ld none (.t 52), pre := [] },
  { dst := some 54, op := .bin .shl (.c (.i .u64 1)) (.t 53) },
  { dst := some 55, op := .bin .or (.t 51) (.t 54) },
  { dst := some 56, op := .nilck (.t 45) },
  { dst := some 57, op := .fa 1 (.t 56) },
  { dst := some 58, op := .iaa 40 1 (.t 57) (.t 47) },
  { dst := none, op := .st 1 (.t 58) (.t 55), pre := [] }])
 .skip))))
 (.reg false [{ dst := some 59, op := .bin .add (.t 15) (.c (.i .i64 1)) },
  { dst := some 15, op := .mv (.t 59) }])))))))
 (.seq (.reg false [{ dst := some 60, op := .mv (.t 5) },
  { dst := some 4, op := .mv (.t 60) }])
 .ret)))) }
def A_rel_Rel_Plus : AFun := { res := [.t 2], body := (.seq (.reg false [{ dst := some 2, op := .mv (.c (.nilp)) }])
 (.seq (.reg false [{ dst := some 6, op := .mv (.t 0) },
  { dst := some 7, op := .nilck (.t 6) },
  { dst := some 8, op := .ld (some 41) (.t 7) },
  { dst := some 3, op := .new ([.i .i64 0] ++ List.replicate 40 (.i .u64 0)) },
  { dst := none, op := .st 41 (.t 3) (.t 8) }])
 (.seq (.seq (.reg false [{ dst := some 9, op := .mv (.t 0) },
  { dst := some 10, op := .nilck (.t 9) },
  { dst := some 11, op := .fa 0 (.t 10) },
  { dst := some 12, op := .ld none (.t 11) },
  { dst := some 13, op := .mv (.c (.i .i64 0)) }])
 (.blk 0 (.loop (.seq (.reg false [{ dst := some 14, op := .bin .lss (.t 13) (.t 12) }])
 (.seq (.cond (.t 14) .skip
 (.ext 0))
 (.seq (.blk 1 (.seq (.reg false [{ dst := some 15, op := .mv (.t 13) },
  { dst := some 4, op := .mv (.t 15) }])
 (.seq (.reg false [{ dst := some 16, op := .mv (.t 0) },
  { dst := some 17, op := .nilck (.t 16) },
  { dst := some 18, op := .fa 0 (.t 17) },
  { dst := some 19, op := .ld none (.t 18) },
  { dst := some 20, op := .mv (.c (.i .i64 0)) }])
 (.blk 2 (.loop (.seq (.reg false [{ dst := some 21, op := .bin .lss (.t 20) (.t 19) }])
 (.seq (.cond (.t 21) .skip
 (.ext 2))
 (.seq (.blk 3 (.seq (.reg false [{ dst := some 22, op := .mv (.t 20) },
  { dst := some 5, op := .mv (.t 22) }])
 (.seq (.reg false [{ dst := some 23, op := .mv (.t 5) },
  { dst := some 24, op := .mv (.t 4) },
  { dst := some 25, op := .call .pure (.c (.fn 13 [] [])) [.t 3, .t 23, .t 24] }])
 (.cond (.t 25) (.reg true [{ dst := some 26, op := .mv (.t 5) },
  { dst := some 27, op := .fa 1 (.t 3) },
  { dst := some 28, op := .iaa 40 1 (.t 27) (.t 26) },
  { dst := some 29, op := .ld none (.t 28), pre := [] },
  { dst := some 30, op := .mv (.t 4) },
  { dst := some 31, op := .fa 1 (.t 3) },
  { dst := some 32, op := .iaa 40 1 (.t 31) (.t 30) },
  { dst := some 33, op := .ld none (.t 32), pre := [] },
  { dst := some 34, op := .bin .or (.t 29) (.t 33) },
  { dst := some 35, op := .fa 1 (.t 3) },
  { dst := some 36, op := .iaa 40 1 (.t 35) (.t 26) },
  { dst := none, op := .st 1 (.t 36) (.t 34), pre := [] }])
 .skip))))
 (.reg false [{ dst := some 37, op := .bin .add (.t 20) (.c (.i .i64 1)) },
  { dst := some 20, op := .mv (.t 37) }])))))))))
 (.reg false [{ dst := some 38, op := .bin .add (.t 13) (.c (.i .i64 1)) },
  { dst := some 13, op := .mv (.t 38) }])))))))
 (.seq (.reg false [{ dst := some 2, op := .mv (.t 3) }])
 .ret)))) }
def A_rel_Rel_Has : AFun := { res := [.t 6], body := (.seq (.reg false [{ dst := some 6, op := .mv (.c (.b false)) }])
 (.seq (.reg false [{ dst := some 7, op := .mv (.t 1) },
  { dst := some 8, op := .bin .geq (.t 7) (.c (.i .i64 0)) },
  { dst := some 9, op := .mv (.t 8) },
  { dst := some 10, op := .mv (.t 1), grd := some (9, true) },
  { dst := some 11, op := .mv (.t 0), grd := some (9, true) },
  { dst := some 12, op := .nilck (.t 11), grd := some (9, true) },
  { dst := some 13, op := .fa 0 (.t 12), grd := some (9, true) },
  { dst := some 14, op := .ld none (.t 13), grd := some (9, true) },
  { dst := some 15, op := .bin .lss (.t 10) (.t 14), grd := some (9, true) },
  { dst := some 16, op := .pick (.t 9) (.t 15) (.c (.b false)) },
  { dst := some 17, op := .mv (.t 16) },
  { dst := some 18, op := .mv (.t 2), grd := some (17, true) },
  { dst := some 19, op := .bin .geq (.t 18) (.c (.i .i64 0)), grd := some (17, true) },
  { dst := some 20, op := .pick (.t 17) (.t 19) (.c (.b false)) },
  { dst := some 21, op := .mv (.t 20) },
  { dst := some 22, op := .mv (.t 2), grd := some (21, true) },
  { dst := some 23, op := .mv (.t 0), grd := some (21, true) },
  { dst := some 24, op := .nilck (.t 23), grd := some (21, true) },
  { dst := some 25, op := .fa 0 (.t 24), grd := some (21, true) },
  { dst := some 26, op := .ld none (.t 25), grd := some (21, true) },
  { dst := some 27, op := .bin .lss (.t 22) (.t 26), grd := some (21, true) },
  { dst := some 28, op := .pick (.t 21) (.t 27) (.c (.b false)) },
  { dst := some 29, op := .mv (.t 28) },
  { dst := some 30, op := .mv (.t 0), grd := some (29, true) },
  { dst := some 31, op := .mv (.t 1), grd := some (29, true) },
  { dst := some 32, op := .nilck (.t 30), grd := some (29, true) },
  { dst := some 33, op := .fa 1 (.t 32), grd := some (29, true) },
  { dst := some 34, op := .iaa 40 1 (.t 33) (.t 31), grd := some (29, true) },
  { dst := some 35, op := .ld none (.t 34), grd := some (29, true) },
  { dst := some 36, op := .mv (.t 2), grd := some (29, true) },
  { dst := some 37, op := .bin .shr (.t 35) (.t 36), grd := some (29, true) },
  { dst := some 38, op := .bin .and (.t 37) (.c (.i .u64 1)), grd := some (29, true) },
  { dst := some 39, op := .bin .neq (.t 38) (.c (.i .u64 0)), grd := some (29, true) },
  { dst := some 40, op := .pick (.t 29) (.t 39) (.c (.b false)) },
  { dst := some 6, op := .mv (.t 40) }])
 .ret)) }
def A_rel_Rel_Loops : AFun := { res := [.t 2], body := (.seq (.reg false [{ dst := some 2, op := .mv (.c (.b false)) }])
 (.seq (.reg false [{ dst := some 5, op := .mv (.t 0) },
  { dst := some 6, op := .call .pure (.c (.fn 12 [] [])) [.t 5] },
  { dst := some 3, op := .mv (.t 6) }])
 (.seq (.seq (.reg false [{ dst := some 7, op := .mv (.t 0) },
  { dst := some 8, op := .nilck (.t 7) },
  { dst := some 9, op := .fa 0 (.t 8) },
  { dst := some 10, op := .ld none (.t 9) },
  { dst := some 11, op := .mv (.c (.i .i64 0)) }])
 (.blk 0 (.loop (.seq (.reg false [{ dst := some 12, op := .bin .lss (.t 11) (.t 10) }])
 (.seq (.cond (.t 12) .skip
 (.ext 0))
 (.seq (.blk 1 (.seq (.reg false [{ dst := some 13, op := .mv (.t 11) },
  { dst := some 4, op := .mv (.t 13) }])
 (.seq (.reg false [{ dst := some 14, op := .mv (.t 3) },
  { dst := some 15, op := .mv (.t 4) },
  { dst := some 16, op := .mv (.t 4) },
  { dst := some 17, op := .call .pure (.c (.fn 13 [] [])) [.t 14, .t 15, .t 16] }])
 (.cond (.t 17) (.seq (.reg false [{ dst := some 2, op := .mv (.c (.b true)) }])
 .ret)
 .skip))))
 (.reg false [{ dst := some 18, op := .bin .add (.t 11) (.c (.i .i64 1)) },
  { dst := some 11, op := .mv (.t 18) }])))))))
 (.seq (.reg false [{ dst := some 2, op := .mv (.c (.b false)) }])
 .ret)))) }
def A_rel_Rel_Pairs : AFun := { res := [.t 2], body := (.seq (.reg false [{ dst := some 2, op := .mv (.c (.sl [] 0 .rig)) }])
 (.seq (.reg false [{ dst := some 3, op := .mv (.c (.sl [] 0 .rig)) }])
 (.seq (.seq (.reg false [{ dst := some 6, op := .mv (.t 0) },
  { dst := some 7, op := .nilck (.t 6) },
  { dst := some 8, op := .fa 0 (.t 7) },
  { dst := some 9, op := .ld none (.t 8) },
  { dst := some 10, op := .mv (.c (.i .i64 0)) }])
 (.blk 0 (.loop (.seq (.reg false [{ dst := some 11, op := .bin .lss (.t 10) (.t 9) }])
 (.seq (.cond (.t 11) .skip
 (.ext 0))
 (.seq (.blk 1 (.seq (.reg false [{ dst := some 12, op := .mv (.t 10) },
  { dst := some 4, op := .mv (.t 12) }])
 (.seq (.reg false [{ dst := some 13, op := .mv (.t 0) },
  { dst := some 14, op := .nilck (.t 13) },
  { dst := some 15, op := .fa 0 (.t 14) },
  { dst := some 16, op := .ld none (.t 15) },
  { dst := some 17, op := .mv (.c (.i .i64 0)) }])
 (.blk 2 (.loop (.seq (.reg false [{ dst := some 18, op := .bin .lss (.t 17) (.t 16) }])
 (.seq (.cond (.t 18) .skip
 (.ext 2))
 (.seq (.blk 3 (.seq (.reg false [{ dst := some 19, op := .mv (.t 17) },
  { dst := some 5, op := .mv (.t 19) }])
 (.seq (.reg false [{ dst := some 20, op := .mv (.t 0) },
  { dst := some 21, op := .mv (.t 4) },
  { dst := some 22, op := .mv (.t 5) },
  { dst := some 23, op := .call .pure (.c (.fn 13 [] [])) [.t 20, .t 21, .t 22] }])
 (.cond (.t 23) (.reg false [{ dst := some 24, op := .mv (.t 3) },
  { dst := some 25, op := .mv (.t 4) },
  { dst := some 26, op := .mv (.t 5) },
  { dst := some 27, op := .build ([.i .i64 0, .i .i64 0]) [(0, 1, .t 25), (1, 1, .t 26)] },
  { dst := some 28, op := .bsl true 1 ([.i .i64 0, .i .i64 0]) [(0, 2, .t 27)] },
  { dst := some 29, op := .app 2 16 (.t 24) (.t 28) },
  { dst := some 3, op := .mv (.t 29) }])
 .skip))))
 (.reg false [{ dst := some 30, op := .bin .add (.t 17) (.c (.i .i64 1)) },
  { dst := some 17, op := .mv (.t 30) }])))))))))
 (.reg false [{ dst := some 31, op := .bin .add (.t 10) (.c (.i .i64 1)) },
  { dst := some 10, op := .mv (.t 31) }])))))))
 (.seq (.reg false [{ dst := some 32, op := .mv (.t 3) },
  { dst := some 2, op := .mv (.t 32) }])
 .ret)))) }
def A_rel_Rel_Maybe : AFun := { res := [.t 2], body := (.seq (.reg false [{ dst := some 2, op := .mv (.c (.nilp)) }])
 (.seq (.reg false [{ dst := some 5, op := .mv (.t 0) },
  { dst := some 6, op := .nilck (.t 5) },
  { dst := some 7, op := .ld (some 41) (.t 6) },
  { dst := some 3, op := .new ([.i .i64 0] ++ List.replicate 40 (.i .u64 0)) },
  { dst := none, op := .st 41 (.t 3) (.t 7) }])
 (.seq (.seq (.reg false [{ dst := some 8, op := .mv (.t 0) },
  { dst := some 9, op := .nilck (.t 8) },
  { dst := some 10, op := .fa 0 (.t 9) },
  { dst := some 11, op := .ld none (.t 10) },
  { dst := some 12, op := .mv (.c (.i .i64 0)) }])
 (.blk 0 (.loop (.seq (.reg false [{ dst := some 13, op := .bin .lss (.t 12) (.t 11) }])
 (.seq (.cond (.t 13) .skip
 (.ext 0))
 (.seq (.blk 1 (.seq (.reg false [{ dst := some 14, op := .mv (.t 12) },
  { dst := some 4, op := .mv (.t 14) }])
 (.reg true [{ dst := some 15, op := .mv (.t 4) },
  { dst := some 16, op := .fa 1 (.t 3) },
  { dst := some 17, op := .iaa 40 1 (.t 16) (.t 15) },
  { dst := some 18, op := .ld none (.t 17), pre := [] },
  { dst := some 19, op := .mv (.t 4) },
  { dst := some 20, op := .bin .shl (.c (.i .u64 1)) (.t 19) },
  { dst := some 21, op := .bin .or (.t 18) (.t 20) },
  { dst := some 22, op := .fa 1 (.t 3) },
  { dst := some 23, op := .iaa 40 1 (.t 22) (.t 15) },
  { dst := none, op := .st 1 (.t 23) (.t 21), pre := [] }])))
 (.reg false [{ dst := some 24, op := .bin .add (.t 12) (.c (.i .i64 1)) },
  { dst := some 12, op := .mv (.t 24) }])))))))
 (.seq (.reg false [{ dst := some 2, op := .mv (.t 3) }])
 .ret)))) }
def A_rel_Rel_Len : AFun := { res := [.t 2], body := (.seq (.reg false [{ dst := some 2, op := .mv (.c (.i .i64 0)) }])
 (.seq (.reg false [{ dst := some 3, op := .mv (.t 0) },
  { dst := some 4, op := .nilck (.t 3) },
  { dst := some 5, op := .fa 0 (.t 4) },
  { dst := some 6, op := .ld none (.t 5) },
  { dst := some 2, op := .mv (.t 6) }])
 .ret)) }
def A_rel_Rel_And : AFun := { res := [.t 4], body := (.seq (.reg false [{ dst := some 4, op := .mv (.c (.nilp)) }])
 (.seq (.reg false [{ dst := some 5, op := .mv (.t 0) },
  { dst := some 6, op := .mv (.t 1) },
  { dst := some 7, op := .call .pure (.c (.fn 51 [] [])) [.t 5, .t 6, .c (.fn 52 [] [])] },
  { dst := some 4, op := .mv (.t 7) }])
 .ret)) }
def A_rel_Rel_Then : AFun := { res := [.t 4], body := (.seq (.reg false [{ dst := some 4, op := .mv (.c (.nilp)) }])
 (.seq (.reg true [{ dst := some 8, op := .mv (.t 0) },
  { dst := some 9, op := .nilck (.t 8) },
  { dst := some 10, op := .fa 0 (.t 9) },
  { dst := some 11, op := .ld none (.t 10), pre := [] },
  { dst := some 12, op := .mv (.t 1) },
  { dst := some 13, op := .nilck (.t 12) },
  { dst := some 14, op := .fa 0 (.t 13) },
  { dst := some 15, op := .ld none (.t 14), pre := [] },
  { dst := some 16, op := .mx (.t 11) (.t 15) },
  { dst := some 17, op := .build ([.i .i64 0] ++ List.replicate 40 (.i .u64 0)) [(0, 1, .t 16)] },
  { dst := some 18, op := .box (.t 17) },
  { dst := some 5, op := .mv (.t 18) }])
 (.seq (.seq (.reg false [{ dst := some 19, op := .mv (.t 0) },
  { dst := some 20, op := .nilck (.t 19) },
  { dst := some 21, op := .fa 0 (.t 20) },
  { dst := some 22, op := .ld none (.t 21) },
  { dst := some 23, op := .mv (.c (.i .i64 0)) }])
 (.blk 0 (.loop (.seq (.reg false [{ dst := some 24, op := .bin .lss (.t 23) (.t 22) }])
 (.seq (.cond (.t 24) .skip
 (.ext 0))
 (.seq (.blk 1 (.seq (.reg false [{ dst := some 25, op := .mv (.t 23) },
  { dst := some 6, op := .mv (.t 25) }])
 (.seq (.reg false [{ dst := some 26, op := .mv (.t 0) },
  { dst := some 27, op := .nilck (.t 26) },
  { dst := some 28, op := .fa 0 (.t 27) },
  { dst := some 29, op := .ld none (.t 28) },
  { dst := some 30, op := .mv (.c (.i .i64 0)) }])
 (.blk 2 (.loop (.seq (.reg false [{ dst := some 31, op := .bin .lss (.t 30) (.t 29) }])
 (.seq (.cond (.t 31) .skip
 (.ext 2))
 (.seq (.blk 3 (.seq (.reg false [{ dst := some 32, op := .mv (.t 30) },
  { dst := some 7, op := .mv (.t 32) }])
 (.seq (.reg false [{ dst := some 33, op := .mv (.t 0) },
  { dst := some 34, op := .mv (.t 6) },
  { dst := some 35, op := .mv (.t 7) },
  { dst := some 36, op := .call .pure (.c (.fn 13 [] [])) [.t 33, .t 34, .t 35] }])
 (.cond (.t 36) (.reg true [{ dst := some 37, op := .mv (.t 5) },
  { dst := some 38, op := .mv (.t 6) },
  { dst := some 39, op := .nilck (.t 37) },
  { dst := some 40, op := .fa 1 (.t 39) },
  { dst := some 41, op := .iaa 40 1 (.t 40) (.t 38) },
  { dst := some 42, op := .ld none (.t 41), pre := [] },
  { dst := some 43, op := .mv (.t 1) },
  { dst := some 44, op := .mv (.t 7) },
  { dst := some 45, op := .nilck (.t 43) },
  { dst := some 46, op := .fa 1 (.t 45) },
  { dst := some 47, op := .iaa 40 1 (.t 46) (.t 44) },
  { dst := some 48, op := .ld none (.t 47), pre := [] },
  { dst := some 49, op := .bin .or (.t 42) (.t 48) },
  { dst := some 50, op := .nilck (.t 37) },
  { dst := some 51, op := .fa 1 (.t 50) },
  { dst := some 52, op := .iaa 40 1 (.t 51) (.t 38) },
  { dst := none, op := .st 1 (.t 52) (.t 49), pre := [] }])
 .skip))))
 (.reg false [{ dst := some 53, op := .bin .add (.t 30) (.c (.i .i64 1)) },
  { dst := some 30, op := .mv (.t 53) }])))))))))
 (.reg false [{ dst := some 54, op := .bin .add (.t 23) (.c (.i .i64 1)) },
  { dst := some 23, op := .mv (.t 54) }])))))))
 (.seq (.reg false [{ dst := some 55, op := .mv (.t 5) },
  { dst := some 4, op := .mv (.t 55) }])
 .ret)))) }
def A_rel_Rel_Or : AFun := { res := [.t 4], body := (.seq (.reg false [{ dst := some 4, op := .mv (.c (.nilp)) }])
 (.seq (.reg false [{ dst := some 5, op := .mv (.t 0) },
  { dst := some 6, op := .mv (.t 1) },
  { dst := some 7, op := .call .pure (.c (.fn 51 [] [])) [.t 5, .t 6, .c (.fn 53 [] [])] },
  { dst := some 4, op := .mv (.t 7) }])
 .ret)) }
def A_rel_Rel_by : AFun := { res := [.t 6], body := (.seq (.reg false [{ dst := some 6, op := .mv (.c (.nilp)) }])
 (.seq (.reg true [{ dst := some 9, op := .mv (.t 0) },
  { dst := some 10, op := .nilck (.t 9) },
  { dst := some 11, op := .fa 0 (.t 10) },
  { dst := some 12, op := .ld none (.t 11), pre := [] },
  { dst := some 13, op := .mv (.t 1) },
  { dst := some 14, op := .nilck (.t 13) },
  { dst := some 15, op := .fa 0 (.t 14) },
  { dst := some 16, op := .ld none (.t 15), pre := [] },
  { dst := some 17, op := .mx (.t 12) (.t 16) },
  { dst := some 18, op := .build ([.i .i64 0] ++ List.replicate 40 (.i .u64 0)) [(0, 1, .t 17)] },
  { dst := some 19, op := .box (.t 18) },
  { dst := some 7, op := .mv (.t 19) }])
 (.seq (.seq (.reg false [{ dst := some 20, op := .mv (.c (.i .i64 0)) }])
 (.blk 0 (.loop (.seq (.reg false [{ dst := some 21, op := .bin .lss (.t 20) (.c (.i .i64 40)) }])
 (.seq (.cond (.t 21) .skip
 (.ext 0))
 (.seq (.blk 1 (.seq (.reg false [{ dst := some 22, op := .mv (.t 20) },
  { dst := some 8, op := .mv (.t 22) }])
 (.reg true [{ dst := some 23, op := .mv (.t 7) },
  { dst := some 24, op := .mv (.t 8) },
  { dst := some 25, op := .mv (.t 2) },
  { dst := some 26, op := .mv (.t 0) },
  { dst := some 27, op := .mv (.t 8) },
  { dst := some 28, op := .nilck (.t 26) },
  { dst := some 29, op := .fa 1 (.t 28) },
  { dst := some 30, op := .iaa 40 1 (.t 29) (.t 27) },
  { dst := some 31, op := .ld none (.t 30), pre := [] },
  { dst := some 32, op := .mv (.t 1) },
  { dst := some 33, op := .mv (.t 8) },
  { dst := some 34, op := .nilck (.t 32) },
  { dst := some 35, op := .fa 1 (.t 34) },
  { dst := some 36, op := .iaa 40 1 (.t 35) (.t 33) },
  { dst := some 37, op := .ld none (.t 36), pre := [] },
  { dst := some 38, op := .call .pure (.t 25) [.t 31, .t 37], pre := [] },
  { dst := some 39, op := .nilck (.t 23) },
  { dst := some 40, op := .fa 1 (.t 39) },
  { dst := some 41, op := .iaa 40 1 (.t 40) (.t 24) },
  { dst := none, op := .st 1 (.t 41) (.t 38), pre := [] }])))
 (.reg false [{ dst := some 42, op := .bin .add (.t 20) (.c (.i .i64 1)) },
  { dst := some 20, op := .mv (.t 42) }])))))))
 (.seq (.reg false [{ dst := some 43, op := .mv (.t 7) },
  { dst := some 6, op := .mv (.t 43) }])
 .ret)))) }
def A_rel_Rel_And_1 : AFun := { res := [.t 4], body := (.seq (.reg false [{ dst := some 4, op := .mv (.c (.i .u64 0)) }])
 (.seq (.reg false [{ dst := some 5, op := .mv (.t 0) },
  { dst := some 6, op := .mv (.t 1) },
  { dst := some 7, op := .bin .and (.t 5) (.t 6) },
  { dst := some 4, op := .mv (.t 7) }])
 .ret)) }
def A_rel_Rel_Or_1 : AFun := { res := [.t 4], body := (.seq (.reg false [{ dst := some 4, op := .mv (.c (.i .u64 0)) }])
 (.seq (.reg false [{ dst := some 5, op := .mv (.t 0) },
  { dst := some 6, op := .mv (.t 1) },
  { dst := some 7, op := .bin .or (.t 5) (.t 6) },
  { dst := some 4, op := .mv (.t 7) }])
 .ret)) }
structure Pk_rel (F : Funs) : Prop where
  rel_New : F 11 = some A_rel_New
  rel_Rel_Plus : F 12 = some A_rel_Rel_Plus
  rel_Rel_Has : F 13 = some A_rel_Rel_Has
  rel_Rel_Loops : F 14 = some A_rel_Rel_Loops
  rel_Rel_Pairs : F 15 = some A_rel_Rel_Pairs
  rel_Rel_Maybe : F 16 = some A_rel_Rel_Maybe
  rel_Rel_Len : F 17 = some A_rel_Rel_Len
  rel_Rel_And : F 18 = some A_rel_Rel_And
  rel_Rel_Then : F 23 = some A_rel_Rel_Then
  rel_Rel_Or : F 24 = some A_rel_Rel_Or
  rel_Rel_by : F 51 = some A_rel_Rel_by
  rel_Rel_And_1 : F 52 = some A_rel_Rel_And_1
  rel_Rel_Or_1 : F 53 = some A_rel_Rel_Or_1
end Go.Ab
end
section
set_option maxRecDepth 100000
set_option linter.unusedVariables false
namespace Go.Proofs.Ytippmjhokhjjiaa
open Go.Ab
def tab : List (Nat × Nat × AFun) := [(7, 6, A_xlaw09_EcoNumbers),
 (10, 11, A_xlaw00_Place),
 (11, 23, A_rel_New),
 (12, 15, A_rel_Rel_Plus),
 (13, 36, A_rel_Rel_Has),
 (14, 21, A_rel_Rel_Loops),
 (15, 47, A_rel_Rel_Pairs),
 (16, 32, A_rel_Rel_Maybe),
 (17, 70, A_rel_Rel_Len),
 (18, 19, A_rel_Rel_And),
 (23, 16, A_rel_Rel_Then),
 (24, 17, A_rel_Rel_Or),
 (27, 24, A_xref01_New),
 (29, 26, A_xref01_R_Or),
 (30, 27, A_xref01_R_And),
 (32, 29, A_xref01_R_Then),
 (33, 30, A_xref01_R_Back),
 (34, 31, A_xref01_R_Plus),
 (35, 33, A_xref01_R_Maybe),
 (39, 48, A_eco_Inner),
 (40, 49, A_eco_Outer),
 (41, 79, A_eco_Loc),
 (42, 43, A_eco_Eco),
 (43, 40, A_xlaw09_awake),
 (45, 39, A_xref06_Check),
 (46, 41, A_xlaw09_all),
 (47, 42, A_xlaw09_one),
 (48, 45, A_eco_Rf),
 (49, 44, A_eco_Co),
 (50, 46, A_eco_Fr),
 (51, 66, A_rel_Rel_by),
 (52, 68, A_rel_Rel_And_1),
 (53, 67, A_rel_Rel_Or_1),
 (55, 71, A_xref01_SamePairs),
 (56, 72, A_xref01_R_Pairs),
 (57, 89, A_eco_some),
 (58, 90, A_eco_Inner_1),
 (59, 91, A_eco_Outer_1),
 (60, 54, A_graph_Po),
 (61, 113, A_eco_Loc_1),
 (62, 78, A_xlaw09_two),
 (63, 73, A_xref06_event),
 (64, 74, A_xref06_rf),
 (65, 75, A_xref06_co),
 (66, 76, A_xref06_rmw),
 (67, 77, A_xref06_deps),
 (68, 80, A_xlaw09_same),
 (69, 81, A_xref09_Rf),
 (70, 82, A_xref09_Co),
 (71, 83, A_xref09_Fr),
 (72, 84, A_xref09_Eco),
 (73, 85, A_xref09_Loc),
 (74, 86, A_xref09_Inner),
 (75, 87, A_xref09_Outer),
 (76, 58, A_xlaw00_Small),
 (77, 59, A_xlaw00_Loads),
 (78, 61, A_xref13_All),
 (79, 62, A_xlaw00_Domain),
 (80, 88, A_eco_pairs),
 (81, 99, A_graph_Of),
 (82, 112, A_xref06_rising),
 (83, 114, A_xref09_Com),
 (84, 115, A_xref06_Po),
 (85, 116, A_xref09_part),
 (86, 102, A_xlaw00_Prog),
 (87, 107, A_xref04_Check),
 (88, 108, A_xref13_Values),
 (89, 109, A_xref13_Lots),
 (90, 110, A_xref07_Skeleton),
 (91, 111, A_xref13_E_Finish),
 (92, 117, A_eco_pairs_1),
 (93, 118, A_eco_pairs_2),
 (94, 119, A_eco_pairs_3),
 (95, 120, A_eco_pairs_4),
 (96, 121, A_eco_pairs_5),
 (97, 131, A_xlaw00_Instr),
 (98, 140, A_xref04_Instr),
 (99, 141, A_xref04_Events),
 (100, 142, A_xref04_Paths),
 (101, 143, A_xref13_values),
 (102, 144, A_xref13_Domain),
 (103, 145, A_xref07_First),
 (104, 146, A_xref05_Do),
 (105, 147, A_xref07_Lay),
 (106, 148, A_xref13_E_rf),
 (107, 150, A_xlaw00_Expr),
 (108, 151, A_xlaw00_num),
 (109, 156, A_xref02_Check),
 (110, 157, A_xref04_Uses),
 (111, 158, A_xref03_SameInstr),
 (112, 159, A_xref05_Start),
 (113, 160, A_xref05_S_Read),
 (114, 161, A_xref05_S_Write),
 (115, 162, A_xref02_Eval),
 (116, 163, A_xref05_S_Of),
 (117, 164, A_xref05_S_Event),
 (118, 165, A_xref05_S_faa),
 (119, 166, A_xref05_S_Move),
 (120, 167, A_xref05_S_Skip),
 (121, 168, A_xref07_moved),
 (122, 169, A_xref13_E_co),
 (123, 170, A_xlaw00_reg),
 (124, 171, A_xlaw00_op),
 (125, 183, A_xref02_word),
 (126, 184, A_xref02_Regs),
 (127, 185, A_xref02_Same),
 (128, 186, A_xref02_Do),
 (129, 187, A_xref05_Both),
 (130, 188, A_xref05_pairs),
 (131, 189, A_xref13_copied),
 (132, 196, A_xref05_Put)]
def num (f : Nat) : Nat := ((tab.find? (fun r => r.1 == f)).map (·.2.1)).getD 0
def funs : Funs := fun f => (tab.find? (fun r => r.1 == f)).map (·.2.2)
theorem c7 : funB Try.prog num Try.f6 A_xlaw09_EcoNumbers = true := by kernel_rfl
theorem c10 : funB Try.prog num Try.f11 A_xlaw00_Place = true := by kernel_rfl
theorem c11 : funB Try.prog num Try.f23 A_rel_New = true := by kernel_rfl
theorem c12 : funB Try.prog num Try.f15 A_rel_Rel_Plus = true := by kernel_rfl
theorem c13 : funB Try.prog num Try.f36 A_rel_Rel_Has = true := by kernel_rfl
theorem c14 : funB Try.prog num Try.f21 A_rel_Rel_Loops = true := by kernel_rfl
theorem c15 : funB Try.prog num Try.f47 A_rel_Rel_Pairs = true := by kernel_rfl
theorem c16 : funB Try.prog num Try.f32 A_rel_Rel_Maybe = true := by kernel_rfl
theorem c17 : funB Try.prog num Try.f70 A_rel_Rel_Len = true := by kernel_rfl
theorem c18 : funB Try.prog num Try.f19 A_rel_Rel_And = true := by kernel_rfl
theorem c23 : funB Try.prog num Try.f16 A_rel_Rel_Then = true := by kernel_rfl
theorem c24 : funB Try.prog num Try.f17 A_rel_Rel_Or = true := by kernel_rfl
theorem c27 : funB Try.prog num Try.f24 A_xref01_New = true := by kernel_rfl
theorem c29 : funB Try.prog num Try.f26 A_xref01_R_Or = true := by kernel_rfl
theorem c30 : funB Try.prog num Try.f27 A_xref01_R_And = true := by kernel_rfl
theorem c32 : funB Try.prog num Try.f29 A_xref01_R_Then = true := by kernel_rfl
theorem c33 : funB Try.prog num Try.f30 A_xref01_R_Back = true := by kernel_rfl
theorem c34 : funB Try.prog num Try.f31 A_xref01_R_Plus = true := by kernel_rfl
theorem c35 : funB Try.prog num Try.f33 A_xref01_R_Maybe = true := by kernel_rfl
theorem c39 : funB Try.prog num Try.f48 A_eco_Inner = true := by kernel_rfl
theorem c40 : funB Try.prog num Try.f49 A_eco_Outer = true := by kernel_rfl
theorem c41 : funB Try.prog num Try.f79 A_eco_Loc = true := by kernel_rfl
theorem c42 : funB Try.prog num Try.f43 A_eco_Eco = true := by kernel_rfl
theorem c43 : funB Try.prog num Try.f40 A_xlaw09_awake = true := by kernel_rfl
theorem c45 : funB Try.prog num Try.f39 A_xref06_Check = true := by kernel_rfl
theorem c46 : funB Try.prog num Try.f41 A_xlaw09_all = true := by kernel_rfl
theorem c47 : funB Try.prog num Try.f42 A_xlaw09_one = true := by kernel_rfl
theorem c48 : funB Try.prog num Try.f45 A_eco_Rf = true := by kernel_rfl
theorem c49 : funB Try.prog num Try.f44 A_eco_Co = true := by kernel_rfl
theorem c50 : funB Try.prog num Try.f46 A_eco_Fr = true := by kernel_rfl
theorem c51 : funB Try.prog num Try.f66 A_rel_Rel_by = true := by kernel_rfl
theorem c52 : funB Try.prog num Try.f68 A_rel_Rel_And_1 = true := by kernel_rfl
theorem c53 : funB Try.prog num Try.f67 A_rel_Rel_Or_1 = true := by kernel_rfl
theorem c55 : funB Try.prog num Try.f71 A_xref01_SamePairs = true := by kernel_rfl
theorem c56 : funB Try.prog num Try.f72 A_xref01_R_Pairs = true := by kernel_rfl
theorem c57 : funB Try.prog num Try.f89 A_eco_some = true := by kernel_rfl
theorem c58 : funB Try.prog num Try.f90 A_eco_Inner_1 = true := by kernel_rfl
theorem c59 : funB Try.prog num Try.f91 A_eco_Outer_1 = true := by kernel_rfl
theorem c60 : funB Try.prog num Try.f54 A_graph_Po = true := by kernel_rfl
theorem c61 : funB Try.prog num Try.f113 A_eco_Loc_1 = true := by kernel_rfl
theorem c62 : funB Try.prog num Try.f78 A_xlaw09_two = true := by kernel_rfl
theorem c63 : funB Try.prog num Try.f73 A_xref06_event = true := by kernel_rfl
theorem c64 : funB Try.prog num Try.f74 A_xref06_rf = true := by kernel_rfl
theorem c65 : funB Try.prog num Try.f75 A_xref06_co = true := by kernel_rfl
theorem c66 : funB Try.prog num Try.f76 A_xref06_rmw = true := by kernel_rfl
theorem c67 : funB Try.prog num Try.f77 A_xref06_deps = true := by kernel_rfl
theorem c68 : funB Try.prog num Try.f80 A_xlaw09_same = true := by kernel_rfl
theorem c69 : funB Try.prog num Try.f81 A_xref09_Rf = true := by kernel_rfl
theorem c70 : funB Try.prog num Try.f82 A_xref09_Co = true := by kernel_rfl
theorem c71 : funB Try.prog num Try.f83 A_xref09_Fr = true := by kernel_rfl
theorem c72 : funB Try.prog num Try.f84 A_xref09_Eco = true := by kernel_rfl
theorem c73 : funB Try.prog num Try.f85 A_xref09_Loc = true := by kernel_rfl
theorem c74 : funB Try.prog num Try.f86 A_xref09_Inner = true := by kernel_rfl
theorem c75 : funB Try.prog num Try.f87 A_xref09_Outer = true := by kernel_rfl
theorem c76 : funB Try.prog num Try.f58 A_xlaw00_Small = true := by kernel_rfl
theorem c77 : funB Try.prog num Try.f59 A_xlaw00_Loads = true := by kernel_rfl
theorem c78 : funB Try.prog num Try.f61 A_xref13_All = true := by kernel_rfl
theorem c79 : funB Try.prog num Try.f62 A_xlaw00_Domain = true := by kernel_rfl
theorem c80 : funB Try.prog num Try.f88 A_eco_pairs = true := by kernel_rfl
theorem c81 : funB Try.prog num Try.f99 A_graph_Of = true := by kernel_rfl
theorem c82 : funB Try.prog num Try.f112 A_xref06_rising = true := by kernel_rfl
theorem c83 : funB Try.prog num Try.f114 A_xref09_Com = true := by kernel_rfl
theorem c84 : funB Try.prog num Try.f115 A_xref06_Po = true := by kernel_rfl
theorem c85 : funB Try.prog num Try.f116 A_xref09_part = true := by kernel_rfl
theorem c86 : funB Try.prog num Try.f102 A_xlaw00_Prog = true := by kernel_rfl
theorem c87 : funB Try.prog num Try.f107 A_xref04_Check = true := by kernel_rfl
theorem c88 : funB Try.prog num Try.f108 A_xref13_Values = true := by kernel_rfl
theorem c89 : funB Try.prog num Try.f109 A_xref13_Lots = true := by kernel_rfl
theorem c90 : funB Try.prog num Try.f110 A_xref07_Skeleton = true := by kernel_rfl
theorem c91 : funB Try.prog num Try.f111 A_xref13_E_Finish = true := by kernel_rfl
theorem c92 : funB Try.prog num Try.f117 A_eco_pairs_1 = true := by kernel_rfl
theorem c93 : funB Try.prog num Try.f118 A_eco_pairs_2 = true := by kernel_rfl
theorem c94 : funB Try.prog num Try.f119 A_eco_pairs_3 = true := by kernel_rfl
theorem c95 : funB Try.prog num Try.f120 A_eco_pairs_4 = true := by kernel_rfl
theorem c96 : funB Try.prog num Try.f121 A_eco_pairs_5 = true := by kernel_rfl
theorem c97 : funB Try.prog num Try.f131 A_xlaw00_Instr = true := by kernel_rfl
theorem c98 : funB Try.prog num Try.f140 A_xref04_Instr = true := by kernel_rfl
theorem c99 : funB Try.prog num Try.f141 A_xref04_Events = true := by kernel_rfl
theorem c100 : funB Try.prog num Try.f142 A_xref04_Paths = true := by kernel_rfl
theorem c101 : funB Try.prog num Try.f143 A_xref13_values = true := by kernel_rfl
theorem c102 : funB Try.prog num Try.f144 A_xref13_Domain = true := by kernel_rfl
theorem c103 : funB Try.prog num Try.f145 A_xref07_First = true := by kernel_rfl
theorem c104 : funB Try.prog num Try.f146 A_xref05_Do = true := by kernel_rfl
theorem c105 : funB Try.prog num Try.f147 A_xref07_Lay = true := by kernel_rfl
theorem c106 : funB Try.prog num Try.f148 A_xref13_E_rf = true := by kernel_rfl
theorem c107 : funB Try.prog num Try.f150 A_xlaw00_Expr = true := by kernel_rfl
theorem c108 : funB Try.prog num Try.f151 A_xlaw00_num = true := by kernel_rfl
theorem c109 : funB Try.prog num Try.f156 A_xref02_Check = true := by kernel_rfl
theorem c110 : funB Try.prog num Try.f157 A_xref04_Uses = true := by kernel_rfl
theorem c111 : funB Try.prog num Try.f158 A_xref03_SameInstr = true := by kernel_rfl
theorem c112 : funB Try.prog num Try.f159 A_xref05_Start = true := by kernel_rfl
theorem c113 : funB Try.prog num Try.f160 A_xref05_S_Read = true := by kernel_rfl
theorem c114 : funB Try.prog num Try.f161 A_xref05_S_Write = true := by kernel_rfl
theorem c115 : funB Try.prog num Try.f162 A_xref02_Eval = true := by kernel_rfl
theorem c116 : funB Try.prog num Try.f163 A_xref05_S_Of = true := by kernel_rfl
theorem c117 : funB Try.prog num Try.f164 A_xref05_S_Event = true := by kernel_rfl
theorem c118 : funB Try.prog num Try.f165 A_xref05_S_faa = true := by kernel_rfl
theorem c119 : funB Try.prog num Try.f166 A_xref05_S_Move = true := by kernel_rfl
theorem c120 : funB Try.prog num Try.f167 A_xref05_S_Skip = true := by kernel_rfl
theorem c121 : funB Try.prog num Try.f168 A_xref07_moved = true := by kernel_rfl
theorem c122 : funB Try.prog num Try.f169 A_xref13_E_co = true := by kernel_rfl
theorem c123 : funB Try.prog num Try.f170 A_xlaw00_reg = true := by kernel_rfl
theorem c124 : funB Try.prog num Try.f171 A_xlaw00_op = true := by kernel_rfl
theorem c125 : funB Try.prog num Try.f183 A_xref02_word = true := by kernel_rfl
theorem c126 : funB Try.prog num Try.f184 A_xref02_Regs = true := by kernel_rfl
theorem c127 : funB Try.prog num Try.f185 A_xref02_Same = true := by kernel_rfl
theorem c128 : funB Try.prog num Try.f186 A_xref02_Do = true := by kernel_rfl
theorem c129 : funB Try.prog num Try.f187 A_xref05_Both = true := by kernel_rfl
theorem c130 : funB Try.prog num Try.f188 A_xref05_pairs = true := by kernel_rfl
theorem c131 : funB Try.prog num Try.f189 A_xref13_copied = true := by kernel_rfl
theorem c132 : funB Try.prog num Try.f196 A_xref05_Put = true := by kernel_rfl
def Good (r : Nat × Nat × AFun) : Prop := num r.1 = r.2.1 ∧ ∃ fn, Try.prog.funcs[r.2.1]? = some fn ∧ funB Try.prog num fn r.2.2 = true
theorem good : ∀ r ∈ tab, Good r := by
  intro r hr
  unfold tab at hr
  rcases List.mem_cons.1 hr with rfl | hr
  · exact ⟨by kernel_rfl, _, Try.func6, c7⟩
  rcases List.mem_cons.1 hr with rfl | hr
  · exact ⟨by kernel_rfl, _, Try.func11, c10⟩
  rcases List.mem_cons.1 hr with rfl | hr
  · exact ⟨by kernel_rfl, _, Try.func23, c11⟩
  rcases List.mem_cons.1 hr with rfl | hr
  · exact ⟨by kernel_rfl, _, Try.func15, c12⟩
  rcases List.mem_cons.1 hr with rfl | hr
  · exact ⟨by kernel_rfl, _, Try.func36, c13⟩
  rcases List.mem_cons.1 hr with rfl | hr
  · exact ⟨by kernel_rfl, _, Try.func21, c14⟩
  rcases List.mem_cons.1 hr with rfl | hr
  · exact ⟨by kernel_rfl, _, Try.func47, c15⟩
  rcases List.mem_cons.1 hr with rfl | hr
  · exact ⟨by kernel_rfl, _, Try.func32, c16⟩
  rcases List.mem_cons.1 hr with rfl | hr
  · exact ⟨by kernel_rfl, _, Try.func70, c17⟩
  rcases List.mem_cons.1 hr with rfl | hr
  · exact ⟨by kernel_rfl, _, Try.func19, c18⟩
  rcases List.mem_cons.1 hr with rfl | hr
  · exact ⟨by kernel_rfl, _, Try.func16, c23⟩
  rcases List.mem_cons.1 hr with rfl | hr
  · exact ⟨by kernel_rfl, _, Try.func17, c24⟩
  rcases List.mem_cons.1 hr with rfl | hr
  · exact ⟨by kernel_rfl, _, Try.func24, c27⟩
  rcases List.mem_cons.1 hr with rfl | hr
  · exact ⟨by kernel_rfl, _, Try.func26, c29⟩
  rcases List.mem_cons.1 hr with rfl | hr
  · exact ⟨by kernel_rfl, _, Try.func27, c30⟩
  rcases List.mem_cons.1 hr with rfl | hr
  · exact ⟨by kernel_rfl, _, Try.func29, c32⟩
  rcases List.mem_cons.1 hr with rfl | hr
  · exact ⟨by kernel_rfl, _, Try.func30, c33⟩
  rcases List.mem_cons.1 hr with rfl | hr
  · exact ⟨by kernel_rfl, _, Try.func31, c34⟩
  rcases List.mem_cons.1 hr with rfl | hr
  · exact ⟨by kernel_rfl, _, Try.func33, c35⟩
  rcases List.mem_cons.1 hr with rfl | hr
  · exact ⟨by kernel_rfl, _, Try.func48, c39⟩
  rcases List.mem_cons.1 hr with rfl | hr
  · exact ⟨by kernel_rfl, _, Try.func49, c40⟩
  rcases List.mem_cons.1 hr with rfl | hr
  · exact ⟨by kernel_rfl, _, Try.func79, c41⟩
  rcases List.mem_cons.1 hr with rfl | hr
  · exact ⟨by kernel_rfl, _, Try.func43, c42⟩
  rcases List.mem_cons.1 hr with rfl | hr
  · exact ⟨by kernel_rfl, _, Try.func40, c43⟩
  rcases List.mem_cons.1 hr with rfl | hr
  · exact ⟨by kernel_rfl, _, Try.func39, c45⟩
  rcases List.mem_cons.1 hr with rfl | hr
  · exact ⟨by kernel_rfl, _, Try.func41, c46⟩
  rcases List.mem_cons.1 hr with rfl | hr
  · exact ⟨by kernel_rfl, _, Try.func42, c47⟩
  rcases List.mem_cons.1 hr with rfl | hr
  · exact ⟨by kernel_rfl, _, Try.func45, c48⟩
  rcases List.mem_cons.1 hr with rfl | hr
  · exact ⟨by kernel_rfl, _, Try.func44, c49⟩
  rcases List.mem_cons.1 hr with rfl | hr
  · exact ⟨by kernel_rfl, _, Try.func46, c50⟩
  rcases List.mem_cons.1 hr with rfl | hr
  · exact ⟨by kernel_rfl, _, Try.func66, c51⟩
  rcases List.mem_cons.1 hr with rfl | hr
  · exact ⟨by kernel_rfl, _, Try.func68, c52⟩
  rcases List.mem_cons.1 hr with rfl | hr
  · exact ⟨by kernel_rfl, _, Try.func67, c53⟩
  rcases List.mem_cons.1 hr with rfl | hr
  · exact ⟨by kernel_rfl, _, Try.func71, c55⟩
  rcases List.mem_cons.1 hr with rfl | hr
  · exact ⟨by kernel_rfl, _, Try.func72, c56⟩
  rcases List.mem_cons.1 hr with rfl | hr
  · exact ⟨by kernel_rfl, _, Try.func89, c57⟩
  rcases List.mem_cons.1 hr with rfl | hr
  · exact ⟨by kernel_rfl, _, Try.func90, c58⟩
  rcases List.mem_cons.1 hr with rfl | hr
  · exact ⟨by kernel_rfl, _, Try.func91, c59⟩
  rcases List.mem_cons.1 hr with rfl | hr
  · exact ⟨by kernel_rfl, _, Try.func54, c60⟩
  rcases List.mem_cons.1 hr with rfl | hr
  · exact ⟨by kernel_rfl, _, Try.func113, c61⟩
  rcases List.mem_cons.1 hr with rfl | hr
  · exact ⟨by kernel_rfl, _, Try.func78, c62⟩
  rcases List.mem_cons.1 hr with rfl | hr
  · exact ⟨by kernel_rfl, _, Try.func73, c63⟩
  rcases List.mem_cons.1 hr with rfl | hr
  · exact ⟨by kernel_rfl, _, Try.func74, c64⟩
  rcases List.mem_cons.1 hr with rfl | hr
  · exact ⟨by kernel_rfl, _, Try.func75, c65⟩
  rcases List.mem_cons.1 hr with rfl | hr
  · exact ⟨by kernel_rfl, _, Try.func76, c66⟩
  rcases List.mem_cons.1 hr with rfl | hr
  · exact ⟨by kernel_rfl, _, Try.func77, c67⟩
  rcases List.mem_cons.1 hr with rfl | hr
  · exact ⟨by kernel_rfl, _, Try.func80, c68⟩
  rcases List.mem_cons.1 hr with rfl | hr
  · exact ⟨by kernel_rfl, _, Try.func81, c69⟩
  rcases List.mem_cons.1 hr with rfl | hr
  · exact ⟨by kernel_rfl, _, Try.func82, c70⟩
  rcases List.mem_cons.1 hr with rfl | hr
  · exact ⟨by kernel_rfl, _, Try.func83, c71⟩
  rcases List.mem_cons.1 hr with rfl | hr
  · exact ⟨by kernel_rfl, _, Try.func84, c72⟩
  rcases List.mem_cons.1 hr with rfl | hr
  · exact ⟨by kernel_rfl, _, Try.func85, c73⟩
  rcases List.mem_cons.1 hr with rfl | hr
  · exact ⟨by kernel_rfl, _, Try.func86, c74⟩
  rcases List.mem_cons.1 hr with rfl | hr
  · exact ⟨by kernel_rfl, _, Try.func87, c75⟩
  rcases List.mem_cons.1 hr with rfl | hr
  · exact ⟨by kernel_rfl, _, Try.func58, c76⟩
  rcases List.mem_cons.1 hr with rfl | hr
  · exact ⟨by kernel_rfl, _, Try.func59, c77⟩
  rcases List.mem_cons.1 hr with rfl | hr
  · exact ⟨by kernel_rfl, _, Try.func61, c78⟩
  rcases List.mem_cons.1 hr with rfl | hr
  · exact ⟨by kernel_rfl, _, Try.func62, c79⟩
  rcases List.mem_cons.1 hr with rfl | hr
  · exact ⟨by kernel_rfl, _, Try.func88, c80⟩
  rcases List.mem_cons.1 hr with rfl | hr
  · exact ⟨by kernel_rfl, _, Try.func99, c81⟩
  rcases List.mem_cons.1 hr with rfl | hr
  · exact ⟨by kernel_rfl, _, Try.func112, c82⟩
  rcases List.mem_cons.1 hr with rfl | hr
  · exact ⟨by kernel_rfl, _, Try.func114, c83⟩
  rcases List.mem_cons.1 hr with rfl | hr
  · exact ⟨by kernel_rfl, _, Try.func115, c84⟩
  rcases List.mem_cons.1 hr with rfl | hr
  · exact ⟨by kernel_rfl, _, Try.func116, c85⟩
  rcases List.mem_cons.1 hr with rfl | hr
  · exact ⟨by kernel_rfl, _, Try.func102, c86⟩
  rcases List.mem_cons.1 hr with rfl | hr
  · exact ⟨by kernel_rfl, _, Try.func107, c87⟩
  rcases List.mem_cons.1 hr with rfl | hr
  · exact ⟨by kernel_rfl, _, Try.func108, c88⟩
  rcases List.mem_cons.1 hr with rfl | hr
  · exact ⟨by kernel_rfl, _, Try.func109, c89⟩
  rcases List.mem_cons.1 hr with rfl | hr
  · exact ⟨by kernel_rfl, _, Try.func110, c90⟩
  rcases List.mem_cons.1 hr with rfl | hr
  · exact ⟨by kernel_rfl, _, Try.func111, c91⟩
  rcases List.mem_cons.1 hr with rfl | hr
  · exact ⟨by kernel_rfl, _, Try.func117, c92⟩
  rcases List.mem_cons.1 hr with rfl | hr
  · exact ⟨by kernel_rfl, _, Try.func118, c93⟩
  rcases List.mem_cons.1 hr with rfl | hr
  · exact ⟨by kernel_rfl, _, Try.func119, c94⟩
  rcases List.mem_cons.1 hr with rfl | hr
  · exact ⟨by kernel_rfl, _, Try.func120, c95⟩
  rcases List.mem_cons.1 hr with rfl | hr
  · exact ⟨by kernel_rfl, _, Try.func121, c96⟩
  rcases List.mem_cons.1 hr with rfl | hr
  · exact ⟨by kernel_rfl, _, Try.func131, c97⟩
  rcases List.mem_cons.1 hr with rfl | hr
  · exact ⟨by kernel_rfl, _, Try.func140, c98⟩
  rcases List.mem_cons.1 hr with rfl | hr
  · exact ⟨by kernel_rfl, _, Try.func141, c99⟩
  rcases List.mem_cons.1 hr with rfl | hr
  · exact ⟨by kernel_rfl, _, Try.func142, c100⟩
  rcases List.mem_cons.1 hr with rfl | hr
  · exact ⟨by kernel_rfl, _, Try.func143, c101⟩
  rcases List.mem_cons.1 hr with rfl | hr
  · exact ⟨by kernel_rfl, _, Try.func144, c102⟩
  rcases List.mem_cons.1 hr with rfl | hr
  · exact ⟨by kernel_rfl, _, Try.func145, c103⟩
  rcases List.mem_cons.1 hr with rfl | hr
  · exact ⟨by kernel_rfl, _, Try.func146, c104⟩
  rcases List.mem_cons.1 hr with rfl | hr
  · exact ⟨by kernel_rfl, _, Try.func147, c105⟩
  rcases List.mem_cons.1 hr with rfl | hr
  · exact ⟨by kernel_rfl, _, Try.func148, c106⟩
  rcases List.mem_cons.1 hr with rfl | hr
  · exact ⟨by kernel_rfl, _, Try.func150, c107⟩
  rcases List.mem_cons.1 hr with rfl | hr
  · exact ⟨by kernel_rfl, _, Try.func151, c108⟩
  rcases List.mem_cons.1 hr with rfl | hr
  · exact ⟨by kernel_rfl, _, Try.func156, c109⟩
  rcases List.mem_cons.1 hr with rfl | hr
  · exact ⟨by kernel_rfl, _, Try.func157, c110⟩
  rcases List.mem_cons.1 hr with rfl | hr
  · exact ⟨by kernel_rfl, _, Try.func158, c111⟩
  rcases List.mem_cons.1 hr with rfl | hr
  · exact ⟨by kernel_rfl, _, Try.func159, c112⟩
  rcases List.mem_cons.1 hr with rfl | hr
  · exact ⟨by kernel_rfl, _, Try.func160, c113⟩
  rcases List.mem_cons.1 hr with rfl | hr
  · exact ⟨by kernel_rfl, _, Try.func161, c114⟩
  rcases List.mem_cons.1 hr with rfl | hr
  · exact ⟨by kernel_rfl, _, Try.func162, c115⟩
  rcases List.mem_cons.1 hr with rfl | hr
  · exact ⟨by kernel_rfl, _, Try.func163, c116⟩
  rcases List.mem_cons.1 hr with rfl | hr
  · exact ⟨by kernel_rfl, _, Try.func164, c117⟩
  rcases List.mem_cons.1 hr with rfl | hr
  · exact ⟨by kernel_rfl, _, Try.func165, c118⟩
  rcases List.mem_cons.1 hr with rfl | hr
  · exact ⟨by kernel_rfl, _, Try.func166, c119⟩
  rcases List.mem_cons.1 hr with rfl | hr
  · exact ⟨by kernel_rfl, _, Try.func167, c120⟩
  rcases List.mem_cons.1 hr with rfl | hr
  · exact ⟨by kernel_rfl, _, Try.func168, c121⟩
  rcases List.mem_cons.1 hr with rfl | hr
  · exact ⟨by kernel_rfl, _, Try.func169, c122⟩
  rcases List.mem_cons.1 hr with rfl | hr
  · exact ⟨by kernel_rfl, _, Try.func170, c123⟩
  rcases List.mem_cons.1 hr with rfl | hr
  · exact ⟨by kernel_rfl, _, Try.func171, c124⟩
  rcases List.mem_cons.1 hr with rfl | hr
  · exact ⟨by kernel_rfl, _, Try.func183, c125⟩
  rcases List.mem_cons.1 hr with rfl | hr
  · exact ⟨by kernel_rfl, _, Try.func184, c126⟩
  rcases List.mem_cons.1 hr with rfl | hr
  · exact ⟨by kernel_rfl, _, Try.func185, c127⟩
  rcases List.mem_cons.1 hr with rfl | hr
  · exact ⟨by kernel_rfl, _, Try.func186, c128⟩
  rcases List.mem_cons.1 hr with rfl | hr
  · exact ⟨by kernel_rfl, _, Try.func187, c129⟩
  rcases List.mem_cons.1 hr with rfl | hr
  · exact ⟨by kernel_rfl, _, Try.func188, c130⟩
  rcases List.mem_cons.1 hr with rfl | hr
  · exact ⟨by kernel_rfl, _, Try.func189, c131⟩
  rcases List.mem_cons.1 hr with rfl | hr
  · exact ⟨by kernel_rfl, _, Try.func196, c132⟩
  cases hr
theorem table : Table Try.prog num funs := by
  intro f A h
  unfold funs at h
  cases hf : tab.find? (fun r => r.1 == f) with
  | none => rw [hf] at h; cases h
  | some r =>
    rw [hf] at h; cases h
    have h1 := List.find?_some hf
    simp only [beq_iff_eq] at h1
    subst h1
    obtain ⟨h2, h3⟩ := good r (List.mem_of_find?_eq_some hf)
    rw [h2]; exact h3
theorem pk_eco : Pk_eco funs := ⟨rfl, rfl, rfl, rfl, rfl, rfl, rfl, rfl, rfl, rfl, rfl, rfl, rfl, rfl, rfl, rfl, rfl⟩
theorem pk_xref01 : Pk_xref01 funs := ⟨rfl, rfl, rfl, rfl, rfl, rfl, rfl, rfl, rfl⟩
theorem pk_xref09 : Pk_xref09 funs := ⟨rfl, rfl, rfl, rfl, rfl, rfl, rfl⟩
theorem pk_rel : Pk_rel funs := ⟨rfl, rfl, rfl, rfl, rfl, rfl, rfl, rfl, rfl, rfl, rfl, rfl, rfl⟩
end Go.Proofs.Ytippmjhokhjjiaa
end
section
set_option linter.unusedVariables false
set_option linter.unusedSimpArgs false
namespace Go.Ab
open Go.RowKit
def ShR (S : List AV → Prop) (n : Nat) (asx : List AV) : Prop := ∃ rows : List (List AV), rows.length = n ∧ asx = rows.flatten ∧ ∀ r ∈ rows, S r
def ShL (S : TypeId → List AV → Prop) : List TypeId → List AV → Prop
  | [], asx => asx = []
  | t :: ts, asx => ∃ a b, asx = a ++ b ∧ S t a ∧ ShL S ts b
def Sh (P : Program) : Nat → TypeId → List AV → Prop
  | 0, _, _ => False
  | m + 1, t, asx => match P.underlying t with
    | some .bool => ∃ b, asx = [.b b]
    | some (.int k) => ∃ n, asx = [.i k n] ∧ (Lit.int k n).wf = true
    | some .string => ∃ s, asx = [.s s] ∧ s.size ≤ maxLen
    | some (.slice e) => ∃ cs n, asx = [.sl cs n .non] ∧ n ≤ maxLen ∧ ShR (Sh P m e) n cs
    | some (.pointer e) => asx = [.nilp] ∨ ∃ cs, asx = [.ptr cs] ∧ Sh P m e cs
    | some (.struct fs) => ShL (Sh P m) (fs.toList.map (·.type)) asx
    | some (.array n e) => ShR (Sh P m e) n asx
    | _ => False
def fieldsOk (P : Program) : Nat → List Field → Nat → Bool
  | o, [], n => o == n
  | o, f :: fs, n => (f.offset == o) && fieldsOk P (o + P.cellsOf f.type) fs n
def plainB (P : Program) : Nat → TypeId → Bool
  | 0, _ => false
  | m + 1, t => match P.underlying t with
    | some .bool | some (.int _) | some .string => true
    | some (.slice e) => plainB P m e
    | some (.pointer e) => plainB P m e
    | some (.struct fs) => fieldsOk P 0 fs.toList (P.cellsOf t) && fs.toList.all (fun f => plainB P m f.type)
    | some (.array n e) => (P.cellsOf t == n * P.cellsOf e) && plainB P m e
    | _ => false
section
variable {H : Type} {enc : TypeId × Value → H} {P : Program} {c : Cx}
theorem add_add' (a : Addr) (m n : Nat) : (a.add m).add n = a.add (m + n) := by
  unfold Addr.add
  by_cases hm : m = 0 <;> by_cases hn : n = 0 <;> simp [hm, hn, Nat.add_assoc]
theorem I_cell (hb : c.base = c.w.heap.size) (hJ : c.J = fun _ => True) {a : Addr} {v : Value} (h : c.w.cell? a = some v) : c.I a := .inl ⟨by rw [hb]; exact block_lt_of_cell h, by rw [hJ]; trivial⟩
theorem read_rows {S : List AV → Prop} {sz : Nat} {a : Addr} {n : Nat}
    (h : ∀ i, i < n → ∃ row rs, c.w.cells? 0 (a.add (i * sz)) sz = some row ∧ S rs ∧ Reps c false rs row ∧ ∀ v ∈ row, v.oneCell' = true) :
    ∃ cs vs, ShR S n cs ∧ Reps c false cs vs ∧ vs.length = n * sz ∧ (∀ v ∈ vs, v.oneCell' = true) ∧ ∀ j, j < n * sz → c.w.cell? (a.add j) = vs[j]? := by
  induction n with
  | zero => exact ⟨[], [], ⟨[], rfl, rfl, fun _ h => by cases h⟩, Reps.nil, by simp, (fun v (h : v ∈ ([] : List Value)) => by cases h), fun j hj => by omega⟩
  | succ n ih =>
    obtain ⟨cs, vs, ⟨rows, hl, rfl, hS⟩, hR, hlen, h1, hcell⟩ := ih fun i hi => h i (by omega)
    obtain ⟨row, rs, hc, hSr, hRr, h1r⟩ := h n (by omega)
    obtain ⟨_, hrl, hrc⟩ := World.cells?_some hc
    refine ⟨_, vs ++ row, ⟨rows ++ [rs], by simp [hl], rfl, ?_⟩, ?_, ?_, ?_, ?_⟩
    · intro r hr
      rcases List.mem_append.1 hr with hr | hr
      · exact hS r hr
      · rw [List.mem_singleton.1 hr]; exact hSr
    · simp only [List.flatten_append, List.flatten_cons, List.flatten_nil, List.append_nil]
      exact hR.append hRr
    · rw [List.length_append, hlen, hrl, Nat.succ_mul]
    · intro v hv
      rcases List.mem_append.1 hv with hv | hv
      · exact h1 v hv
      · exact h1r v hv
    · intro j hj
      rw [Nat.succ_mul] at hj
      by_cases hjn : j < n * sz
      · rw [List.getElem?_append_left (by omega)]; exact hcell j hjn
      · rw [List.getElem?_append_right (by omega), hlen, ← hrc (j - n * sz) (by omega), add_add']
        rw [show n * sz + (j - n * sz) = j by omega]
theorem read_cells (hb : c.base = c.w.heap.size) (hJ : c.J = fun _ => True) : ∀ (m : Nat) {t : TypeId} {fuel : Nat} {cs : List Value} {x : DataW H × List MemPlace},
    plainB P m t = true → DataW.trod enc P c.w 0 (fun _ => true) true fuel t cs = some x → ∃ asx, Sh P m t asx ∧ Reps c false asx cs ∧ ∀ v ∈ cs, v.oneCell' = true
  | 0, _, _, _, _, h, _ => by simp [plainB] at h
  | m + 1, t, fuel, cs, x, hp, h => by
    have one : ∀ {y : AV} {v : Value}, Rep c false y v → v.oneCell' = true → Reps c false [y] [v] ∧ ∀ u ∈ [v], u.oneCell' = true := fun hr h1 =>
      ⟨Reps.cons hr Reps.nil, fun u hu => by rw [List.mem_singleton.1 hu]; exact h1⟩
    simp only [plainB] at hp
    cases ht : P.underlying t with
    | none => rw [ht] at hp; cases hp
    | some d =>
      rw [ht] at hp
      cases d with
      | bool =>
        obtain ⟨b, rfl, _⟩ := DataW.trod_bool ht h
        exact ⟨[.b b], by simp only [Sh, ht]; exact ⟨b, rfl⟩, one (.b b) rfl⟩
      | int k =>
        obtain ⟨n, rfl, _, hw⟩ := DataW.trod_int ht h
        exact ⟨[.i k n], by simp only [Sh, ht]; exact ⟨n, rfl, hw⟩, one (.i k n) rfl⟩
      | string =>
        obtain ⟨s, rfl, _, hs⟩ := DataW.trod_string ht h
        exact ⟨[.s s], by simp only [Sh, ht]; exact ⟨s, rfl, hs⟩, one (.s s) rfl⟩
      | slice e =>
        rcases DataW.trod_slice ht h with ⟨rfl, _⟩ | ⟨a, len, cap, elems, rest, n, rfl, rfl, _, _, hl, hm, hel, hget, _, _⟩
        · refine ⟨[.sl [] 0 .non], by simp only [Sh, ht]; exact ⟨[], 0, rfl, Nat.zero_le _, [], rfl, rfl, fun _ h => by cases h⟩, one ?_ rfl⟩
          exact .sl ⟨0, 0, none⟩ [] (Nat.le_refl _) (Nat.zero_le _) (fun h => by cases h) (fun _ _ _ h => by cases h) (fun h => by omega) (fun _ h => by cases h) rfl (fun h => absurd rfl h) (fun j v h => by simp at h) (fun j x v h => by simp at h) (fun _ _ h => by cases h)
        · obtain ⟨asx, vs, hS, hR, hlen, h1, hcell⟩ := read_rows (c := c) (S := Sh P m e) (sz := P.cellsOf e) (a := a) (n := len) fun i hi => by
            have hg := hget i hi
            cases hc : c.w.cells? 0 (a.add (i * P.cellsOf e)) (P.cellsOf e) with
            | none => rw [hc] at hg; simp at hg; omega
            | some row =>
              rw [hc, Option.bind_some, List.getElem?_eq_getElem (by omega)] at hg
              obtain ⟨rs, h1, h2, h3⟩ := read_cells hb hJ m hp hg
              exact ⟨row, rs, rfl, h1, h2, h3⟩
          have hk : ∀ (j : Nat) v, vs[j]? = some v → c.I (a.add j) ∧ c.w.cell? (a.add j) = some v := fun j v hv => by
            have hj : j < len * P.cellsOf e := by rw [← hlen]; exact (List.getElem?_eq_some_iff.1 hv).1
            have := (hcell j hj).trans hv
            exact ⟨I_cell hb hJ this, this⟩
          refine ⟨[.sl asx len .non], by simp only [Sh, ht]; exact ⟨asx, len, rfl, by omega, hS⟩, one ?_ rfl⟩
          exact .sl a vs hl hm (fun h => by cases h) (fun _ _ _ h => by cases h) (fun _ => rfl) h1 hR.1 (fun _ => rfl) hk (fun j x v hx hv => hR.2 j x v hx hv) (fun _ _ h => by cases h)
      | pointer e =>
        rcases DataW.trod_pointer ht h with ⟨rfl, _⟩ | ⟨a, cs', y, n, rfl, rfl, _, hc, hd⟩
        · exact ⟨[.nilp], by simp only [Sh, ht]; exact .inl trivial, one .nilp rfl⟩
        · obtain ⟨rs, h1, h2, h3⟩ := read_cells hb hJ m hp hd
          obtain ⟨_, hl, hcell⟩ := World.cells?_some hc
          have hk : ∀ (j : Nat) v, cs'[j]? = some v → c.I (a.add j) ∧ c.w.cell? (a.add j) = some v := fun j v hv => by
            have hj : j < P.cellsOf e := by rw [← hl]; exact (List.getElem?_eq_some_iff.1 hv).1
            have := (hcell j hj).trans hv
            exact ⟨I_cell hb hJ this, this⟩
          exact ⟨[.ptr rs], by simp only [Sh, ht]; exact .inr ⟨rs, rfl, h1⟩, one (.ptr a cs' h3 h2.1 hk (fun j x v hx hv => h2.2 j x v hx hv)) rfl⟩
      | struct fs =>
        simp only [Bool.and_eq_true, List.all_eq_true] at hp
        obtain ⟨xs, n, rfl, _, hcl, hxl, hget⟩ := DataW.trod_struct ht h
        have key : ∀ (l : List Field) (o : Nat) (i : Nat), fieldsOk P o l (P.cellsOf t) = true → o ≤ cs.length → (∀ f ∈ l, plainB P m f.type = true) → (∀ j f, l[j]? = some f → DataW.trod enc P c.w 0 (fun _ => true) true n f.type ((cs.drop f.offset).take (P.cellsOf f.type)) = xs[i + j]?) → i + l.length = xs.length →
            ∃ asx, ShL (Sh P m) (l.map (·.type)) asx ∧ Reps c false asx (cs.drop o) ∧ ∀ v ∈ cs.drop o, v.oneCell' = true := by
          intro l
          induction l with
          | nil =>
            intro o i hf ho _ _ _
            simp only [fieldsOk, beq_iff_eq] at hf
            have : cs.drop o = [] := List.drop_eq_nil_of_le (by omega)
            rw [this]
            exact ⟨[], rfl, Reps.nil, fun _ h => by cases h⟩
          | cons f l ih =>
            intro o i hf ho hpl hg hlen
            simp only [fieldsOk, Bool.and_eq_true, beq_iff_eq] at hf
            obtain ⟨hfo, hf⟩ := hf
            have hg0 := hg 0 f rfl
            simp only [List.length_cons] at hlen
            rw [List.getElem?_eq_getElem (by omega), hfo] at hg0
            obtain ⟨rs, h1, h2, h3⟩ := read_cells hb hJ m (hpl f (List.mem_cons_self ..)) hg0
            have mono : ∀ (l : List Field) (o : Nat), fieldsOk P o l (P.cellsOf t) = true → o ≤ P.cellsOf t := by
              intro l
              induction l with
              | nil => intro o h; simp only [fieldsOk, beq_iff_eq] at h; omega
              | cons f l ih => intro o h; simp only [fieldsOk, Bool.and_eq_true] at h; have := ih _ h.2; omega
            have ho2 := mono _ _ hf
            obtain ⟨asx, h4, h5, h6⟩ := ih (o + P.cellsOf f.type) (i + 1) hf (by omega) (fun g hg => hpl g (List.mem_cons_of_mem _ hg)) (fun j g hj => by
              have := hg (j + 1) g (by simpa using hj)
              rwa [show i + (j + 1) = i + 1 + j by omega] at this) (by omega)
            have hsplit : cs.drop o = (cs.drop o).take (P.cellsOf f.type) ++ cs.drop (o + P.cellsOf f.type) := by
              rw [← List.drop_drop, List.take_append_drop]
            rw [hsplit]
            refine ⟨rs ++ asx, ⟨rs, asx, rfl, h1, h4⟩, h2.append h5, fun v hv => ?_⟩
            rcases List.mem_append.1 hv with hv | hv
            · exact h3 v hv
            · exact h6 v hv
        obtain ⟨asx, h1, h2, h3⟩ := key fs.toList 0 0 hp.1 (Nat.zero_le _) hp.2 (fun j f hj => by
          have := hget j f (by simpa using hj)
          rwa [show 0 + j = j by omega]) (by simp [hxl])
        exact ⟨asx, by simp only [Sh, ht]; exact h1, by simpa using h2, by simpa using h3⟩
      | array n e =>
        simp only [Bool.and_eq_true, beq_iff_eq] at hp
        obtain ⟨xs, q, rfl, _, hcl, hxl, hget⟩ := DataW.trod_array ht h
        have key : ∀ i, i ≤ n → ∃ asx, ShR (Sh P m e) i asx ∧ Reps c false asx (cs.take (i * P.cellsOf e)) ∧ ∀ v ∈ cs.take (i * P.cellsOf e), v.oneCell' = true := by
          intro i
          induction i with
          | zero => intro _; exact ⟨[], ⟨[], rfl, rfl, fun _ h => by cases h⟩, by simpa using Reps.nil, by simp⟩
          | succ i ih =>
            intro hi
            obtain ⟨asx, ⟨rows, hl, rfl, hS⟩, h2, h3⟩ := ih (by omega)
            have hg := hget i (by omega)
            rw [List.getElem?_eq_getElem (by omega)] at hg
            obtain ⟨rs, h4, h5, h6⟩ := read_cells hb hJ m hp.2 hg
            have hsplit : cs.take ((i + 1) * P.cellsOf e) = cs.take (i * P.cellsOf e) ++ (cs.drop (i * P.cellsOf e)).take (P.cellsOf e) := by
              rw [Nat.succ_mul, List.take_add]
            rw [hsplit]
            refine ⟨_, ⟨rows ++ [rs], by simp [hl], rfl, fun r hr => ?_⟩, ?_, fun v hv => ?_⟩
            · rcases List.mem_append.1 hr with hr | hr
              · exact hS r hr
              · rw [List.mem_singleton.1 hr]; exact h4
            · simp only [List.flatten_append, List.flatten_cons, List.flatten_nil, List.append_nil]
              exact h2.append h5
            · rcases List.mem_append.1 hv with hv | hv
              · exact h3 v hv
              · exact h6 v hv
        obtain ⟨asx, h1, h2, h3⟩ := key n (Nat.le_refl _)
        have hall : cs.take (n * P.cellsOf e) = cs := List.take_of_length_le (by omega)
        rw [hall] at h2 h3
        exact ⟨asx, by simp only [Sh, ht]; exact h1, h2, h3⟩
      | _ => cases hp
theorem read_one (hb : c.base = c.w.heap.size) (hJ : c.J = fun _ => True) (m : Nat) {t : TypeId} {v : Value} {d : DataW H} {ps : List MemPlace} (hp : plainB P m t = true) (hv : v.cells = #[v]) (h : DataW.Trod enc P c.w 0 (fun _ => true) true t v d ps) :
    ∃ x, Sh P m t [x] ∧ Rep c true x v := by
  obtain ⟨fuel, hf⟩ := h
  rw [hv] at hf
  obtain ⟨asx, h1, h2, _⟩ := read_cells hb hJ m hp hf
  have hl : asx.length = 1 := by simpa using h2.1
  match asx, hl with
  | [x], _ => exact ⟨x, h1, (h2.2 0 x v rfl rfl).up⟩
end
end Go.Ab
end
section
namespace Go.Ab
def CLe (c d : CS) : Prop := ∀ f asx g r, c f asx g = some r → d f asx g = some r
theorem opE_mono {c d : CS} (h : CLe c d) {al : Nat → Bool} {lo id : Nat} {op : AOp} {e : Env} {g : G} {r : AV × G} (hr : opE c al lo id op e g = some r) : opE d al lo id op e g = some r := by
  cases op with
  | call m f args =>
    simp only [opE, vCall] at hr ⊢
    split at hr
    · cases m with
      | raw => exact h _ _ _ _ hr
      | see =>
        simp only at hr ⊢
        obtain ⟨v, g2⟩ := r
        obtain ⟨g', hc, rfl, hk⟩ := seeR_inv hr
        rw [h _ _ _ _ hc]
        exact seeR_some hk
      | pure =>
        simp only at hr ⊢
        split at hr
        · cases hr
        · split at hr
          · cases hr
          · rename_i hc
            rw [h _ _ _ _ hc]
            exact hr
      | lock =>
        simp only at hr ⊢
        split at hr
        · cases hr
        · split at hr
          · cases hr
          · rename_i hc
            rw [h _ _ _ _ hc]
            exact hr
      | thaw =>
        simp only at hr ⊢
        split at hr
        · cases hr
        · split at hr
          · rename_i hc
            rw [h _ _ _ _ hc]
            exact hr
          · cases hr
      | melt =>
        simp only at hr ⊢
        split at hr
        · cases hr
        · split at hr
          · rename_i hc
            rw [h _ _ _ _ hc]
            exact hr
          · cases hr
    · cases hr
  | _ => exact hr
theorem regE_mono {c d : CS} (h : CLe c d) {draw : Bool} {base : Nat} : ∀ {os : List AOper} {j : Nat} {e : Env} {g : G} {r}, regE c draw base j os e g = some r → regE d draw base j os e g = some r
  | [], _, _, _, _, hr => hr
  | o :: os, j, e, g, r, hr => by
    simp only [regE] at hr ⊢
    split
    · rename_i hw
      simp only [hw, if_true] at hr
      split at hr
      · rename_i ho
        rw [opE_mono h ho]
        exact regE_mono h hr
      · cases hr
    · rename_i hw
      simp only [hw, Bool.false_eq_true, if_false] at hr
      exact regE_mono h hr
theorem iter_mono {f f' : Env → G → Option (Out × Env × G)} (h : ∀ e g r, f e g = some r → f' e g = some r) : ∀ {k k' : Nat} {e g r}, k ≤ k' → iter f k e g = some r → iter f' k' e g = some r
  | 0, _, _, _, _, _, hr => by simp [iter] at hr
  | k + 1, k', e, g, r, hk, hr => by
    obtain ⟨k', rfl⟩ : ∃ j, k' = j + 1 := ⟨k' - 1, by omega⟩
    simp only [iter] at hr ⊢
    split at hr
    · rename_i hf
      rw [h _ _ _ hf]
      exact iter_mono h (by omega) hr
    · rename_i hn
      cases hf : f e g with
      | none => rw [hf] at hr; cases hr
      | some q =>
        rw [hf] at hr
        obtain rfl : q = r := Option.some.inj hr
        obtain ⟨o, e', g'⟩ := q
        cases o with
        | nrm => exact absurd hf (hn _ _)
        | ext n => rw [h _ _ _ hf]
        | ret => rw [h _ _ _ hf]
theorem codeE_mono {c d : CS} (h : CLe c d) {k k' : Nat} (hk : k ≤ k') : ∀ {x : ACode} {e : Env} {g : G} {r}, codeE c k x e g = some r → codeE d k' x e g = some r := by
  intro x
  induction x with
  | skip => intro e g r hr; exact hr
  | reg draw ops =>
    intro e g r hr
    simp only [codeE] at hr ⊢
    split at hr
    · rename_i ho
      rw [regE_mono h ho]
      exact hr
    · cases hr
  | seq a b iha ihb =>
    intro e g r hr
    simp only [codeE] at hr ⊢
    split at hr
    · rename_i ho
      rw [iha ho]
      exact ihb hr
    · rename_i hn
      cases hf : codeE c k a e g with
      | none => rw [hf] at hr; cases hr
      | some q =>
        rw [hf] at hr
        obtain rfl : q = r := Option.some.inj hr
        obtain ⟨o, e', g'⟩ := q
        cases o with
        | nrm => exact absurd hf (hn _ _)
        | ext n => rw [iha hf]
        | ret => rw [iha hf]
  | cond cc t f iht ihf =>
    intro e g r hr
    simp only [codeE] at hr ⊢
    split at hr
    · split
      · rename_i hx
        simp only [hx, if_true] at hr
        exact iht hr
      · rename_i hx
        simp only [hx, Bool.false_eq_true, if_false] at hr
        exact ihf hr
    · cases hr
  | lck t cc ih =>
    intro e g r hr
    simp only [codeE] at hr ⊢
    exact ih hr
  | lckS t cc ih =>
    intro e g r hr
    simp only [codeE] at hr ⊢
    exact ih hr
  | imm t cc ih =>
    intro e g r hr
    simp only [codeE] at hr ⊢
    cases hf : frz g.hp depth (e t) with
    | none => rw [hf] at hr; cases hr
    | some v => rw [hf] at hr; exact ih hr
  | tmp cc ih =>
    intro e g r hr
    simp only [codeE] at hr ⊢
    cases hf : codeE c k cc e ⟨lock g.hp (List.range g.nx), g.nx⟩ with
    | none => rw [hf] at hr; cases hr
    | some q => rw [hf] at hr; rw [ih hf]; exact hr
  | scp cc ih =>
    intro e g r hr
    simp only [codeE] at hr ⊢
    exact ih hr
  | lab =>
    intro e g r hr
    simp only [codeE] at hr ⊢
    exact hr
  | blk id cc ih =>
    intro e g r hr
    simp only [codeE] at hr ⊢
    split at hr
    · rename_i hf
      rw [ih hf]
      exact hr
    · rename_i hn
      cases hf : codeE c k cc e g with
      | none => rw [hf] at hr; cases hr
      | some q =>
        rw [hf] at hr
        obtain rfl : q = r := Option.some.inj hr
        obtain ⟨o, e', g'⟩ := q
        cases o with
        | nrm => rw [ih hf]
        | ext n => exact absurd hf (hn _ _ _)
        | ret => rw [ih hf]
  | loop cc ih =>
    intro e g r hr
    simp only [codeE] at hr ⊢
    exact iter_mono (fun _ _ _ => ih) hk hr
  | ext id => intro e g r hr; exact hr
  | ret => intro e g r hr; exact hr
theorem callE_mono (F : Funs) : ∀ {k k' : Nat}, k ≤ k' → CLe (callE F k) (callE F k')
  | 0, _, _, _, _, _, _, hr => by simp [callE] at hr
  | k + 1, k', hk, f, asx, g, r, hr => by
    obtain ⟨k', rfl⟩ : ∃ j, k' = j + 1 := ⟨k' - 1, by omega⟩
    simp only [callE] at hr ⊢
    split at hr
    · cases hr
    · rename_i fn hF
      have hm := fun {x} => codeE_mono (callE_mono F (show k ≤ k' by omega)) (show k ≤ k' by omega) (x := fn.body) (e := argEnv asx) (g := g) (r := x)
      split at hr
      · rename_i hc
        rw [hm hc]
        exact hr
      · rename_i hc
        rw [hm hc]
        exact hr
      · cases hr
open Classical in
noncomputable def lim {α : Type} (f : Nat → Option α) : Option α :=
  if h : ∃ r k, f k = some r then some (Classical.choose h) else none
theorem lim_some {α : Type} {f : Nat → Option α} (hm : ∀ k k' r, k ≤ k' → f k = some r → f k' = some r) {r : α} : lim f = some r ↔ ∃ k, f k = some r := by
  unfold lim
  constructor
  · intro h
    split at h
    · rename_i hx
      have := Classical.choose_spec hx
      rwa [Option.some.inj h] at this
    · cases h
  · rintro ⟨k, hk⟩
    rw [dif_pos ⟨r, k, hk⟩]
    obtain ⟨k', hk'⟩ := Classical.choose_spec (⟨r, k, hk⟩ : ∃ r k, f k = some r)
    have h1 := hm k (max k k') _ (by omega) hk
    have h2 := hm k' (max k k') _ (by omega) hk'
    rw [h1] at h2
    exact congrArg some (Option.some.inj h2).symm
theorem lim_ext {α : Type} {a b : Option α} (h : ∀ r, a = some r ↔ b = some r) : a = b := by
  cases a with
  | none =>
    cases b with
    | none => rfl
    | some r => exact (((h r).2 rfl).symm ▸ rfl : none = some r)
  | some r => exact ((h r).1 rfl).symm
variable (F : Funs)
noncomputable def callS : CS := fun f asx g => lim fun k => callE F k f asx g
noncomputable def codeS (x : ACode) (e : Env) (g : G) : Option (Out × Env × G) := lim fun k => codeE (callE F k) k x e g
theorem callS_some {f asx g r} : callS F f asx g = some r ↔ ∃ k, callE F k f asx g = some r :=
  lim_some fun _ _ _ hk h => callE_mono F hk _ _ _ _ h
theorem codeS_some {x e g r} : codeS F x e g = some r ↔ ∃ k, codeE (callE F k) k x e g = some r :=
  lim_some fun _ _ _ hk h => codeE_mono (callE_mono F hk) hk h
theorem callE_le (k : Nat) : CLe (callE F k) (callS F) := fun _ _ _ _ h => (callS_some F).2 ⟨k, h⟩
theorem opE_lim {al lo id op e g r} : opE (callS F) al lo id op e g = some r ↔ ∃ k, opE (callE F k) al lo id op e g = some r := by
  refine ⟨fun h => ?_, fun ⟨k, h⟩ => opE_mono (callE_le F k) h⟩
  cases op with
  | call m f args =>
    simp only [opE, vCall] at h ⊢
    split at h
    · cases m with
      | raw => exact (callS_some F).1 h
      | see =>
        simp only at h ⊢
        obtain ⟨v, g2⟩ := r
        obtain ⟨g', hc, rfl, hkp⟩ := seeR_inv h
        obtain ⟨k, hk⟩ := (callS_some F).1 hc
        exact ⟨k, by rw [hk]; exact seeR_some hkp⟩
      | pure =>
        simp only at h ⊢
        split at h
        · cases h
        · split at h
          · cases h
          · rename_i hc
            obtain ⟨k, hk⟩ := (callS_some F).1 hc
            exact ⟨k, by rw [hk]; exact h⟩
      | lock =>
        simp only at h ⊢
        split at h
        · cases h
        · split at h
          · cases h
          · rename_i hc
            obtain ⟨k, hk⟩ := (callS_some F).1 hc
            exact ⟨k, by rw [hk]; exact h⟩
      | thaw =>
        simp only at h ⊢
        split at h
        · cases h
        · split at h
          · rename_i hc
            obtain ⟨k, hk⟩ := (callS_some F).1 hc
            exact ⟨k, by rw [hk]; exact h⟩
          · cases h
      | melt =>
        simp only at h ⊢
        split at h
        · cases h
        · split at h
          · rename_i hc
            obtain ⟨k, hk⟩ := (callS_some F).1 hc
            exact ⟨k, by rw [hk]; exact h⟩
          · cases h
    · cases h
  | _ => exact ⟨0, h⟩
theorem regE_lim {draw base} : ∀ {os : List AOper} {j e g r}, regE (callS F) draw base j os e g = some r ↔ ∃ k, regE (callE F k) draw base j os e g = some r
  | [], _, _, _, _ => ⟨fun h => ⟨0, h⟩, fun ⟨_, h⟩ => h⟩
  | o :: os, j, e, g, r => by
    refine ⟨fun h => ?_, fun ⟨k, h⟩ => regE_mono (callE_le F k) h⟩
    simp only [regE] at h
    split at h
    · rename_i hw
      split at h
      · rename_i ho
        obtain ⟨k1, h1⟩ := (opE_lim F).1 ho
        obtain ⟨k2, h2⟩ := (regE_lim).1 h
        refine ⟨max k1 k2, ?_⟩
        simp only [regE]
        rw [if_pos hw, opE_mono (callE_mono F (Nat.le_max_left k1 k2)) h1]
        exact regE_mono (callE_mono F (Nat.le_max_right k1 k2)) h2
      · cases h
    · rename_i hw
      obtain ⟨k2, h2⟩ := (regE_lim).1 h
      refine ⟨k2, ?_⟩
      simp only [regE]
      rw [if_neg hw]
      exact h2
theorem codeS_skip (e g) : codeS F .skip e g = some (.nrm, e, g) := (codeS_some F).2 ⟨0, rfl⟩
theorem codeS_ext (id e g) : codeS F (.ext id) e g = some (.ext id, e, g) := (codeS_some F).2 ⟨0, rfl⟩
theorem codeS_ret (e g) : codeS F .ret e g = some (.ret, e, g) := (codeS_some F).2 ⟨0, rfl⟩
theorem codeS_reg (draw ops e g) : codeS F (.reg draw ops) e g = match regE (callS F) draw g.nx 0 ops e { g with nx := g.nx + ops.length } with
    | some (e, g) => some (.nrm, e, g)
    | none => none := by
  refine lim_ext fun r => ?_
  rw [codeS_some]
  constructor
  · rintro ⟨k, h⟩
    simp only [codeE] at h
    split at h
    · rename_i ho
      rw [(regE_lim F).2 ⟨k, ho⟩]
      exact h
    · cases h
  · intro h
    split at h
    · rename_i ho
      obtain ⟨k, hk⟩ := (regE_lim F).1 ho
      exact ⟨k, by simp only [codeE]; rw [hk]; exact h⟩
    · cases h
theorem codeS_seq (a b e g) : codeS F (.seq a b) e g = match codeS F a e g with
    | some (.nrm, e, g) => codeS F b e g
    | r => r := by
  refine lim_ext fun r => ?_
  rw [codeS_some]
  constructor
  · rintro ⟨k, h⟩
    simp only [codeE] at h
    split at h
    · rename_i ho
      rw [(codeS_some F).2 ⟨k, ho⟩]
      exact (codeS_some F).2 ⟨k, h⟩
    · rename_i hn
      rw [(codeS_some F).2 ⟨k, h⟩]
      obtain ⟨o, e', g'⟩ := r
      cases o with
      | nrm => exact absurd h (hn _ _)
      | ext n => rfl
      | ret => rfl
  · intro h
    split at h
    · rename_i ho
      obtain ⟨k1, h1⟩ := (codeS_some F).1 ho
      obtain ⟨k2, h2⟩ := (codeS_some F).1 h
      refine ⟨max k1 k2, ?_⟩
      simp only [codeE]
      rw [codeE_mono (callE_mono F (Nat.le_max_left k1 k2)) (Nat.le_max_left k1 k2) h1]
      exact codeE_mono (callE_mono F (Nat.le_max_right k1 k2)) (Nat.le_max_right k1 k2) h2
    · rename_i hn
      obtain ⟨k1, h1⟩ := (codeS_some F).1 h
      refine ⟨k1, ?_⟩
      simp only [codeE]
      rw [h1]
      obtain ⟨o, e', g'⟩ := r
      cases o with
      | nrm => exact absurd h (hn _ _)
      | ext n => rfl
      | ret => rfl
theorem codeS_cond (c t f e g) : codeS F (.cond c t f) e g = match c.ev e with
    | .b x => if x then codeS F t e g else codeS F f e g
    | _ => none := by
  refine lim_ext fun r => ?_
  rw [codeS_some]
  simp only [codeE]
  cases c.ev e with
  | b x =>
    cases x with
    | true => simp only [if_true]; exact (codeS_some F).symm
    | false => simp only [Bool.false_eq_true, if_false]; exact (codeS_some F).symm
  | _ => simp
theorem codeS_scp (c e g) : codeS F (.scp c) e g = codeS F c e g := by
  refine lim_ext fun r => ?_
  rw [codeS_some]
  simp only [codeE]
  exact (codeS_some F).symm
theorem codeS_lab (e g) : codeS F .lab e g = some (.nrm, e, g) := by
  refine lim_ext fun r => ?_
  rw [codeS_some]
  simp only [codeE]
  exact ⟨fun ⟨_, h⟩ => h, fun h => ⟨0, h⟩⟩
theorem codeS_blk (id c e g) : codeS F (.blk id c) e g = match codeS F c e g with
    | some (.ext n, e, g) => some (if n = id then .nrm else .ext n, e, g)
    | r => r := by
  refine lim_ext fun r => ?_
  rw [codeS_some]
  constructor
  · rintro ⟨k, h⟩
    simp only [codeE] at h
    split at h
    · rename_i ho
      rw [(codeS_some F).2 ⟨k, ho⟩]
      exact h
    · rename_i hn
      rw [(codeS_some F).2 ⟨k, h⟩]
      obtain ⟨o, e', g'⟩ := r
      cases o with
      | nrm => rfl
      | ext n => exact absurd h (hn _ _ _)
      | ret => rfl
  · intro h
    split at h
    · rename_i ho
      obtain ⟨k1, h1⟩ := (codeS_some F).1 ho
      exact ⟨k1, by simp only [codeE]; rw [h1]; exact h⟩
    · rename_i hn
      obtain ⟨k1, h1⟩ := (codeS_some F).1 h
      refine ⟨k1, ?_⟩
      simp only [codeE]
      rw [h1]
      obtain ⟨o, e', g'⟩ := r
      cases o with
      | nrm => rfl
      | ext n => exact absurd h (hn _ _ _)
      | ret => rfl
theorem codeS_loop (c e g) : codeS F (.loop c) e g = match codeS F c e g with
    | some (.nrm, e, g) => codeS F (.loop c) e g
    | r => r := by
  refine lim_ext fun r => ?_
  rw [codeS_some]
  constructor
  · rintro ⟨k, h⟩
    simp only [codeE] at h
    cases k with
    | zero => simp [iter] at h
    | succ k =>
      simp only [iter] at h
      split at h
      · rename_i ho
        rw [(codeS_some F).2 ⟨k + 1, ho⟩]
        refine (codeS_some F).2 ⟨k + 1, ?_⟩
        simp only [codeE]
        exact iter_mono (fun _ _ _ h => h) (Nat.le_succ k) h
      · rename_i hn
        rw [(codeS_some F).2 ⟨k + 1, h⟩]
        obtain ⟨o, e', g'⟩ := r
        cases o with
        | nrm => exact absurd h (hn _ _)
        | ext n => rfl
        | ret => rfl
  · intro h
    split at h
    · rename_i ho
      obtain ⟨k1, h1⟩ := (codeS_some F).1 ho
      obtain ⟨k2, h2⟩ := (codeS_some F).1 h
      simp only [codeE] at h2
      refine ⟨max k1 k2 + 1, ?_⟩
      simp only [codeE, iter]
      rw [codeE_mono (callE_mono F (by omega : k1 ≤ max k1 k2 + 1)) (by omega : k1 ≤ max k1 k2 + 1) h1]
      exact iter_mono (fun _ _ _ h => codeE_mono (callE_mono F (by omega : k2 ≤ max k1 k2 + 1)) (by omega : k2 ≤ max k1 k2 + 1) h) (by omega) h2
    · rename_i hn
      obtain ⟨k1, h1⟩ := (codeS_some F).1 h
      refine ⟨k1 + 1, ?_⟩
      simp only [codeE, iter]
      rw [codeE_mono (callE_mono F (by omega : k1 ≤ k1 + 1)) (by omega : k1 ≤ k1 + 1) h1]
      obtain ⟨o, e', g'⟩ := r
      cases o with
      | nrm => exact absurd h (hn _ _)
      | ext n => rfl
      | ret => rfl
theorem callS_eq (f asx g) : callS F f asx g = match F f with
    | none => none
    | some fn => match codeS F fn.body (argEnv asx) g with
      | some (.nrm, e, g) | some (.ret, e, g) => (resE fn.res e g).map (·, g)
      | _ => none := by
  refine lim_ext fun r => ?_
  rw [callS_some]
  constructor
  · rintro ⟨k, h⟩
    cases k with
    | zero => simp [callE] at h
    | succ k =>
      simp only [callE] at h
      split at h
      · cases h
      · rename_i fn hF
        rw [hF]
        simp only
        split at h
        · rename_i hc
          rw [(codeS_some F).2 ⟨k, hc⟩]
          exact h
        · rename_i hc
          rw [(codeS_some F).2 ⟨k, hc⟩]
          exact h
        · cases h
  · intro h
    split at h
    · cases h
    · rename_i fn hF
      split at h
      · rename_i hc
        obtain ⟨k, hk⟩ := (codeS_some F).1 hc
        exact ⟨k + 1, by simp only [callE, hF]; rw [hk]; exact h⟩
      · rename_i hc
        obtain ⟨k, hk⟩ := (codeS_some F).1 hc
        exact ⟨k + 1, by simp only [callE, hF]; rw [hk]; exact h⟩
      · cases h
end Go.Ab
end
section
namespace Go.Ab
theorem upd_same {α : Type} (e : Nat → α) (d : Nat) (v : α) : upd e d v d = v := if_pos rfl
theorem upd_ne {α : Type} (e : Nat → α) {d k : Nat} (v : α) (h : k ≠ d) : upd e d v k = e k := if_neg h
theorem put_some (e : Env) (d : Nat) (v : AV) : put e (some d) v = upd e d v := rfl
theorem put_none (e : Env) (v : AV) : put e none v = e := rfl
theorem allow_no (base : Nat) (pre : List Nat) (id : Nat) : allow false base pre id = true := rfl
theorem allow_lt {base id : Nat} (pre : List Nat) (h : id < base) : allow true base pre id = true := by simp [allow, h]
section
variable (c : CS) (d : Bool) (b j : Nat) (dst : Option Nat) (os : List AOper) (e : Env)
noncomputable def bindR (r : Option (AV × G)) : Option (Env × G) :=
  match r with
  | some (v, g) => regE c d b j os (put e dst v) g
  | none => none
noncomputable def selR (w : Bool) (op : AOp) (pre : List Nat) (g : G) : Option (Env × G) :=
  if w then bindR c d b (j + 1) dst os e (opE c (allow d b pre) b (b + j) op e g) else regE c d b (j + 1) os (put e dst .undef) g
theorem selR_true (op pre g) : selR c d b j dst os e true op pre g = bindR c d b (j + 1) dst os e (opE c (allow d b pre) b (b + j) op e g) := rfl
theorem regE_nil (g : G) : regE c d b j [] e g = some (e, g) := rfl
theorem regE_cons (op : AOp) (grd : Option (Nat × Bool)) (pre : List Nat) (g : G) :
    regE c d b j ({ dst, op, grd, pre } :: os) e g = selR c d b j dst os e (wanted e grd) op pre g := by
  simp only [regE, selR, bindR]
  rfl
end
section
variable (F : Funs)
noncomputable def thenS (x : ACode) (r : Option (Out × Env × G)) : Option (Out × Env × G) :=
  match r with
  | some (.nrm, e, g) => codeS F x e g
  | r => r
noncomputable def selS (t f : ACode) (e : Env) (g : G) (v : AV) : Option (Out × Env × G) :=
  match v with
  | .b c => if c then codeS F t e g else codeS F f e g
  | _ => none
def normS (r : Option (Env × G)) : Option (Out × Env × G) :=
  match r with
  | some (e, g) => some (.nrm, e, g)
  | none => none
def blkS (id : Nat) (r : Option (Out × Env × G)) : Option (Out × Env × G) :=
  match r with
  | some (.ext n, e, g) => some (if n = id then .nrm else .ext n, e, g)
  | r => r
theorem cS_reg (draw ops e g) : codeS F (.reg draw ops) e g = normS (regE (callS F) draw g.nx 0 ops e ⟨g.hp, g.nx + ops.length⟩) := codeS_reg F draw ops e g
theorem cS_seq (a b e g) : codeS F (.seq a b) e g = thenS F b (codeS F a e g) := codeS_seq F a b e g
theorem cS_cond (c t f e g) : codeS F (.cond c t f) e g = selS F t f e g (c.ev e) := codeS_cond F c t f e g
theorem cS_blk (id c e g) : codeS F (.blk id c) e g = blkS id (codeS F c e g) := codeS_blk F id c e g
theorem cS_loop (c e g) : codeS F (.loop c) e g = thenS F (.loop c) (codeS F c e g) := codeS_loop F c e g
end
def wantV (v : AV) (w : Bool) : Bool := match v with | .b x => x == w | _ => false
theorem wanted_none (e : Env) : wanted e none = true := rfl
theorem wanted_some (e : Env) (t : Nat) (w : Bool) : wanted e (some (t, w)) = wantV (e t) w := rfl
theorem wantV_1 (x : Bool) : wantV (.b x) true = x := by cases x <;> rfl
theorem wantV_0 (x : Bool) : wantV (.b x) false = !x := by cases x <;> rfl
theorem wantV_undef (w : Bool) : wantV .undef w = false := rfl
section
variable {c : CS} {al : Nat → Bool} {lo id : Nat} {e : Env} {g : G}
theorem ev_t (n : Nat) : Opd.ev e (.t n) = e n := rfl
theorem ev_c (v : AV) : Opd.ev e (.c v) = v := rfl
theorem o_mv (x : Opd) : opE c al lo id (.mv x) e g = some (x.ev e, g) := rfl
theorem o_pick (x y z : Opd) : opE c al lo id (.pick x y z) e g = vPick (x.ev e) (y.ev e) (z.ev e) g := rfl
theorem vPick_t (a b : AV) (g : G) : vPick (.b true) a b g = some (a, g) := rfl
theorem vPick_f (a b : AV) (g : G) : vPick (.b false) a b g = some (b, g) := rfl
theorem o_new (z : List AV) : opE c al lo id (.new z) e g = some (.mp id 0, ⟨upd g.hp id (some (.cells z false)), g.nx⟩) := rfl
theorem o_box (x : Opd) : opE c al lo id (.box x) e g = vBox id (x.ev e) g := rfl
theorem vMap_some (v : AV) : vMap g (some v) = some (v, g) := rfl
theorem vMapL_some (f) (v : List AV) : vMapL f g (some v) = some (f v, g) := rfl
theorem o_build (z : List AV) (ps) : opE c al lo id (.build z ps) e g = vMapL .agg g (fill e z ps) := rfl
theorem o_ld (agg) (x : Opd) : opE c al lo id (.ld agg x) e g = vLd al agg (x.ev e) g := rfl
theorem vLd_ptr (agg cs) : vLd al agg (.ptr cs) g = vMap g (part cs 0 agg) := rfl
theorem o_st (n) (a x : Opd) : opE c al lo id (.st n a x) e g = vSt al n (a.ev e) (x.ev e) g := rfl
theorem o_nilck (x : Opd) : opE c al lo id (.nilck x) e g = vNil (x.ev e) g := rfl
theorem vNil_ptr (cs) : vNil (.ptr cs) g = some (.ptr cs, g) := rfl
theorem vNil_mp (b o) : vNil (.mp b o) g = some (.mp b o, g) := rfl
theorem vNil_fn (f a b) : vNil (.fn f a b) g = some (.fn f a b, g) := rfl
theorem o_bin (op) (x y : Opd) : opE c al lo id (.bin op x y) e g = vMap g (abin op (x.ev e) (y.ev e)) := rfl
theorem o_un (op) (x : Opd) : opE c al lo id (.un op x) e g = vMap g (aun op (x.ev e)) := rfl
theorem o_mkfn (f a b) : opE c al lo id (.mkfn f a b) e g = some (.fn f (a.map (·.ev e)) (b.map (·.ev e)), g) := rfl
theorem o_fa (off) (x : Opd) : opE c al lo id (.fa off x) e g = vFa off (x.ev e) g := rfl
theorem vFa_mp (off b o) : vFa off (.mp b o) g = some (.mp b (o + off), g) := rfl
theorem o_fld (off agg) (x : Opd) : opE c al lo id (.fld off agg x) e g = vFld off agg (x.ev e) g := rfl
theorem vFld_agg (off agg cs) : vFld off agg (.agg cs) g = vMap g (part cs off agg) := rfl
theorem o_ia (esz) (x i : Opd) : opE c al lo id (.ia esz x i) e g = vIa esz (x.ev e) (i.ev e) g := rfl
theorem vIa_sl {esz cs t k} {n : Nat} {z : Int} (h0 : 0 ≤ z) (h : z < n) : vIa esz (.sl cs n t) (.i k z) g = some (.ptr (cs.drop (z.toNat * esz)), g) := if_pos ⟨h0, h⟩
theorem vIa_ms {esz b off k} {n : Nat} {z : Int} (h0 : 0 ≤ z) (h : z < n) : vIa esz (.ms b off n) (.i k z) g = some (.mp b (off + z.toNat * esz), g) := if_pos ⟨h0, h⟩
theorem o_iaa (len esz) (x i : Opd) : opE c al lo id (.iaa len esz x i) e g = vIaa len esz (x.ev e) (i.ev e) g := rfl
theorem vIaa_ptr {esz cs k} {len : Nat} {z : Int} (h0 : 0 ≤ z) (h : z < len) : vIaa len esz (.ptr cs) (.i k z) g = some (.ptr (cs.drop (z.toNat * esz)), g) := if_pos ⟨h0, h⟩
theorem vIaa_mp {esz b off k} {len : Nat} {z : Int} (h0 : 0 ≤ z) (h : z < len) : vIaa len esz (.mp b off) (.i k z) g = some (.mp b (off + z.toNat * esz), g) := if_pos ⟨h0, h⟩
theorem o_len (x : Opd) : opE c al lo id (.len x) e g = vLen (x.ev e) g := rfl
theorem vLen_sl (cs n t) : vLen (.sl cs n t) g = some (.i .i64 n, g) := rfl
theorem vLen_ms (b o n) : vLen (.ms b o n) g = some (.i .i64 n, g) := rfl
theorem o_mx (x y : Opd) : opE c al lo id (.mx x y) e g = vMx (x.ev e) (y.ev e) g := rfl
theorem o_mn (x y : Opd) : opE c al lo id (.mn x y) e g = vMn (x.ev e) (y.ev e) g := rfl
theorem vMx_i (k l a b) : vMx (.i k a) (.i l b) g = some (.i k (if b > a then b else a), g) := rfl
theorem vMn_i (k l a b) : vMn (.i k a) (.i l b) g = some (.i k (if b < a then b else a), g) := rfl
theorem o_ext (i) (x : Opd) : opE c al lo id (.ext i x) e g = vExt i (x.ev e) g := rfl
theorem vExt_tup (i cs) : vExt i (.tup cs) g = vMap g (cs[i]?) := rfl
theorem b_add (k x y) : abin .add (.i k x) (.i k y) = some (.i k (k.wrap (x + y))) := by simp [abin, ibin]
theorem b_sub (k x y) : abin .sub (.i k x) (.i k y) = some (.i k (k.wrap (x - y))) := by simp [abin, ibin]
theorem b_mul (k x y) : abin .mul (.i k x) (.i k y) = some (.i k (k.wrap (x * y))) := by simp [abin, ibin]
theorem b_quo {k x y} (h : y ≠ 0) : abin .quo (.i k x) (.i k y) = some (.i k (k.wrap (x.tdiv y))) := by simp [abin, ibin, h]
theorem b_rem {k x y} (h : y ≠ 0) : abin .rem (.i k x) (.i k y) = some (.i k (x.tmod y)) := by simp [abin, ibin, h]
theorem b_lss (k x y) : abin .lss (.i k x) (.i k y) = some (.b (decide (x < y))) := by simp [abin, ibin]
theorem b_leq (k x y) : abin .leq (.i k x) (.i k y) = some (.b (decide (x ≤ y))) := by simp [abin, ibin]
theorem b_gtr (k x y) : abin .gtr (.i k x) (.i k y) = some (.b (decide (x > y))) := by simp [abin, ibin]
theorem b_geq (k x y) : abin .geq (.i k x) (.i k y) = some (.b (decide (x ≥ y))) := by simp [abin, ibin]
theorem b_eql (k x y) : abin .eql (.i k x) (.i k y) = some (.b (x == y)) := by simp [abin, ibin]
theorem b_neq (k x y) : abin .neq (.i k x) (.i k y) = some (.b (x != y)) := by simp [abin, ibin]
end
def selB (x : Bool) (o : Option Blk) : Option Blk := if x then o else none
theorem selB_true (o) : selB true o = o := rfl
theorem rd_S (g : G) (al : Nat → Bool) (id : Nat) : rd g al id = selB (al id) (g.hp id) := rfl
section
variable {al : Nat → Bool} {g : G}
def ldS (agg : Option Nat) (off : Nat) (g : G) : Option Blk → Option (AV × G)
  | some (.cells cs _) => vMap g (part cs off agg)
  | _ => none
theorem ldS_ok (agg off g cs ro) : ldS agg off g (some (.cells cs ro)) = vMap g (part cs off agg) := rfl
theorem vLd_S (agg b off) : vLd al agg (.mp b off) g = ldS agg off g (selB (al b) (g.hp b)) := rfl
def stD (n b off len m : Nat) (ones : Bool) (cs vs : List AV) (g : G) : Option (AV × G) :=
  if len = n ∧ off + n ≤ m ∧ ones = true then some (.undef, ⟨upd g.hp b (some (.cells (splice cs off vs) false)), g.nx⟩) else none
theorem stD_ok {n b off len m : Nat} {cs vs g} (h : len = n ∧ off + n ≤ m) : stD n b off len m true cs vs g = some (.undef, ⟨upd g.hp b (some (.cells (splice cs off vs) false)), g.nx⟩) := if_pos ⟨h.1, h.2, rfl⟩
def stS (n b off : Nat) (vs : List AV) (g : G) : Option Blk → Option (AV × G)
  | some (.cells cs false) => stD n b off vs.length cs.length (vs.all one) cs vs g
  | _ => none
theorem stS_ok (n b off vs g cs) : stS n b off vs g (some (.cells cs false)) = stD n b off vs.length cs.length (vs.all one) cs vs g := rfl
theorem vSt_S (n b off x) : vSt al n (.mp b off) x g = stS n b off (cellsOf x) g (selB (al b) (g.hp b)) := by
  simp only [vSt]
  rw [rd_S]
  cases selB (al b) (g.hp b) with
  | none => rfl
  | some bl =>
    cases bl with
    | cells cs ro => cases ro <;> rfl
    | map es => rfl
    | tok l => rfl
def boxD (id : Nat) (cs : List AV) (g : G) (x : Bool) : Option (AV × G) := if x then some (.mp id 0, ⟨upd g.hp id (some (.cells cs false)), g.nx⟩) else none
theorem boxD_ok (id cs g) : boxD id cs g true = some (.mp id 0, ⟨upd g.hp id (some (.cells cs false)), g.nx⟩) := rfl
theorem vBox_S (id v) : vBox id v g = boxD id (cellsOf v) g ((cellsOf v).all one) := rfl
def faD (off len : Nat) (cs : List AV) (g : G) : Option (AV × G) := if off < len then some (.ptr (cs.drop off), g) else none
theorem faD_ok {off len : Nat} {cs g} (h : off < len) : faD off len cs g = some (.ptr (cs.drop off), g) := if_pos h
theorem vFa_S (off cs) : vFa off (.ptr cs) g = faD off cs.length cs g := rfl
def fillD (e : Env) (cs : List AV) (off n len m : Nat) (ones : Bool) (vs : List AV) (ps : List (Nat × Nat × Opd)) : Option (List AV) :=
  if len = n ∧ off + n ≤ m ∧ ones = true then fill e (splice cs off vs) ps else none
theorem fillD_ok {e cs off n len m vs ps} (h : len = n ∧ off + n ≤ m) : fillD e cs off n len m true vs ps = fill e (splice cs off vs) ps := if_pos ⟨h.1, h.2, rfl⟩
theorem fill_S (e : Env) (cs : List AV) (off n x ps) : fill e cs ((off, n, x) :: ps) = fillD e cs off n (cellsOf (x.ev e)).length cs.length ((cellsOf (x.ev e)).all one) (cellsOf (x.ev e)) ps := by
  simp only [fill, fillD]
theorem fill_nil (e cs) : fill e cs [] = some cs := rfl
theorem cellsOf_agg (cs) : cellsOf (.agg cs) = cs := rfl
theorem cellsOf_i (k n) : cellsOf (.i k n) = [.i k n] := rfl
theorem cellsOf_b (x) : cellsOf (.b x) = [.b x] := rfl
theorem cellsOf_s (x) : cellsOf (.s x) = [.s x] := rfl
theorem cellsOf_ptr (x) : cellsOf (.ptr x) = [.ptr x] := rfl
theorem cellsOf_nilp : cellsOf .nilp = [.nilp] := rfl
theorem cellsOf_sl (a b c) : cellsOf (.sl a b c) = [.sl a b c] := rfl
theorem cellsOf_mp (a b) : cellsOf (.mp a b) = [.mp a b] := rfl
theorem cellsOf_fn (a b c) : cellsOf (.fn a b c) = [.fn a b c] := rfl
theorem one_i (k n) : one (.i k n) = true := rfl
theorem one_b (x) : one (.b x) = true := rfl
theorem one_s (x) : one (.s x) = true := rfl
theorem one_ptr (x) : one (.ptr x) = true := rfl
theorem one_nilp : one .nilp = true := rfl
theorem one_sl (a b c) : one (.sl a b c) = true := rfl
theorem one_mp (a b) : one (.mp a b) = true := rfl
theorem one_fn (a b c) : one (.fn a b c) = true := rfl
theorem splice_1 (cs off v) : splice cs off [v] = cs.set off v := rfl
theorem splice_2 (a b x y) : splice [a, b] 0 [x, y] = [x, y] := rfl
theorem splice_3 (a b c x y z) : splice [a, b, c] 0 [x, y, z] = [x, y, z] := rfl
theorem part_0 (c cs) : part (c :: cs) 0 none = some c := rfl
theorem part_1 (c d cs) : part (c :: d :: cs) 1 none = some d := rfl
theorem part_2 (a c d cs) : part (a :: c :: d :: cs) 2 none = some d := rfl
def andLe (lo : Nat) (al : Nat → Bool) (i : Nat) : Bool := decide (lo ≤ i) && al i
theorem o_stL {c : CS} {al : Nat → Bool} {lo id : Nat} {e : Env} {g : G} (n a x) : opE c al lo id (.stL n a x) e g = vSt (andLe lo al) n (a.ev e) (x.ev e) g := rfl
theorem andLe_ok {lo : Nat} {al : Nat → Bool} {i : Nat} (h : lo ≤ i) : andLe lo al i = al i := by simp [andLe, h]
theorem allow_hd {base k id : Nat} (l : List Nat) (h : id = base + k) : allow true base (k :: l) id = true := by subst h; simp [allow]
theorem allow_h2 {base k k' id : Nat} (l : List Nat) (h : id = base + k) : allow true base (k' :: k :: l) id = true := by subst h; simp [allow]
theorem part_3 (a b c d : AV) (l : List AV) : part (a :: b :: c :: d :: l) 3 none = some d := rfl
theorem part_4 (a b c d e : AV) (l : List AV) : part (a :: b :: c :: d :: e :: l) 4 none = some e := rfl
theorem part_5 (a b c d e f : AV) (l : List AV) : part (a :: b :: c :: d :: e :: f :: l) 5 none = some f := rfl
theorem cellsOf_ms (a b c) : cellsOf (.ms a b c) = [.ms a b c] := rfl
theorem one_ms (a b c) : one (.ms a b c) = true := rfl
theorem drop_0 (l : List AV) : l.drop 0 = l := rfl
theorem g0_nx : g0.nx = 0 := rfl
theorem g0_hp : g0.hp = fun _ => none := rfl
theorem o_bsl {c : CS} {al : Nat → Bool} {lo id : Nat} {e : Env} {g : G} (imm n z ps) : opE c al lo id (.bsl imm n z ps) e g = vBsl id imm n (fill e z ps) g := rfl
theorem vBsl_t (id n cs) (g : G) : vBsl id true n (some cs) g = vMapL (fun cs => .sl cs n .rig) g (frzL (fun _ => none) depth cs) := rfl
theorem vBsl_f (id n cs) (g : G) : vBsl id false n (some cs) g = some (.ms id 0 n, ⟨upd g.hp id (some (.cells cs false)), g.nx⟩) := rfl
theorem o_app {c : CS} {al : Nat → Bool} {lo id : Nat} {e : Env} {g : G} (esz by' x y) : opE c al lo id (.app esz by' x y) e g = vApp al id esz by' (x.ev e) (y.ev e) g := rfl
def appD (n m esz bytes lc ld : Nat) (r : Option (AV × G)) : Option (AV × G) := if (n + m) * bytes ≤ 2 ^ 46 ∧ n + m ≤ 2 ^ 62 ∧ lc = n * esz ∧ ld = m * esz then r else none
theorem appD_ok {n m esz bytes lc ld r} (h : (n + m) * bytes ≤ 2 ^ 46 ∧ n + m ≤ 2 ^ 62 ∧ lc = n * esz ∧ ld = m * esz) : appD n m esz bytes lc ld r = r := if_pos h
theorem vApp_rig {id esz bytes cs n ds m t2} (h : m ≠ 0) : vApp al id esz bytes (.sl cs n .rig) (.sl ds m t2) g = appD n m esz bytes cs.length ds.length (some (.sl (cs ++ ds) (n + m) (.own id esz), ⟨upd g.hp id (some (.tok true)), g.nx⟩)) := by
  simp only [vApp, vSrc, if_neg h]; rfl
theorem vApp_rig0 {id esz bytes cs n ds t2} : vApp al id esz bytes (.sl cs n .rig) (.sl ds 0 t2) g = appD n 0 esz bytes cs.length ds.length (some (.sl cs n .rig, g)) := by
  simp only [vApp, vSrc, if_true]; rfl
def appK (id esz tk n : Nat) (cs : List AV) (g : G) : Option Blk → Option (AV × G)
  | some (.tok true) => some (.sl cs n (.own id esz), ⟨upd (upd g.hp tk (some (.tok false))) id (some (.tok true)), g.nx⟩)
  | _ => none
theorem appK_ok (id esz tk n cs g) : appK id esz tk n cs g (some (.tok true)) = some (.sl cs n (.own id esz), ⟨upd (upd g.hp tk (some (.tok false))) id (some (.tok true)), g.nx⟩) := rfl
theorem vApp_own {id esz bytes cs n tk ds m t2} : vApp al id esz bytes (.sl cs n (.own tk esz)) (.sl ds m t2) g = appD n m esz bytes cs.length ds.length (appK id esz tk (n + m) (cs ++ ds) g (selB (al tk) (g.hp tk))) := by
  simp only [vApp, vSrc, rd_S]
  unfold appD appK
  split
  · cases selB (al tk) (g.hp tk) with
    | none => rfl
    | some b =>
      cases b with
      | tok x => cases x <;> simp
      | cells _ _ => rfl
      | map _ => rfl
  · rfl
theorem o_eqn {c : CS} {al : Nat → Bool} {lo id : Nat} {e : Env} {g : G} (neg x y) : opE c al lo id (.eqn neg x y) e g = vMap g (negb neg (aeqn (x.ev e) (y.ev e))) := rfl
theorem o_eqb {c : CS} {al : Nat → Bool} {lo id : Nat} {e : Env} {g : G} (neg x y) : opE c al lo id (.eqb neg x y) e g = vMap g (negb neg (aeqb (x.ev e) (y.ev e))) := rfl
theorem o_eqa {c : CS} {al : Nat → Bool} {lo id : Nat} {e : Env} {g : G} (neg ks x y) : opE c al lo id (.eqa neg ks x y) e g = vMap g (negb neg (aeqa ks (x.ev e) (y.ev e))) := rfl
theorem aeqn_pn (cs) : aeqn (.ptr cs) .nilp = some false := rfl
theorem aeqn_np (cs) : aeqn .nilp (.ptr cs) = some false := rfl
theorem aeqn_mn (a b) : aeqn (.mp a b) .nilp = some false := rfl
theorem aeqn_nn : aeqn .nilp .nilp = some true := rfl
theorem aeqb_bb (x y) : aeqb (.b x) (.b y) = some (x == y) := rfl
theorem negb_t (x) : negb true (some x) = some (.b (!x)) := rfl
theorem negb_f (x) : negb false (some x) = some (.b x) := rfl
theorem aun_not (x) : aun .not (.b x) = some (.b !x) := rfl
end
end Go.Ab
end
